import PyProof.Rows.All
import Wide.All
import OpenK.AllK
import Wide.FinOn
import HandS.ForMost
import HandS.ForExc
import HandS.Wide
import HandS.WideBits
import HandS.IsInst
import HandS.TupAny
import HandS.Zip
import HandS.Conv
import HandS.Flow
import HandS.TupMul
import HandS.Style
import HandS.SetFor
import PyProof.StrBlock2
import HandS.SortInts
import PySem.Challenge.RW_stretchcode_k04_whole_each_number_in_one
set_option Elab.async false
set_option linter.all false
set_option maxRecDepth 100000
set_option maxHeartbeats 4000000
set_option pp.maxSteps 4000
/-! Parts of the heap: what is owned, what stays. -/
namespace G
open PySem L2

/-- what never changes -/
def Cst : HO → Prop
  | .tup _ => True
  | .frz _ _ => True
  | _ => False
def Keep (H H' : Hp) : Prop := ∀ a o, Cst o → H a = some o → H' a = some o
theorem Keep.refl (H : Hp) : Keep H H := fun _ _ _ h => h
theorem Keep.trans {A B C : Hp} (x : Keep A B) (y : Keep B C) : Keep A C := fun a o c h => y a o c (x a o c h)
theorem Keep.new {H : Hp} {p : Addr} {o : HO} (h : H p = none) : Keep H (upd H p o) := fun a u _ e => by
  rw [upd_ne (ne_of_none e h)]; exact e
theorem Keep.put {H : Hp} {p : Addr} {o u : HO} (h : H p = some o) (n : ¬ Cst o) : Keep H (upd H p u) := fun a v c e => by
  have : a ≠ p := fun z => by subst z; rw [h] at e; cases e; exact n c
  rw [upd_ne this]; exact e

/-- an assertion about a part of the heap -/
structure SA where
  p : Hp → Hp → Prop
  mono : ∀ {H H' own : Hp}, Keep H H' → p H own → p H' own

def Sub (own H : Hp) : Prop := ∀ a o, own a = some o → H a = some o
def Bare (own : Hp) : Prop := ∀ a o, own a = some o → ¬ Cst o
def no : Hp := fun _ => none
def HSx (H : Hp) : (Addr → Prop) → List SA → Prop
  | _, [] => True
  | T, A :: L => ∃ own, Sub own H ∧ Bare own ∧ (∀ a, T a → own a = none) ∧ A.p H own ∧ HSx H (fun a => T a ∨ own a ≠ none) L
/-- the assertions hold of parts that lie apart -/
class HS (H : Hp) (L : outParam (List SA)) : Prop where
  x : HSx H (fun _ => False) L

theorem HSx.weak {H : Hp} : ∀ {L : List SA} {T T' : Addr → Prop}, (∀ a, T' a → T a) → HSx H T L → HSx H T' L
  | [], _, _, _, _ => trivial
  | _ :: _, _, _, w, ⟨own, s, b, d, p, r⟩ => ⟨own, s, b, fun a t => d a (w a t), p, HSx.weak (fun a t => Or.imp (w a) id t) r⟩
theorem HSx.swap {H : Hp} {A B : SA} {L : List SA} {T : Addr → Prop} : HSx H T (A :: B :: L) → HSx H T (B :: A :: L)
  | ⟨o1, s1, b1, d1, p1, o2, s2, b2, d2, p2, r⟩ =>
    ⟨o2, s2, b2, fun a t => d2 a (.inl t), p2, o1, s1, b1, fun a t => Or.elim t (d1 a) (fun n => by
      cases e : o1 a with
      | none => rfl
      | some u => exact absurd (d2 a (.inr (by rw [e]; exact fun z => nomatch z))) n), p1,
      HSx.weak (fun a t => by
        rcases t with (t | t) | t
        · exact .inl (.inl t)
        · exact .inr t
        · exact .inl (.inr t)) r⟩
theorem HSx.cong {H : Hp} {A : SA} {L L' : List SA} (f : ∀ T, HSx H T L → HSx H T L') {T : Addr → Prop} : HSx H T (A :: L) → HSx H T (A :: L')
  | ⟨own, s, b, d, p, r⟩ => ⟨own, s, b, d, p, f _ r⟩
theorem HSx.drop {H : Hp} {A : SA} {L : List SA} {T : Addr → Prop} : HSx H T (A :: L) → HSx H T L
  | ⟨_, _, _, _, _, r⟩ => HSx.weak (fun _ t => .inl t) r
theorem HSx.imp {H : Hp} {A B : SA} {L : List SA} {T : Addr → Prop} (f : ∀ own, A.p H own → B.p H own) : HSx H T (A :: L) → HSx H T (B :: L)
  | ⟨own, s, b, d, p, r⟩ => ⟨own, s, b, d, f own p, r⟩
/-- the heap changes where nothing of T and of these parts lies -/
theorem HSx.move {H H' : Hp} (K : Keep H H') : ∀ {L : List SA} {T : Addr → Prop}, (∀ a o, ¬ T a → ¬ Cst o → H a = some o → H' a = some o) → HSx H T L → HSx H' T L
  | [], _, _, _ => trivial
  | A :: L, T, f, ⟨own, s, b, d, p, r⟩ => ⟨own, fun a o e => f a o (fun t => by rw [d a t] at e; cases e) (b a o e) (s a o e), b, d, A.mono K p,
      HSx.move K (fun a o n c e => f a o (fun t => n (.inl t)) c e) r⟩
theorem HSx.move0 {H H' : Hp} (K : Keep H H') {L : List SA} {T : Addr → Prop} (f : ∀ a o, ¬ T a → ¬ Cst o → H a = some o → H' a = some o) (h : HSx H T L) : HSx H' T L := HSx.move K f h

/-! ### moving -/
/-- A stands in L, the others are L' -/
inductive Pick : List SA → SA → List SA → Prop
  | here {A L} : Pick (A :: L) A L
  | there {A B L L'} : Pick L A L' → Pick (B :: L) A (B :: L')
theorem Pick.x {H : Hp} {L L' : List SA} {A : SA} (k : Pick L A L') : ∀ {T : Addr → Prop}, HSx H T L → HSx H T (A :: L') := by
  induction k with
  | here => exact fun h => h
  | there _ ih => exact fun h => HSx.swap (HSx.cong (fun _ => ih) h)
/-- what an assertion is about -/
class Key (A : SA) (a : outParam Addr) : Prop where
/-- A, about a, stands in L; the others are L' -/
class Own (L : List SA) (a : Addr) (A : outParam SA) (L' : outParam (List SA)) : Prop where
  pk : Pick L A L'
instance (priority := high) ownHere {A : SA} {L : List SA} {a : Addr} [Key A a] : Own (A :: L) a A L := ⟨.here⟩
instance (priority := low) ownThere {A B : SA} {L L' : List SA} {a : Addr} [o : Own L a A L'] : Own (B :: L) a A (B :: L') := ⟨.there o.pk⟩
theorem HS.pk {H : Hp} {L L' : List SA} {A : SA} (h : HS H L) (k : Pick L A L') : HS H (A :: L') := ⟨k.x h.x⟩
theorem HS.pk2 {H : Hp} {L L1 L2 : List SA} {A B : SA} (h : HS H L) (k : Pick L A L1) (k2 : Pick L1 B L2) : HS H (A :: B :: L2) := ⟨HSx.cong (fun _ => k2.x) (k.x h.x)⟩
theorem HS.pk3 {H : Hp} {L L1 L2 L3 : List SA} {A B C : SA} (h : HS H L) (k : Pick L A L1) (k2 : Pick L1 B L2) (k3 : Pick L2 C L3) : HS H (A :: B :: C :: L3) :=
  ⟨HSx.cong (fun _ => HSx.cong (fun _ => k3.x)) (HSx.cong (fun _ => k2.x) (k.x h.x))⟩
theorem HS.pk4 {H : Hp} {L L1 L2 L3 L4 : List SA} {A B C D : SA} (h : HS H L) (k : Pick L A L1) (k2 : Pick L1 B L2) (k3 : Pick L2 C L3) (k4 : Pick L3 D L4) : HS H (A :: B :: C :: D :: L4) :=
  ⟨HSx.cong (fun _ => HSx.cong (fun _ => HSx.cong (fun _ => k4.x))) (HS.pk3 h k k2 k3).x⟩
theorem HS.drop {H : Hp} {A : SA} {L : List SA} (h : HS H (A :: L)) : HS H L := ⟨HSx.drop h.x⟩
theorem HS.imp {H : Hp} {A B : SA} {L : List SA} (f : ∀ own, A.p H own → B.p H own) (h : HS H (A :: L)) : HS H (B :: L) := ⟨HSx.imp f h.x⟩
theorem HS.nil {H : Hp} : HS H [] := ⟨trivial⟩

/-! ### the plain assertions -/
def sg (a : Addr) (o : HO) : Hp := fun b => if b = a then some o else none
theorem sg_at {a : Addr} {o : HO} : sg a o a = some o := if_pos rfl
theorem sg_ne {a b : Addr} {o : HO} (h : b ≠ a) : sg a o b = none := if_neg h
theorem sg_inv {a b : Addr} {o u : HO} (h : sg a o b = some u) : b = a ∧ u = o := by
  unfold sg at h; split at h
  · exact ⟨‹_›, (Option.some.inj h).symm⟩
  · cases h
def pt (a : Addr) (o : HO) : SA := ⟨fun _ own => own = sg a o, fun _ h => h⟩
def obf (a C dx : Addr) (fs : List (Str × V)) : Hp := fun b => if b = a then some (.ins C dx fs) else if b = dx then some (.own a) else none
def ob (a C : Addr) (fs : List (Str × V)) : SA := ⟨fun _ own => ∃ dx, dx ≠ a ∧ own = obf a C dx fs, fun _ h => h⟩
/-- a fact that stays -/
def Stays (f : Hp → Prop) : Prop := ∀ H H', Keep H H' → f H → f H'
def pf (f : Hp → Prop) (m : Stays f) : SA := ⟨fun H own => own = no ∧ f H, fun k h => ⟨h.1, m _ _ k h.2⟩⟩
theorem stays_tp (a : Addr) (xs : List V) : Stays (fun H => H a = some (.tup xs)) := fun _ _ k h => k _ _ trivial h
def tp (a : Addr) (xs : List V) : SA := pf (fun H => H a = some (.tup xs)) (stays_tp a xs)
/-- a list of the module -/
def SqK (K : PySem.W.Frag) (a : Addr) (xs : List V) : Prop := ∃ (o : Obj) (its : Array Value) (n : Nat), K.lookup a = some o ∧ o.cls = .type "list" ∧ o.dict = none ∧ o.data = .seq its n ∧ its.size ≤ sizeLine ∧ Vals xs its.toList
theorem stays_fz (K : PySem.W.Frag) (a : Addr) (xs : List V) : Stays (fun H => (∃ o, H a = some (.frz o (.lst xs))) ∨ SqK K a xs) := fun _ _ k h => h.imp (fun ⟨o, h⟩ => ⟨o, k _ _ trivial h⟩) id
/-- the script -/
def fz (K : PySem.W.Frag) (a : Addr) (xs : List V) : SA := pf (fun H => (∃ o, H a = some (.frz o (.lst xs))) ∨ SqK K a xs) (stays_fz K a xs)
def pu (f : Prop) : SA := pf (fun _ => f) (fun _ _ _ h => h)
def exA {α : Type} (f : α → SA) : SA := ⟨fun H own => ∃ x, (f x).p H own, fun k ⟨x, h⟩ => ⟨x, (f x).mono k h⟩⟩
def uni (x y : Hp) : Hp := fun a => match x a with | some o => some o | none => y a
def st (A B : SA) : SA := ⟨fun H own => ∃ x y, own = uni x y ∧ (∀ a, x a = none ∨ y a = none) ∧ A.p H x ∧ B.p H y, fun k ⟨x, y, e, d, p, q⟩ => ⟨x, y, e, d, A.mono k p, B.mono k q⟩⟩

theorem uni_l {x y : Hp} {a : Addr} {o : HO} (h : x a = some o) : uni x y a = some o := by unfold uni; rw [h]
theorem uni_r {x y : Hp} {a : Addr} (h : x a = none) : uni x y a = y a := by unfold uni; rw [h]
theorem uni_none {x y : Hp} {a : Addr} (h : uni x y a = none) : x a = none ∧ y a = none := by
  unfold uni at h; cases e : x a with
  | none => rw [e] at h; exact ⟨rfl, h⟩
  | some u => rw [e] at h; cases h

/-- A itself stands in L -/
class PickI (L : List SA) (A : SA) (R : outParam (List SA)) : Prop where
  pk : Pick L A R
instance (priority := high) pickIHere {A : SA} {L : List SA} : PickI (A :: L) A L := ⟨.here⟩
instance (priority := low) pickIThere {A B : SA} {L R : List SA} [o : PickI L A R] : PickI (B :: L) A (B :: R) := ⟨.there o.pk⟩
/-- from these parts to those: turned about, some left out -/
class Re (L L' : List SA) : Prop where
  reX : ∀ {H : Hp} {T : Addr → Prop}, HSx H T L → HSx H T L'
instance (priority := 2000) reRefl {L : List SA} : Re L L := ⟨fun h => h⟩
instance (priority := 1500) reNil {L : List SA} : Re L [] := ⟨fun _ => trivial⟩
instance (priority := 1000) reCons {L L' R : List SA} {A : SA} [o : PickI L A R] [r : Re R L'] : Re L (A :: L') := ⟨fun h => HSx.cong (fun _ => r.reX) (o.pk.x h)⟩
instance (priority := 500) reDrop {L L' : List SA} {B : SA} [r : Re L L'] : Re (B :: L) L' := ⟨fun h => r.reX h.drop⟩
theorem HS.re {H : Hp} {L L' : List SA} [r : Re L L'] (h : HS H L) : HS H L' := ⟨r.reX h.x⟩
instance {a : Addr} {o : HO} : Key (pt a o) a := ⟨⟩
instance {a C : Addr} {fs : List (Str × V)} : Key (ob a C fs) a := ⟨⟩
instance {a : Addr} {xs : List V} : Key (tp a xs) a := ⟨⟩
instance {K : PySem.W.Frag} {a : Addr} {xs : List V} : Key (fz K a xs) a := ⟨⟩
section
variable {H : Hp} {L L' : List SA} {A B : SA} {a p C dx : Addr} {o o' : HO} {fs fs' : List (Str × V)} {f : Hp → Prop} {m : Stays f}
theorem HS.fact (h : HS H (pf f m :: L)) : f H := let ⟨_, _, _, _, q, _⟩ := h.x; q.2
theorem HS.add (h : HS H L) (q : f H) : HS H (pf f m :: L) := by
  refine ⟨no, fun _ _ e => ?_, fun _ _ e => ?_, fun _ _ => rfl, ⟨rfl, q⟩, HSx.weak (fun a t => ?_) h.x⟩
  · cases e
  · cases e
  · rcases t with t | t
    · exact t
    · exact (t rfl).elim
theorem HS.dup (h : HS H (pf f m :: L)) : HS H (pf f m :: pf f m :: L) := h.add h.fact
theorem HS.get (h : HS H (pt a o :: L)) : H a = some o := by
  obtain ⟨own, s, _, _, e, _⟩ := h.x
  have e' : own = sg a o := e
  subst e'; exact s _ _ sg_at
theorem HS.bare (h : HS H (pt a o :: L)) : ¬ Cst o := by
  obtain ⟨own, _, b, _, e, _⟩ := h.x
  have e' : own = sg a o := e
  subst e'; exact b _ _ sg_at
theorem HS.ins (h : HS H (ob a C fs :: L)) : ∃ dx, H a = some (.ins C dx fs) := by
  obtain ⟨own, s, _, _, ⟨dx, _, e⟩, _⟩ := h.x
  subst e; exact ⟨dx, s a _ (if_pos rfl)⟩
/-- a new object -/
theorem HS.new (h : HS H L) (hp : H p = none) (n : ¬ Cst o) : HS (upd H p o) (pt p o :: L) := by
  refine ⟨sg p o, fun b u e => ?_, fun b u e => ?_, fun _ t => False.elim t, rfl, ?_⟩
  · obtain ⟨rfl, rfl⟩ := sg_inv e; exact upd_same
  · obtain ⟨_, rfl⟩ := sg_inv e; exact n
  · have aux : ∀ {L : List SA} {T : Addr → Prop}, HSx H T L → HSx H (fun b => T b ∨ sg p o b ≠ none) L := by
      intro L
      induction L with
      | nil => intro T h; trivial
      | cons A L ih =>
        rintro T ⟨own, s, b, d, q, r⟩
        refine ⟨own, s, b, fun c t => Or.elim t (d c) fun t => ?_, q, HSx.weak ?_ (ih r)⟩
        · cases e : own c with
          | none => rfl
          | some u =>
            have hc : c = p := by
              unfold sg at t; split at t
              · assumption
              · exact absurd rfl t
            rw [hc] at e; rw [s _ _ e] at hp; cases hp
        · rintro c ((t | t) | t)
          · exact .inl (.inl t)
          · exact .inr t
          · exact .inl (.inr t)
    refine HSx.move (Keep.new hp) (fun b u nt _ e => ?_) (aux h.x)
    rw [upd_ne (ne_of_none e hp)]; exact e
/-- a new object that stays -/
theorem HS.newT {xs : List V} (h : HS H L) (hp : H p = none) : HS (upd H p (.tup xs)) (tp p xs :: L) := by
  refine HS.add ⟨HSx.move (Keep.new hp) (fun b u _ _ e => ?_) h.x⟩ upd_same
  rw [upd_ne (ne_of_none e hp)]; exact e
/-- an object is written -/
theorem HS.put (h : HS H (pt a o :: L)) (n : ¬ Cst o') : HS (upd H a o') (pt a o' :: L) := by
  have hg := h.get
  have hb := h.bare
  obtain ⟨own, s, b, d, e, r⟩ := h.x
  have e' : own = sg a o := e
  subst e'
  refine ⟨sg a o', fun b u e => ?_, fun b u e => ?_, fun _ t => False.elim t, rfl, ?_⟩
  · obtain ⟨rfl, rfl⟩ := sg_inv e; exact upd_same
  · obtain ⟨_, rfl⟩ := sg_inv e; exact n
  · refine HSx.move (Keep.put hg hb) (fun c u nt _ e => ?_) (HSx.weak (fun c t => ?_) r)
    · have : c ≠ a := fun z => nt (.inr (by rw [z, sg_at]; exact fun q => nomatch q))
      rw [upd_ne this]; exact e
    · refine Or.imp id (fun t => ?_) t
      have hc : c = a := by
        unfold sg at t; split at t
        · assumption
        · exact absurd rfl t
      rw [hc, sg_at]; exact fun q => nomatch q
theorem obf_inv {b : Addr} {u : HO} (h : obf a C dx fs b = some u) : (b = a ∧ u = .ins C dx fs) ∨ (b = dx ∧ u = .own a) := by
  unfold obf at h; split at h
  · exact .inl ⟨‹_›, (Option.some.inj h).symm⟩
  · split at h
    · exact .inr ⟨‹_›, (Option.some.inj h).symm⟩
    · cases h
theorem obf_at {b : Addr} (h : obf a C dx fs b ≠ none) : b = a ∨ b = dx := by
  cases e : obf a C dx fs b with
  | none => exact absurd e h
  | some u => exact (obf_inv e).imp And.left And.left
theorem obf_a : obf a C dx fs a = some (.ins C dx fs) := if_pos rfl
theorem obf_d (h : dx ≠ a) : obf a C dx fs dx = some (.own a) := by unfold obf; rw [if_neg h, if_pos rfl]
/-- a field is written -/
theorem HS.fld (h : HS H (ob a C fs :: L)) (g : H a = some (.ins C dx fs)) : HS (upd H a (.ins C dx fs')) (ob a C fs' :: L) := by
  obtain ⟨own, s, b, d, ⟨dx', ne, e⟩, r⟩ := h.x
  subst e
  have ed : dx' = dx := by have := s a _ obf_a; rw [g] at this; cases this; rfl
  subst ed
  refine ⟨obf a C dx' fs', fun c u e => ?_, fun c u e => ?_, fun _ t => False.elim t, ⟨dx', ne, rfl⟩, ?_⟩
  · rcases obf_inv e with ⟨rfl, rfl⟩ | ⟨rfl, rfl⟩
    · exact upd_same
    · rw [upd_ne ne]; exact s _ _ (obf_d ne)
  · rcases obf_inv e with ⟨_, rfl⟩ | ⟨_, rfl⟩ <;> exact id
  · refine HSx.move (Keep.put g id) (fun c u nt _ e => ?_) (HSx.weak (fun c t => ?_) r)
    · have : c ≠ a := fun z => nt (.inr (by rw [z, obf_a]; exact fun q => nomatch q))
      rw [upd_ne this]; exact e
    · refine Or.imp id (fun t => ?_) t
      rcases obf_at t with rfl | rfl
      · rw [obf_a]; exact fun q => nomatch q
      · rw [obf_d ne]; exact fun q => nomatch q
theorem HS.st_in (h : HS H (st A B :: L)) : HS H (A :: B :: L) := by
  obtain ⟨own, s, b, d, ⟨x, y, e, dj, pa, pb⟩, r⟩ := h.x
  subst e
  refine ⟨x, fun c u e => s c u (uni_l e), fun c u e => b c u (uni_l e), fun _ t => False.elim t, pa, y, fun c u e => ?_, fun c u e => ?_, fun c t => ?_, pb, HSx.weak ?_ r⟩
  · have hx : x c = none := (dj c).resolve_right fun z => by rw [z] at e; cases e
    exact s c u (by rw [uni_r hx]; exact e)
  · have hx : x c = none := (dj c).resolve_right fun z => by rw [z] at e; cases e
    exact b c u (by rw [uni_r hx]; exact e)
  · exact Or.elim t (fun t => False.elim t) fun t => (dj c).resolve_left t
  · rintro c ((t | t) | t)
    · exact False.elim t
    · exact .inr fun z => t (uni_none z).1
    · exact .inr fun z => t (uni_none z).2
theorem HS.st_out (h : HS H (A :: B :: L)) : HS H (st A B :: L) := by
  obtain ⟨x, sx, bx, _, pa, y, sy, by', dy, pb, r⟩ := h.x
  have dj : ∀ a, x a = none ∨ y a = none := fun a => by
    cases e : x a with
    | none => exact .inl rfl
    | some u => exact .inr (dy a (.inr (by rw [e]; exact fun z => nomatch z)))
  refine ⟨uni x y, fun c u e => ?_, fun c u e => ?_, fun _ t => False.elim t, ⟨x, y, rfl, dj, pa, pb⟩, HSx.weak ?_ r⟩
  · cases q : x c with
    | none => rw [uni_r q] at e; exact sy c u e
    | some v => rw [uni_l q] at e; cases e; exact sx c _ q
  · cases q : x c with
    | none => rw [uni_r q] at e; exact by' c u e
    | some v => rw [uni_l q] at e; cases e; exact bx c _ q
  · rintro c (t | t)
    · exact False.elim t
    · cases q : x c with
      | none => rw [uni_r q] at t; exact .inr t
      | some v => exact .inl (.inr (by rw [q]; exact fun z => nomatch z))
theorem HS.ex_in {α : Type} {g : α → SA} (h : HS H (exA g :: L)) : ∃ x, HS H (g x :: L) := by
  obtain ⟨own, s, b, d, ⟨x, e⟩, r⟩ := h.x
  exact ⟨x, ⟨own, s, b, d, e, r⟩⟩
theorem HS.ex_out {α : Type} {g : α → SA} (x : α) (h : HS H (g x :: L)) : HS H (exA g :: L) := by
  obtain ⟨own, s, b, d, e, r⟩ := h.x
  exact ⟨own, s, b, d, ⟨x, e⟩, r⟩
/-- a new instance -/
theorem HS.make {x : Addr} (h : HS H L) (hx : H x = none) (hd : H dx = none) (ne : dx ≠ x) : HS (upd (upd H dx (.own x)) x (.ins C dx [])) (ob x C [] :: L) := by
  have h1 := h.new (o := .own x) hd id
  have hx' : (upd H dx (.own x)) x = none := by rw [upd_ne ne.symm]; exact hx
  have h2 := h1.new (o := .ins C dx []) hx' id
  obtain ⟨x1, sx, bx, _, pa, y, sy, by', dy, pb, r⟩ := h2.x
  have ex : x1 = sg x (.ins C dx []) := pa
  have ey : y = sg dx (.own x) := pb
  subst ex; subst ey
  refine ⟨obf x C dx [], fun c u e => ?_, fun c u e => ?_, fun _ t => False.elim t, ⟨dx, ne, rfl⟩, HSx.weak ?_ r⟩
  · rcases obf_inv e with ⟨rfl, rfl⟩ | ⟨rfl, rfl⟩
    · exact sx _ _ sg_at
    · exact sy _ _ sg_at
  · rcases obf_inv e with ⟨_, rfl⟩ | ⟨_, rfl⟩ <;> exact id
  · rintro c (t | t)
    · exact False.elim t
    · rcases obf_at t with rfl | rfl
      · exact .inl (.inr (by rw [sg_at]; exact fun q => nomatch q))
      · exact .inr (by rw [sg_at]; exact fun q => nomatch q)
end
end G

/-! Rules for values of any kind, callees in bundles, readings step by step. -/
namespace G
open PySem L2

/-! ### callees -/
structure Cal (P : Program) (w : World) (K : PySem.W.Frag) (mg : Str → Option Value) (base : Heap) (C : CXT) (k : Nat) (x : Str) (ps : List Str) (sp : Sp) : Prop where
  ex : ∃ f fd, mg x = some (.ref f) ∧ PySem.W.keepIn K (.ref f) = true ∧ Binds K fd ps [] ∧ FnOk P w K mg base C k f fd ps sp
structure CalM (P : Program) (w : World) (K : PySem.W.Frag) (mg : Str → Option Value) (base : Heap) (C : CXT) (k : Nat) (a : Addr) (m : Str) (ps : List Str) (sp : Sp) : Prop where
  ex : ∃ f fd, Meth K a m f ∧ Binds K fd ps [] ∧ FnOk P w K mg base C k f fd ps sp
structure CalC (P : Program) (w : World) (K : PySem.W.Frag) (mg : Str → Option Value) (base : Heap) (C : CXT) (k : Nat) (a : Addr) (x : Str) (ps : List Str) (sp : Sp) : Prop where
  ex : ∃ f fd, Mk K a f ∧ mg x = some (.ref a) ∧ Binds K fd ps [] ∧ FnOk P w K mg base C k f fd ps sp
section
variable {X : Cx} {C : CXT} {k : Nat} {a : Addr} {ps : List Str} {sp : Sp} {E : XK} {x m : Str} {p pos apos : Pos} {e o : Expr} {es : List Expr} {ta : TE} {t : TA}
theorem pe_cal (c : Cal X.prog X.w X.K X.mg X.base C k x ps sp) (hr : Room k X.A) (hg : Gl X x) (hx : Passes C X E)
    (ha : PA X (e :: es) t) (hdb : (x == ("__debug__" : Str)) = false := by decide) (he : starEach (e :: es) X.env = (false, eval e X.env) :: starEach es X.env := by rfl) (hpl : (backTo pos (starEach es X.env)).any (·.1) = false := by rfl) :
    PE X (.Call (.Name x p) (e :: es) [] pos) (tCall sp [] E t) := by
  obtain ⟨f, fd, h1, h2, h3, h4⟩ := c.ex
  exact pe_call h4 hr hg h1 h2 h3 .nil hx ha hdb he hpl
theorem pe_cal0 (c : Cal X.prog X.w X.K X.mg X.base C k x ps sp) (hr : Room k X.A) (hg : Gl X x) (hx : Passes C X E) (hdb : (x == ("__debug__" : Str)) = false := by decide) :
    PE X (.Call (.Name x p) [] [] pos) (tCall sp [] E tNil) := by
  obtain ⟨f, fd, h1, h2, h3, h4⟩ := c.ex
  exact pe_call0 h4 hr hg h1 h2 h3 .nil hx hdb
theorem pe_calM {pl : Sem Bool} (he : PE X o ta) (cl : Cls X.K a) (c : CalM X.prog X.w X.K X.mg X.base C k a m ps sp) (hr : Room k X.A) (hx : Passes C X E) (ha : PA X (e :: es) t)
    (hst : starEach (e :: es) X.env = (false, eval e X.env) :: starEach es X.env := by rfl) (hpl : (backTo pos (starEach es X.env)).any (·.1) = false := by rfl)
    (ht : eval (.Call (.Attribute o m apos) (e :: es) [] pos) X.env = (do
      let ov ← eval o X.env
      standAt apos.atName
      let (f, first) ← holding [ov] (getMethod ov m pl)
      callWith pos f first (backTo pos (starEach (e :: es) X.env)) (backToKw pos (keywordEach [] X.env))) := by rfl) :
    PE X (.Call (.Attribute o m apos) (e :: es) [] pos) (tMeth a m sp [] E ta t) := by
  obtain ⟨f, fd, h1, h3, h4⟩ := c.ex
  exact pe_meth he cl h1 h4 hr h3 .nil hx ha hst hpl ht
theorem pe_calM0 {pl : Sem Bool} (he : PE X o ta) (cl : Cls X.K a) (c : CalM X.prog X.w X.K X.mg X.base C k a m ps sp) (hr : Room k X.A) (hx : Passes C X E)
    (ht : eval (.Call (.Attribute o m apos) [] [] pos) X.env = (do
      let ov ← eval o X.env
      standAt apos.atName
      let (f, first) ← holding [ov] (getMethod ov m pl)
      callWith pos f first (backTo pos (starEach [] X.env)) (backToKw pos (keywordEach [] X.env))) := by rfl) :
    PE X (.Call (.Attribute o m apos) [] [] pos) (tMeth a m sp [] E ta tNil) := by
  obtain ⟨f, fd, h1, h3, h4⟩ := c.ex
  exact pe_meth0 he cl h1 h4 hr h3 .nil hx ht
theorem pe_calC (c : CalC X.prog X.w X.K X.mg X.base C k a x ps sp) (hr : Room (k + 1) X.A) (hg : Gl X x) (hx : Passes C X E) (ha : PA X (e :: es) t)
    (hdb : (x == ("__debug__" : Str)) = false := by decide) (he : starEach (e :: es) X.env = (false, eval e X.env) :: starEach es X.env := by rfl) (hpl : (backTo pos (starEach es X.env)).any (·.1) = false := by rfl) :
    PE X (.Call (.Name x p) (e :: es) [] pos) (tMake a sp [] E t) := by
  obtain ⟨f, fd, h1, h2, h3, h4⟩ := c.ex
  exact pe_make h1 h4 hr hg h2 h3 .nil hx ha hdb he hpl

/-! ### either of two rules -/
theorem PE.or {e : Expr} {t u : TE} (h : PE X e t) (h' : PE X e u) : PE X e (fun σ H Q => t σ H Q ∨ u σ H Q) := ⟨fun pins s σ H Q I q => q.elim (h.run pins s σ H Q I) (h'.run pins s σ H Q I)⟩
def tOr2 (t u : TE) : TE := fun σ H Q => t σ H Q ∨ u σ H Q
theorem pe_or2 {e : Expr} {t u : TE} (h : PE X e t) (h' : PE X e u) : PE X e (tOr2 t u) := PE.or h h'
def iOr (t u : TI) : TI := fun σ H R => t σ H R ∨ u σ H R
theorem pi_or {tg e : Expr} {t u : TI} (h : PI X tg e t) (h' : PI X tg e u) : PI X tg e (iOr t u) := ⟨fun pins s σ H R I q => q.elim (h.run pins s σ H R I) (h'.run pins s σ H R I)⟩
/-- a for over a list, a tuple, a text -/
def iAny (K : PySem.W.Frag) (te : TE) : TI := iOr (iList K te) (iOr (iTup K te) (iStr te))
theorem pi_any {tg e : Expr} {te : TE} (h : PE X e te) : PI X tg e (iAny X.K te) := pi_or (pi_list h) (pi_or (pi_tup h) (pi_str h))
end

/-! ### operators -/
section
variable {X : Cx}
def rAddS : R2 := fun x y H Q => ∃ i j, x = .str i ∧ y = .str j ∧ i.length + j.length ≤ sizeLine ∧ Q (.str (i ++ j)) H
def rAddI : R2 := rI0 fun i j => .int (i + j)
def rAdd (K : PySem.W.Frag) : R2 := fun x y H Q => rAddI x y H Q ∨ (rAddS x y H Q ∨ (rCat x y H Q ∨ rCatA K x y H Q))
theorem op_addG : OpR X (binaryOp .Add) (rAdd X.K) := OpR.or (r := rAddI) op_add (OpR.or (r := rAddS) op_add_str (op_cat.or op_catA))
def rSubI : R2 := rI0 fun i j => .int (i - j)
theorem op_subG : OpR X (binaryOp .Sub) rSubI := op_sub
def rMulS : R2 := fun x y H Q => ∃ z n, x = .str z ∧ y = .int n ∧ PySem.MulOk z n ∧ Q (.str (Txt.mul z n)) H
theorem op_mulS : OpR X (binaryOp .Mult) rMulS := by
  intro pins s σ H x y v u Q I rx ry h
  obtain ⟨z, n, rfl, rfl, hz, q⟩ := h
  obtain ⟨t, rfl⟩ := rx
  obtain ⟨t', rfl⟩ := ry
  exact SB.mul hz fun t' k => ⟨.str _, H, I.tok k, ⟨_, rfl⟩, q⟩
def rMulI : R2 := rI CMulX fun i j => .int (i * j)
def rMul : R2 := fun x y H Q => rMulI x y H Q ∨ (rRep x y H Q ∨ rMulS x y H Q)
theorem op_mulG : OpR X (binaryOp .Mult) rMul := OpR.or (r := rMulI) op_mulX (op_rep.or op_mulS)
def rDivI : R2 := rI CDivW fun i j => .int (i / j)
theorem op_divG : OpR X (binaryOp .FloorDiv) rDivI := op_fdivW
def rModI : R2 := rI (fun _ j => 0 < j) fun i j => .int (i % j)
theorem op_modG : OpR X (binaryOp .Mod) rModI := op_mod
def rShlI : R2 := rI CShl fun i j => .int (i * 2 ^ j.toNat)
theorem op_shlG : OpR X (binaryOp .LShift) rShlI := op_shlW
def rShrI : R2 := rI (fun _ j => 0 ≤ j) fun i j => .int (i / 2 ^ j.toNat)
theorem op_shrG : OpR X (binaryOp .RShift) rShrI := op_shr
def rPowI : R2 := rI CPow fun i j => .int (i ^ j.toNat)
theorem op_powG : OpR X (binaryOp .Pow) rPowI := op_pow
def rAndI : R2 := rI0 fun i j => .int (Builtin.bitAnd i j)
theorem op_andG : OpR X (binaryOp .BitAnd) rAndI := op_and
def rEqG (K : PySem.W.Frag) : R2 := fun x y H Q => rEq x y H Q ∨ rEqD K x y H Q
theorem op_eqG (hu : X.A.units + 64 < cLine) : OpR X (compareOp .Eq) (rEqG X.K) := op_eq.or (op_eqD hu)
def rNeG (K : PySem.W.Frag) : R2 := fun x y H Q => rNe x y H Q ∨ rNeD K x y H Q
theorem op_neG (hu : X.A.units + 64 < cLine) : OpR X (compareOp .NotEq) (rNeG X.K) := op_ne.or (op_neD hu)
def rLtI : R2 := rI0 fun i j => .bl (decide (i < j))
def rLtS : R2 := fun x y H Q => ∃ i j, x = .str i ∧ y = .str j ∧ Q (.bl (decide (i.cps.toList < j.cps.toList))) H
def rLtG : R2 := fun x y H Q => rLtI x y H Q ∨ rLtS x y H Q
theorem op_ltG : OpR X (compareOp .Lt) rLtG := OpR.or (r := rLtI) (r' := rLtS) op_lt op_lt_str
def rLeI : R2 := rI0 fun i j => .bl (decide (i ≤ j))
theorem op_leG : OpR X (compareOp .LtE) rLeI := op_le
def rGtI : R2 := rI0 fun i j => .bl (decide (j < i))
theorem op_gtG : OpR X (compareOp .Gt) rGtI := op_gt
def rGeI : R2 := rI0 fun i j => .bl (decide (j ≤ i))
theorem op_geG : OpR X (compareOp .GtE) rGeI := op_ge
def rIsNo : R2 := fun x y H Q => y = .non ∧ Q (.bl (decide (x = .non))) H
theorem op_isG : OpR X (compareOp .Is) rIsNo := op_isN
def rIsNot : R2 := fun x y H Q => y = .non ∧ Q (.bl (!decide (x = .non))) H
theorem op_isNotG : OpR X (compareOp .IsNot) rIsNot := op_notN
def rInC : R2 := fun x y H Q => ∃ (c : Nat) (z : Str), x = .str ⟨#[c]⟩ ∧ y = .str z ∧ Q (.bl (decide (c ∈ z.cps.toList))) H
def rInG (K : PySem.W.Frag) : R2 := fun x y H Q => rInC x y H Q ∨ rIn K false x y H Q
theorem op_inG : OpR X (compareOp .In) (rInG X.K) := OpR.or (r := rInC) op_in_sign op_in_seq
def rNotInC : R2 := fun x y H Q => ∃ (c : Nat) (z : Str), x = .str ⟨#[c]⟩ ∧ y = .str z ∧ Q (.bl (!decide (c ∈ z.cps.toList))) H
def rNotInG (K : PySem.W.Frag) : R2 := fun x y H Q => rNotInC x y H Q ∨ rIn K true x y H Q
theorem op_notInG : OpR X (compareOp .NotIn) (rNotInG X.K) := OpR.or (r := rNotInC) op_notIn_sign op_notIn_seq
def rLenG (K : PySem.W.Frag) : List V → Hp → VK → Prop := fun xs H Q => ∃ x n, xs = [x] ∧ LenV K x H n ∧ Q (.int n) H
theorem call_lenG : CallR X (.builtin "len") (rLenG X.K) := call_len
def rListOf (K : PySem.W.Frag) : List V → Hp → VK → Prop := fun xs H Q => ∃ p ys, xs = [.ref p] ∧ (SqL K H p ys ∨ SqT K H p ys) ∧ ∀ l, H l = none → Q (.ref l) (upd H l (.lst ys))
theorem call_listG : CallR X (.type "list") (rListOf X.K) := call_list_of
def rTupOf (K : PySem.W.Frag) : List V → Hp → VK → Prop := fun xs H Q => ∃ p ys, xs = [.ref p] ∧ ((SqL K H p ys ∧ ∀ l, H l = none → Q (.ref l) (upd H l (.tup ys))) ∨ (SqT K H p ys ∧ Q (.ref p) H))
theorem call_tupG : CallR X (.type "tuple") (rTupOf X.K) := call_tuple_of
def rIntOf : List V → Hp → VK → Prop := fun xs H Q => (∃ i, xs = [.int i] ∧ Q (.int i) H) ∨ ∃ k, xs = [.bl k] ∧ Q (.int (if k then 1 else 0)) H
def rIntS : List V → Hp → VK → Prop := fun xs H Q => ∃ a n, xs = [.str a] ∧ PySem.intText? a = some n ∧ a.length ≤ 640 ∧ Q (.int n) H
def rIntG : List V → Hp → VK → Prop := fun xs H Q => rIntOf xs H Q ∨ rIntS xs H Q
theorem call_intG : CallR X (.type "int") rIntG := CallR.or (r := rIntOf) (r' := rIntS) call_int1 call_int_str
def rStrI : List V → Hp → VK → Prop := fun xs H Q => ∃ i, xs = [.int i] ∧ i.natAbs.log2 < 1920 ∧ Q (.str (toString i)) H
theorem call_strI : CallR X (.type "str") rStrI := call_str_int
def rIsiG (K : PySem.W.Frag) : List V → Hp → VK → Prop := fun xs H Q => rIsi K xs H Q ∨ (rIsiT K xs H Q ∨ rIsiK K xs H Q)
theorem call_isiG : CallR X (.builtin "isinstance") (rIsiG X.K) := call_isi.or (call_isiT.or call_isiK)
def rMin2 : List V → Hp → VK → Prop := fun xs H Q => ∃ i j, xs = [.int i, .int j] ∧ Q (.int (if j < i then j else i)) H
def rMinG (K : PySem.W.Frag) : List V → Hp → VK → Prop := fun xs H Q => rMin2 xs H Q ∨ rMin K xs H Q
theorem call_minG (hc : X.calm = true) : CallR X (.builtin "min") (rMinG X.K) := CallR.or (r := rMin2) (call_min2 hc) (cr_min hc)
def rMax2 : List V → Hp → VK → Prop := fun xs H Q => ∃ i j, xs = [.int i, .int j] ∧ Q (.int (if j > i then j else i)) H
def rMaxG (K : PySem.W.Frag) : List V → Hp → VK → Prop := fun xs H Q => rMax2 xs H Q ∨ rMax K xs H Q
theorem call_maxG (hc : X.calm = true) : CallR X (.builtin "max") (rMaxG X.K) := CallR.or (r := rMax2) (call_max2 hc) (cr_max hc)
/-- subscripts: a list, a tuple, a text -/
def rSlG (K : PySem.W.Frag) : V → Option Int → Option Int → Hp → VK → Prop := fun x lo hi H Q => rSlL K x lo hi H Q ∨ (rSlA K x lo hi H Q ∨ rSlS x lo hi H Q)
theorem sl_any : SlR X (rSlG X.K) := sl_list.or (sl_tupA.or sl_str)
end

/-- a list may be read -/
class RdL (K : PySem.W.Frag) (L : List SA) (p : Addr) (xs : outParam (List V)) : Prop where
  sq : ∀ {H : Hp}, HS H L → SqL K H p xs
instance {K : PySem.W.Frag} {L L' : List SA} {p : Addr} {xs : List V} [o : Own L p (pt p (.lst xs)) L'] : RdL K L p xs := ⟨fun hs => .inl (.inl (hs.pk o.pk).get)⟩
instance {K : PySem.W.Frag} {L L' : List SA} {p : Addr} {xs : List V} [o : Own L p (fz K p xs) L'] : RdL K L p xs := ⟨fun hs => (hs.pk o.pk).fact.elim (fun ⟨q, e⟩ => .inl (.inr ⟨q, e⟩)) .inr⟩
/-- a tuple may be read -/
class RdT (K : PySem.W.Frag) (L : List SA) (p : Addr) (xs : outParam (List V)) : Prop where
  sq : ∀ {H : Hp}, HS H L → SqT K H p xs
instance {K : PySem.W.Frag} {L L' : List SA} {p : Addr} {xs : List V} [o : Own L p (tp p xs) L'] : RdT K L p xs := ⟨fun hs => .inl (.inl (hs.pk o.pk).fact)⟩
/-- a slot's value; the slots behind a store -/
class SlV (σ : L2.St) (n : Nat) (v : outParam V) : Prop where
  e : σ[n]? = some (some v)
instance slv0 {σ : L2.St} {v : V} : SlV (some v :: σ) 0 v := ⟨rfl⟩
instance slv1 {σ : L2.St} {x : Option V} {n : Nat} {v : V} [h : SlV σ n v] : SlV (x :: σ) (n + 1) v := ⟨h.e⟩
class SetV (σ : L2.St) (n : Nat) (v : V) (σ' : outParam L2.St) : Prop where
  e : σ.set n (some v) = σ'
instance setv0 {σ : L2.St} {x : Option V} {v : V} : SetV (x :: σ) 0 v (some v :: σ) := ⟨rfl⟩
instance setv1 {σ σ' : L2.St} {x : Option V} {n : Nat} {v : V} [h : SetV σ n v σ'] : SetV (x :: σ) (n + 1) v (x :: σ') := ⟨congrArg (x :: ·) h.e⟩

/-! ### readings, step by step -/
section
variable {K : PySem.W.Frag} {σ : L2.St} {H : Hp} {Q : VK} {D : Ends} {L L' : List SA} {v x y : V} {i j : Int} {te ta tb tc : TE} {t u : TS} {g : TG} {n : Nat} {p q a C : Addr} {xs ys : List V} {fs : List (Str × V)} {f : Str}
theorem s_seq (h : t { D with nx := u D } σ H) : tSeq t u D σ H := h
theorem s_asg (h : te σ H fun x H1 => g x σ H1 D.nx) : tAsg te g D σ H := h
theorem s_name {N : L2.St → Hp → Prop} (h : N (σ.set n (some v)) H) : gName n v σ H N := h
theorem s_nameV {N : L2.St → Hp → Prop} {σ' : L2.St} [e : SetV σ n v σ'] (h : N σ' H) : gName n v σ H N := by rw [← e.e] at h; exact h
theorem s_varV [e : SlV σ n v] (h : Q v H) : tVar n σ H Q := ⟨v, e.e, h⟩
theorem s_var (e : σ[n]? = some (some v)) (h : Q v H) : tVar n σ H Q := ⟨v, e, h⟩
theorem s_c (h : Q v H) : tC v σ H Q := h
theorem s_op {r : R2} (h : ta σ H fun x H1 => tb σ H1 fun y H2 => r x y H2 Q) : tOp r ta tb σ H Q := h
theorem s_drop (h : te σ H fun _ H1 => D.nx σ H1) : tDrop te D σ H := h
theorem s_ret (h : te σ H D.rt) : tRet te D σ H := h
theorem s_retN (h : D.rt .non H) : tRetN D σ H := h
theorem s_next (h : D.nx σ H) : tNext D σ H := h
theorem s_if {c : TT} (h : c σ H fun b H1 => if b = true then t D σ H1 else u D σ H1) : tIfS c t u D σ H := h
theorem s_ife {c : TT} (h : c σ H fun b H1 => if b = true then ta σ H1 Q else tb σ H1 Q) : tIf c ta tb σ H Q := h
def tstK (x : V) (H : Hp) (Q : Bool → Hp → Prop) : Prop := ∃ k, x = .bl k ∧ Q k H
theorem s_test {Q : Bool → Hp → Prop} (h : te σ H fun x H1 => tstK x H1 Q) : tTest te σ H Q := h
theorem s_tB {Q : Bool → Hp → Prop} (h : te σ H fun x H1 => tstK x H1 Q) : tB te σ H Q := h
theorem s_tst {k : Bool} {Q : Bool → Hp → Prop} (h : Q k H) : tstK (.bl k) H Q := ⟨k, rfl, h⟩
theorem s_not {c : TT} {Q : Bool → Hp → Prop} (h : c σ H fun b H1 => Q (!b) H1) : tNot c σ H Q := h
theorem s_and {c d : TT} {Q : Bool → Hp → Prop} (h : c σ H fun b H1 => if b = true then d σ H1 Q else Q false H1) : tAnd c d σ H Q := h
theorem s_or {c d : TT} {Q : Bool → Hp → Prop} (h : c σ H fun b H1 => if b = true then Q true H1 else d σ H1 Q) : tOr c d σ H Q := h
def andK (tb : TE) (σ : L2.St) (Q : VK) (x : V) (H1 : Hp) : Prop := ∃ c, x = .bl c ∧ if c = true then tb σ H1 Q else Q (.bl false) H1
def orK (tb : TE) (σ : L2.St) (Q : VK) (x : V) (H1 : Hp) : Prop := ∃ c, x = .bl c ∧ if c = true then Q (.bl true) H1 else tb σ H1 Q
theorem s_andV (h : ta σ H fun x H1 => andK tb σ Q x H1) : tAndV ta tb σ H Q := h
theorem s_orV (h : ta σ H fun x H1 => orK tb σ Q x H1) : tOrV ta tb σ H Q := h
theorem s_andK {b : Bool} (h : if b = true then tb σ H Q else Q (.bl false) H) : andK tb σ Q (.bl b) H := ⟨b, rfl, h⟩
theorem s_orK {b : Bool} (h : if b = true then Q (.bl true) H else tb σ H Q) : orK tb σ Q (.bl b) H := ⟨b, rfl, h⟩
def notK (Q : VK) (x : V) (H1 : Hp) : Prop := ∃ c, x = .bl c ∧ Q (.bl (!c)) H1
theorem s_notV (h : ta σ H fun x H1 => notK Q x H1) : tNotV ta σ H Q := h
theorem s_notK {b : Bool} (h : Q (.bl (!b)) H) : notK Q (.bl b) H := ⟨b, rfl, h⟩
theorem s_nil {Q : List V → Hp → Prop} (h : Q [] H) : tNil σ H Q := h
theorem s_cons {tr : TA} {Q : List V → Hp → Prop} (h : ta σ H fun x H1 => tr σ H1 fun xs H2 => Q (x :: xs) H2) : tCons ta tr σ H Q := h
theorem s_cb {r : List V → Hp → VK → Prop} {t : TA} (h : t σ H fun vs H1 => r vs H1 Q) : tCB r t σ H Q := h
theorem s_call {sp : Sp} {E : XK} {t : TA} (h : t σ H fun vs H1 => sp (vs ++ []) H1 Q E) : tCall sp [] E t σ H Q := h
/-- known, unknown tests -/
theorem i_t {A B : Prop} (h : A) : if true = true then A else B := by rw [if_pos rfl]; exact h
theorem i_f {A B : Prop} (h : B) : if false = true then A else B := by rw [if_neg Bool.false_ne_true]; exact h
theorem i_nf {A B : Prop} (h : A) : if (!false) = true then A else B := i_t h
theorem i_nt {A B : Prop} (h : B) : if (!true) = true then A else B := i_f h
theorem i_d {P A B : Prop} {_ : Decidable P} (h1 : P → A) (h2 : ¬ P → B) : if decide P = true then A else B := by
  by_cases h : P
  · rw [if_pos (decide_eq_true h)]; exact h1 h
  · rw [if_neg (by rw [decide_eq_false h]; exact Bool.false_ne_true)]; exact h2 h
theorem i_nd {P A B : Prop} {_ : Decidable P} (h1 : ¬ P → A) (h2 : P → B) : if (!decide P) = true then A else B := by
  by_cases h : P
  · rw [if_neg (by rw [decide_eq_true h]; exact Bool.false_ne_true)]; exact h2 h
  · rw [if_pos (by rw [decide_eq_false h]; rfl)]; exact h1 h
theorem i_b {b : Bool} {A B : Prop} (h1 : b = true → A) (h2 : b = false → B) : if b = true then A else B := by
  cases b with
  | true => exact i_t (h1 rfl)
  | false => exact i_f (h2 rfl)
theorem i_y {P A B : Prop} {_ : Decidable P} (c : P) (h : A) : if decide P = true then A else B := i_d (fun _ => h) (fun n => absurd c n)
theorem i_n {P A B : Prop} {_ : Decidable P} (c : ¬ P) (h : B) : if decide P = true then A else B := i_d (fun n => absurd n c) (fun _ => h)
/-- ints -/
theorem s_add (h : Q (.int (i + j)) H) : rAdd K (.int i) (.int j) H Q := .inl ⟨i, j, rfl, rfl, h⟩
theorem s_addS {z w : Str} (hz : z.length + w.length ≤ sizeLine) (h : Q (.str (z ++ w)) H) : rAdd K (.str z) (.str w) H Q := .inr (.inl ⟨z, w, rfl, rfl, hz, h⟩)
theorem s_sub (h : Q (.int (i - j)) H) : rSubI (.int i) (.int j) H Q := ⟨i, j, rfl, rfl, h⟩
theorem s_mul (hc : CMulX i j) (h : Q (.int (i * j)) H) : rMul (.int i) (.int j) H Q := .inl ⟨i, j, rfl, rfl, hc, h⟩
theorem s_mulS {z : Str} (hz : PySem.MulOk z i) (h : Q (.str (Txt.mul z i)) H) : rMul (.str z) (.int i) H Q := .inr (.inr ⟨z, i, rfl, rfl, hz, h⟩)
theorem s_div (hc : CDivW i j) (h : Q (.int (i / j)) H) : rDivI (.int i) (.int j) H Q := ⟨i, j, rfl, rfl, hc, h⟩
theorem s_mod (hc : 0 < j) (h : Q (.int (i % j)) H) : rModI (.int i) (.int j) H Q := ⟨i, j, rfl, rfl, hc, h⟩
theorem s_shl (hc : CShl i j) (h : Q (.int (i * 2 ^ j.toNat)) H) : rShlI (.int i) (.int j) H Q := ⟨i, j, rfl, rfl, hc, h⟩
theorem s_shr (hc : 0 ≤ j) (h : Q (.int (i / 2 ^ j.toNat)) H) : rShrI (.int i) (.int j) H Q := ⟨i, j, rfl, rfl, hc, h⟩
theorem s_pow (hc : CPow i j) (h : Q (.int (i ^ j.toNat)) H) : rPowI (.int i) (.int j) H Q := ⟨i, j, rfl, rfl, hc, h⟩
theorem s_bitand (h : Q (.int (Builtin.bitAnd i j)) H) : rAndI (.int i) (.int j) H Q := ⟨i, j, rfl, rfl, h⟩
theorem dec_i : decide (V.int i = V.int j) = decide (i = j) := by
  by_cases e : i = j
  · rw [decide_eq_true e, decide_eq_true (by rw [e])]
  · rw [decide_eq_false e, decide_eq_false (by intro q; exact e (V.int.inj q))]
theorem dec_s {z w : Str} : decide (V.str z = V.str w) = decide (z = w) := by
  by_cases e : z = w
  · rw [decide_eq_true e, decide_eq_true (by rw [e])]
  · rw [decide_eq_false e, decide_eq_false (by intro q; exact e (V.str.inj q))]
theorem dec_b {z w : Bool} : decide (V.bl z = V.bl w) = decide (z = w) := by
  by_cases e : z = w
  · rw [decide_eq_true e, decide_eq_true (by rw [e])]
  · rw [decide_eq_false e, decide_eq_false (by intro q; exact e (V.bl.inj q))]
theorem s_eq (h : Q (.bl (decide (i = j))) H) : rEqG K (.int i) (.int j) H Q := .inl ⟨rfl, by rw [dec_i]; exact h⟩
theorem s_eqS {z w : Str} (h : Q (.bl (decide (z = w))) H) : rEqG K (.str z) (.str w) H Q := .inl ⟨rfl, by rw [dec_s]; exact h⟩
theorem s_eqB {z w : Bool} (h : Q (.bl (decide (z = w))) H) : rEqG K (.bl z) (.bl w) H Q := .inl ⟨rfl, by rw [dec_b]; exact h⟩
theorem s_ne (h : Q (.bl (!decide (i = j))) H) : rNeG K (.int i) (.int j) H Q := .inl ⟨rfl, by rw [dec_i]; exact h⟩
theorem s_neS {z w : Str} (h : Q (.bl (!decide (z = w))) H) : rNeG K (.str z) (.str w) H Q := .inl ⟨rfl, by rw [dec_s]; exact h⟩
theorem s_neB {z w : Bool} (h : Q (.bl (!decide (z = w))) H) : rNeG K (.bl z) (.bl w) H Q := .inl ⟨rfl, by rw [dec_b]; exact h⟩
theorem s_lt (h : Q (.bl (decide (i < j))) H) : rLtG (.int i) (.int j) H Q := .inl ⟨i, j, rfl, rfl, h⟩
theorem s_le (h : Q (.bl (decide (i ≤ j))) H) : rLeI (.int i) (.int j) H Q := ⟨i, j, rfl, rfl, h⟩
theorem s_gt (h : Q (.bl (decide (j < i))) H) : rGtI (.int i) (.int j) H Q := ⟨i, j, rfl, rfl, h⟩
theorem s_ge (h : Q (.bl (decide (j ≤ i))) H) : rGeI (.int i) (.int j) H Q := ⟨i, j, rfl, rfl, h⟩
def chK (r' : R2) (y : V) (tc : TE) (σ : L2.St) (Q : VK) (z : V) (H3 : Hp) : Prop := ∃ k, z = .bl k ∧ (if k = true then tc σ H3 fun w' H4 => r' y w' H4 Q else Q (.bl false) H3)
theorem s_chain {r r' : R2} (h : ta σ H fun x H1 => tb σ H1 fun y H2 => r x y H2 fun z H3 => chK r' y tc σ Q z H3) : tChain r r' ta tb tc σ H Q := h
theorem s_chK {r' : R2} {b : Bool} (h : if b = true then tc σ H fun w' H4 => r' y w' H4 Q else Q (.bl false) H) : chK r' y tc σ Q (.bl b) H := ⟨b, rfl, h⟩

/-- a, b = e, f -/
def parK (i j : Nat) (D : Ends) (σ : L2.St) (vs : List V) (H1 : Hp) : Prop := ∃ v w, vs = [v, w] ∧ D.nx ((σ.set i (some v)).set j (some w)) H1
theorem s_par {k : Nat} {ta : TA} (h : ta σ H fun vs H1 => parK n k D σ vs H1) : tPar n k ta D σ H := h
theorem s_parK {k : Nat} {w : V} {σ1 σ2 : L2.St} [e1 : SetV σ n v σ1] [e2 : SetV σ1 k w σ2] (h : D.nx σ2 H) : parK n k D σ [v, w] H := ⟨v, w, rfl, by rw [e1.e, e2.e]; exact h⟩
def parK3 (i j l : Nat) (D : Ends) (σ : L2.St) (vs : List V) (H1 : Hp) : Prop := ∃ u v w, vs = [u, v, w] ∧ D.nx (((σ.set i (some u)).set j (some v)).set l (some w)) H1
theorem s_par3 {k l : Nat} {ta : TA} (h : ta σ H fun vs H1 => parK3 n k l D σ vs H1) : tPar3 n k l ta D σ H := h
theorem s_parK3 {k l : Nat} {w u : V} {σ1 σ2 σ3 : L2.St} [e1 : SetV σ n v σ1] [e2 : SetV σ1 k w σ2] [e3 : SetV σ2 l u σ3] (h : D.nx σ3 H) : parK3 n k l D σ [v, w, u] H := ⟨v, w, u, rfl, by rw [e1.e, e2.e, e3.e]; exact h⟩

/-! ### objects -/
def fldK (K : PySem.W.Frag) (f : Str) (Q : VK) (x : V) (H1 : Hp) : Prop := ∃ a C dx fs v, x = .ref a ∧ H1 a = some (.ins C dx fs) ∧ Cls K C ∧ NoAttr K C f ∧ fs.lookup f = some v ∧ Q v H1
theorem s_fld (h : ta σ H fun x H1 => fldK K f Q x H1) : tFld K ta f σ H Q := h
theorem s_fldK [hs : HS H L] [o : Own L a (ob a C fs) L'] (c : Cls K C) (n : NoAttr K C f) (l : fs.lookup f = some v) (h : Q v H) : fldK K f Q (.ref a) H :=
  let ⟨dx, e⟩ := (hs.pk o.pk).ins
  ⟨a, C, dx, fs, v, rfl, e, c, n, l, h⟩
def putK (K : PySem.W.Frag) (f : Str) (D : Ends) (σ : L2.St) (y x : V) (H2 : Hp) : Prop := ∃ a C dx fs, x = .ref a ∧ H2 a = some (.ins C dx fs) ∧ Cls K C ∧ NoAttr K C f ∧ fs.length < 1000 ∧ D.nx σ (upd H2 a (.ins C dx (putF f y fs)))
theorem s_put {tv : TE} (h : tv σ H fun y H1 => ta σ H1 fun x H2 => putK K f D σ y x H2) : sFld K ta tv f D σ H := h
theorem s_putK {fs' : List (Str × V)} [hs : HS H L] [o : Own L a (ob a C fs) L'] (c : Cls K C) (n : NoAttr K C f) (z : fs.length < 1000) (e : putF f y fs = fs') (h : ∀ H', HS H' (ob a C fs' :: L') → D.nx σ H') : putK K f D σ y (.ref a) H :=
  let ⟨dx, g⟩ := (hs.pk o.pk).ins
  ⟨a, C, dx, fs, rfl, g, c, n, z, h _ (by rw [e]; exact (hs.pk o.pk).fld g)⟩
def mthK (a : Addr) (m : Str) (sp : Sp) (E : XK) (t : TA) (σ : L2.St) (Q : VK) (x : V) (H1 : Hp) : Prop := ∃ b dx fs, x = .ref b ∧ H1 b = some (.ins a dx fs) ∧ fs.lookup m = none ∧ t σ H1 fun vs H2 => sp (x :: (vs ++ [])) H2 Q E
theorem s_mth {m : Str} {sp : Sp} {E : XK} {t : TA} (h : ta σ H fun x H1 => mthK C m sp E t σ Q x H1) : tMeth C m sp [] E ta t σ H Q := h
theorem s_mthK {m : Str} {sp : Sp} {E : XK} {t : TA} [hs : HS H L] [o : Own L a (ob a C fs) L'] (l : fs.lookup m = none) (h : t σ H fun vs H2 => sp (.ref a :: (vs ++ [])) H2 Q E) : mthK C m sp E t σ Q (.ref a) H :=
  let ⟨dx, e⟩ := (hs.pk o.pk).ins
  ⟨a, dx, fs, rfl, e, l, h⟩
/-- a new instance: __init__ is to be met -/
def mkK (C : Addr) (sp : Sp) (E : XK) (Q : VK) (vs : List V) (H1 : Hp) : Prop := ∀ x dx, H1 x = none → H1 dx = none → dx ≠ x → sp (.ref x :: (vs ++ [])) (upd (upd H1 dx (.own x)) x (.ins C dx [])) (fun v H2 => v = .non ∧ Q (.ref x) H2) E
theorem s_make {sp : Sp} {E : XK} {t : TA} (h : t σ H fun vs H1 => mkK C sp E Q vs H1) : tMake C sp [] E t σ H Q := h
theorem s_mkK {sp : Sp} {E : XK} {vs : List V} [hs : HS H L] (h : ∀ x H', HS H' (ob x C [] :: L) → sp (.ref x :: (vs ++ [])) H' (fun v H2 => v = .non ∧ Q (.ref x) H2) E) : mkK C sp E Q vs H :=
  fun x _ hx hd ne => h x _ (hs.make hx hd ne)

/-! ### lists, tuples -/
def newLK (Q : VK) (xs : List V) (H1 : Hp) : Prop := xs.length ≤ sizeLine ∧ ∀ p, H1 p = none → Q (.ref p) (upd H1 p (.lst xs))
def newTK (Q : VK) (xs : List V) (H1 : Hp) : Prop := xs.length ≤ sizeLine ∧ ∀ p, H1 p = none → Q (.ref p) (upd H1 p (.tup xs))
theorem s_lst {t : TA} (h : t σ H fun xs H1 => newLK Q xs H1) : tLst t σ H Q := h
theorem s_tup {t : TA} (h : t σ H fun xs H1 => newTK Q xs H1) : tTup t σ H Q := h
theorem s_new [hs : HS H L] (h : ∀ p H', HS H' (pt p (.lst xs) :: L) → Q (.ref p) H') : ∀ p, H p = none → Q (.ref p) (upd H p (.lst xs)) := fun p hp => h p _ (hs.new hp id)
theorem s_newT [hs : HS H L] (h : ∀ p H', HS H' (tp p xs :: L) → Q (.ref p) H') : ∀ p, H p = none → Q (.ref p) (upd H p (.tup xs)) := fun p hp => h p _ (hs.newT hp)
theorem s_lstN [hs : HS H L] (z : xs.length ≤ sizeLine) (h : ∀ p H', HS H' (pt p (.lst xs) :: L) → Q (.ref p) H') : newLK Q xs H := ⟨z, s_new h⟩
theorem s_tupN [hs : HS H L] (z : xs.length ≤ sizeLine) (h : ∀ p H', HS H' (tp p xs :: L) → Q (.ref p) H') : newTK Q xs H := ⟨z, s_newT h⟩
theorem s_ixL [hs : HS H L] [m : RdL K L p xs] (e : atI xs i = some v) (h : Q v H) : rIx K (.ref p) (.int i) H Q := .inl ⟨p, xs, i, v, rfl, rfl, m.sq hs, e, h⟩
theorem s_ixT [hs : HS H L] [m : RdT K L p xs] (e : atI xs i = some v) (h : Q v H) : rIx K (.ref p) (.int i) H Q := .inr (.inl ⟨p, xs, i, v, rfl, rfl, m.sq hs, e, h⟩)
theorem s_lenL [hs : HS H L] [m : RdL K L p xs] (h : Q (.int xs.length) H) : rLenG K [.ref p] H Q := ⟨_, _, rfl, .inl ⟨xs, m.sq hs, rfl⟩, h⟩
theorem s_lenT [hs : HS H L] [m : RdT K L p xs] (h : Q (.int xs.length) H) : rLenG K [.ref p] H Q := ⟨_, _, rfl, .inr ⟨xs, m.sq hs, rfl⟩, h⟩
theorem s_lenS {z : Str} (l : z.length ≤ sizeLine) (h : Q (.int z.length) H) : rLenG K [.str z] H Q := ⟨_, _, rfl, ⟨l, rfl⟩, h⟩
theorem s_listL [hs : HS H L] [m : RdL K L p xs] (h : ∀ q H', HS H' (pt q (.lst xs) :: L) → Q (.ref q) H') : rListOf K [.ref p] H Q := ⟨p, xs, rfl, .inl (m.sq hs), s_new h⟩
theorem s_listT [hs : HS H L] [m : RdT K L p xs] (h : ∀ q H', HS H' (pt q (.lst xs) :: L) → Q (.ref q) H') : rListOf K [.ref p] H Q := ⟨p, xs, rfl, .inr (m.sq hs), s_new h⟩
theorem s_tupL [hs : HS H L] [m : RdL K L p xs] (h : ∀ q H', HS H' (tp q xs :: L) → Q (.ref q) H') : rTupOf K [.ref p] H Q := ⟨p, xs, rfl, .inl ⟨m.sq hs, s_newT h⟩⟩
theorem s_rep [hs : HS H L] [m : Own L p (pt p (.lst xs)) L'] (h1 : -(2 ^ 63) ≤ i) (h2 : i < 2 ^ 63) (z : xs.length * i.toNat ≤ sizeLine) (h : ∀ q H', HS H' (pt q (.lst (List.replicate i.toNat xs).flatten) :: L) → Q (.ref q) H') :
    rMul (.ref p) (.int i) H Q := .inr (.inl ⟨p, i, xs, rfl, rfl, (hs.pk m.pk).get, h1, h2, z, s_new h⟩)
theorem s_cat {L1 L2 : List SA} [hs : HS H L] [m : Own L p (pt p (.lst xs)) L1] [m' : Own L q (pt q (.lst ys)) L2] (z : xs.length + ys.length ≤ sizeLine) (h : ∀ r H', HS H' (pt r (.lst (xs ++ ys)) :: L) → Q (.ref r) H') :
    rAdd K (.ref p) (.ref q) H Q := .inr (.inr (.inl ⟨p, q, xs, ys, rfl, rfl, (hs.pk m.pk).get, (hs.pk m'.pk).get, z, s_new h⟩))
theorem s_sum {ns : List Int} [hs : HS H L] [m : RdL K L p (ns.map V.int)] (h : Q (.int ns.sum) H) : rSum K [.ref p] H Q := ⟨p, ns, rfl, m.sq hs, h⟩
theorem s_slL {lo hi : Option Int} [hs : HS H L] [m : RdL K L p xs] (h : ∀ q H', HS H' (pt q (.lst (cutV xs lo hi)) :: L) → Q (.ref q) H') : rSlG K (.ref p) lo hi H Q := .inl ⟨p, xs, rfl, m.sq hs, s_new h⟩
theorem s_sl {r : V → Option Int → Option Int → Hp → VK → Prop} {tl th : TO} (h : te σ H fun x H1 => tl σ H1 fun l H2 => th σ H2 fun u H3 => r x l u H3 Q) : tSl r te tl th σ H Q := h
theorem s_noPart {Q : Option Int → Hp → Prop} (h : Q none H) : tNoPart σ H Q := h
def partK (Q : Option Int → Hp → Prop) (x : V) (H1 : Hp) : Prop := ∃ i, x = .int i ∧ Q (some i) H1
theorem s_part {Q : Option Int → Hp → Prop} (h : te σ H fun x H1 => partK Q x H1) : tPart te σ H Q := h
theorem s_partK {Q : Option Int → Hp → Prop} (h : Q (some i) H) : partK Q (.int i) H := ⟨i, rfl, h⟩
/-- o[i] = v -/
theorem s_gsub {to ti : TE} {t : TSet} {N : L2.St → Hp → Prop} (h : to σ H fun o H1 => ti σ H1 fun i H2 => t o i v H2 fun H3 => N σ H3) : gSub to ti t v σ H N := h
theorem s_setL {j : Nat} {N : Hp → Prop} [hs : HS H L] [m : Own L p (pt p (.lst xs)) L'] (e : ixN xs.length i = some j) (h : ∀ H', HS H' (pt p (.lst (xs.set j v)) :: L') → N H') : rSetL (.ref p) (.int i) v H N :=
  ⟨p, xs, i, j, rfl, rfl, (hs.pk m.pk).get, e, h _ ((hs.pk m.pk).put id)⟩
/-- xs.append(v) -/
def bmK (K : PySem.W.Frag) (T : String) (r : V → List V → Hp → VK → Prop) (t : TA) (σ : L2.St) (Q : VK) (x : V) (H1 : Hp) : Prop := tyV K T x H1 ∧ t σ H1 fun vs H2 => r x vs H2 Q
theorem s_bm {T : String} {r : V → List V → Hp → VK → Prop} {t : TA} (h : te σ H fun x H1 => bmK K T r t σ Q x H1) : tBM K T r te t σ H Q := h
theorem s_bmK {r : V → List V → Hp → VK → Prop} {t : TA} [hs : HS H L] [m : RdL K L p xs] (h : t σ H fun vs H2 => r (.ref p) vs H2 Q) : bmK K "list" r t σ Q (.ref p) H := ⟨.inl ⟨rfl, xs, m.sq hs⟩, h⟩
theorem s_app [hs : HS H L] [m : Own L p (pt p (.lst xs)) L'] (z : xs.length < sizeLine) (h : ∀ H', HS H' (pt p (.lst (xs ++ [v])) :: L') → Q .non H') : rAppend (.ref p) [v] H Q :=
  ⟨p, xs, v, rfl, rfl, (hs.pk m.pk).get, z, h _ ((hs.pk m.pk).put id)⟩
theorem s_pop [hs : HS H L] [m : Own L p (pt p (.lst xs)) L'] (e : xs[xs.length - 1]? = some v) (h : ∀ H', HS H' (pt p (.lst xs.dropLast) :: L') → Q v H') : rPop (.ref p) [] H Q :=
  ⟨p, xs, v, rfl, rfl, (hs.pk m.pk).get, e, h _ ((hs.pk m.pk).put id)⟩
/-- isinstance -/
theorem s_isi {x c : V} {t u : Value} {b : Bool} (h1 : ClsV c u) (h2 : TyX K H x t) (h3 : PySem.W.kitOne K t u = some b) (h : Q (.bl b) H) : rIsiG K [x, c] H Q := .inl ⟨x, c, t, u, b, rfl, h1, h2, h3, h⟩
theorem s_int (h : Q (.int i) H) : rIntG [.int i] H Q := .inl (.inl ⟨i, rfl, h⟩)
theorem s_intB {b : Bool} (h : Q (.int (if b then 1 else 0)) H) : rIntG [.bl b] H Q := .inl (.inr ⟨b, rfl, h⟩)
/-- (a, b, ..) = a tuple -/
theorem s_gtup {t : TGs} {N : L2.St → Hp → Prop} [hs : HS H L] [m : RdT K L p xs] (e : xs.length = n) (h : t xs σ H N) : gTup K n t (.ref p) σ H N := ⟨p, xs, rfl, m.sq hs, e, h⟩
theorem s_gnil {N : L2.St → Hp → Prop} (h : N σ H) : gNil [] σ H N := ⟨rfl, h⟩
theorem s_gcons {t : TG} {u : TGs} {N : L2.St → Hp → Prop} (h : t v σ H fun σ' H' => u xs σ' H' N) : gCons t u (v :: xs) σ H N := ⟨v, xs, rfl, h⟩
/-- for -/
def forK (g : TG) (tb : TS) (D : Ends) (σ : L2.St) (J : It) (H1 : Hp) : Prop := ∃ W : Nat → Nat → L2.St → Hp → Prop, (∃ m, W 0 m σ H1) ∧ ∀ i m σ H, W i m σ H →
  (J.stop i H ∧ D.nx σ H) ∨ (J.go i H ∧ ∃ N : L2.St → Hp → Prop, (∀ σ' H', N σ' H' → ∃ m', m' < m ∧ W (i + 1) m' σ' H') ∧ ∀ x H', J.yld i H x H' → g x σ H' fun σ2 H2 => tb { D with nx := N, ct := N, bk := D.nx } σ2 H2)
theorem s_for {wi : TI} {tb : TS} (h : wi σ H fun J H1 => forK g tb D σ J H1) : tFor wi g tb D σ H := h
def rgK1 (R : It → Hp → Prop) (vs : List V) (H1 : Hp) : Prop := ∃ j : Int, vs = [.int j] ∧ -(2 ^ 62) ≤ j ∧ j < 2 ^ 62 ∧ R (Itr 0 j.toNat) H1
theorem s_rng1 {t : TA} {R : It → Hp → Prop} (h : t σ H fun vs H1 => rgK1 R vs H1) : iRng1 t σ H R := h
theorem s_rngK1 {R : It → Hp → Prop} (h1 : -(2 ^ 62) ≤ i) (h2 : i < 2 ^ 62) (h : R (Itr 0 i.toNat) H) : rgK1 R [.int i] H := ⟨i, rfl, h1, h2, h⟩
/-- a for over range(n) -/
theorem f_range {tb : TS} {k : Nat} (Pv : Nat → L2.St → Hp → Prop) (h0 : Pv 0 σ H)
    (hs : ∀ (i : Nat) σ H, i < k → Pv i σ H → g (.int (i : Int)) σ H fun σ2 H2 => tb { D with nx := Pv (i + 1), ct := Pv (i + 1), bk := D.nx } σ2 H2) (hd : ∀ σ H, Pv k σ H → D.nx σ H) : forK g tb D σ (Itr 0 k) H :=
  for_range (lo := 0) Pv h0 (fun i σ H hi p => by rw [Int.zero_add]; exact hs i σ H hi p) hd
def lsK (K : PySem.W.Frag) (R : It → Hp → Prop) (x : V) (H1 : Hp) : Prop := ∃ a, x = .ref a ∧ (∃ xs, SqL K H1 a xs) ∧ R (Itl K a) H1
theorem s_any {R : It → Hp → Prop} (h : te σ H fun x H1 => lsK K R x H1) : iAny K te σ H R := .inl h
theorem s_anyT {R : It → Hp → Prop} (h : te σ H fun x H1 => ∃ a, x = .ref a ∧ (∃ xs, SqT K H1 a xs) ∧ R (Itt K a) H1) : iAny K te σ H R := .inr (.inl h)
theorem s_anyS {R : It → Hp → Prop} (h : te σ H fun x H1 => ∃ z, x = .str z ∧ R (Its z) H1) : iAny K te σ H R := .inr (.inr h)
theorem s_lsK {R : It → Hp → Prop} [hs : HS H L] [m : RdL K L p xs] (h : R (Itl K p) H) : lsK K R (.ref p) H := ⟨p, rfl, ⟨xs, m.sq hs⟩, h⟩
/-- a for over a list -/
theorem f_list {tb : TS} (xs : List V) (Pv : Nat → L2.St → Hp → Prop) (h0 : Pv 0 σ H) (hl : ∀ i σ H, i ≤ xs.length → Pv i σ H → SqL K H p xs)
    (hs : ∀ i x σ H, xs[i]? = some x → Pv i σ H → g x σ H fun σ2 H2 => tb { D with nx := Pv (i + 1), ct := Pv (i + 1), bk := D.nx } σ2 H2) (hd : ∀ σ H, Pv xs.length σ H → D.nx σ H) : forK g tb D σ (Itl K p) H :=
  for_list (xs := xs) Pv h0 hl hs hd
/-- .. by a word with a measure in it -/
def whK (W : Nat → L2.St → Hp → Prop) (m : Nat) (tb : TS) (D : Ends) (σ : L2.St) (H1 : Hp) : Prop := ∃ N : L2.St → Hp → Prop, (∀ σ' H', N σ' H' → ∃ m', m' < m ∧ W m' σ' H') ∧ tb { D with nx := N, ct := N, bk := D.nx } σ H1
theorem s_wh {W : Nat → L2.St → Hp → Prop} {m : Nat} {tb : TS} (h : tb { D with nx := fun σ' H' => ∃ m', m' < m ∧ W m' σ' H', ct := fun σ' H' => ∃ m', m' < m ∧ W m' σ' H', bk := D.nx } σ H) : whK W m tb D σ H := ⟨_, fun _ _ h => h, h⟩
theorem f_while {c : TT} {tb : TS} (W : Nat → L2.St → Hp → Prop) (m0 : Nat) (h0 : W m0 σ H)
    (hs : ∀ m σ H, W m σ H → c σ H fun b H1 => if b = true then whK W m tb D σ H1 else D.nx σ H1) : tWhile c tb D σ H := ⟨W, ⟨m0, h0⟩, hs⟩
/-- list comprehensions -/
def lcK (g : TG) (tt : TT) (te : TE) (vs : List Nat) (σ : L2.St) (Q : VK) (J : It) (H1 : Hp) : Prop := ∀ D, H1 D = none → ∃ W : Nat → Nat → Hp → Prop, (∃ m, W 0 m (upd H1 D (.lst []))) ∧ ∀ i m H, W i m H →
  (J.stop i H ∧ Q (.ref D) H) ∨ (J.go i H ∧ ∃ Nx : Hp → Prop, (∀ H', Nx H' → ∃ m', m' < m ∧ W (i + 1) m' H') ∧ ∀ x H', J.yld i H x H' → g x (wipe σ vs) H' fun σ2 H2 => wipe σ2 vs = wipe σ vs ∧ tt σ2 H2 fun b H3 =>
    if b = true then te σ2 H3 fun y H4 => ∃ acc, H4 D = some (.lst acc) ∧ acc.length < sizeLine ∧ Nx (upd H4 D (.lst (acc ++ [y]))) else Nx H3)
theorem s_lc {wi : TI} {tt : TT} {vs : List Nat} (h : wi σ H fun J H1 => lcK g tt te vs σ Q J H1) : tLc wi g tt te vs σ H Q := h
theorem s_yes {Q : Bool → Hp → Prop} (h : Q true H) : tYes σ H Q := h
/-- what a turn of a comprehension comes to -/
def accK (D : Addr) (N : Hp → Prop) (y : V) (H4 : Hp) : Prop := ∃ acc, H4 D = some (.lst acc) ∧ acc.length < sizeLine ∧ N (upd H4 D (.lst (acc ++ [y])))
theorem s_acc {N : Hp → Prop} [hs : HS H L] [m : Own L p (pt p (.lst xs)) L'] (z : xs.length < sizeLine) (h : ∀ H', HS H' (pt p (.lst (xs ++ [y])) :: L') → N H') : accK p N y H :=
  ⟨xs, (hs.pk m.pk).get, z, h _ ((hs.pk m.pk).put id)⟩
/-- over range(k): Pv by the turn and the heap -/
theorem c_range {tt : TT} {vs : List Nat} {k : Nat} [hs0 : HS H L] (Pv : Addr → Nat → Hp → Prop) (h0 : ∀ D H', HS H' (pt D (.lst []) :: L) → Pv D 0 H')
    (hs : ∀ D (i : Nat) H, i < k → Pv D i H → g (.int (i : Int)) (wipe σ vs) H fun σ2 H2 => wipe σ2 vs = wipe σ vs ∧ tt σ2 H2 fun b H3 => if b = true then te σ2 H3 fun y H4 => accK D (Pv D (i + 1)) y H4 else Pv D (i + 1) H3)
    (hd : ∀ D H, Pv D k H → Q (.ref D) H) : lcK g tt te vs σ Q (Itr 0 k) H := fun D hD =>
  lc_range (lo := 0) (Pv D) (h0 D _ (hs0.new hD id)) (fun i H hi p => by rw [Int.zero_add]; exact hs D i H hi p) (hd D)
theorem c_list {tt : TT} {vs : List Nat} (xs : List V) [hs0 : HS H L] (Pv : Addr → Nat → Hp → Prop) (h0 : ∀ D H', HS H' (pt D (.lst []) :: L) → Pv D 0 H') (hl : ∀ D i H, i ≤ xs.length → Pv D i H → SqL K H p xs)
    (hs : ∀ D i x H, xs[i]? = some x → Pv D i H → g x (wipe σ vs) H fun σ2 H2 => wipe σ2 vs = wipe σ vs ∧ tt σ2 H2 fun b H3 => if b = true then te σ2 H3 fun y H4 => accK D (Pv D (i + 1)) y H4 else Pv D (i + 1) H3)
    (hd : ∀ D H, Pv D xs.length H → Q (.ref D) H) : lcK g tt te vs σ Q (Itl K p) H := fun D hD =>
  lc_list (xs := xs) (Pv D) (h0 D _ (hs0.new hD id)) (hl D) (hs D) (hd D)
end

/-! ### the same with the written part named -/
section
variable {X : Cx} {K : PySem.W.Frag}
theorem op_addK (h : X.K = K) : OpR X (binaryOp .Add) (rAdd K) := h ▸ op_addG
theorem op_eqK (h : X.K = K) (hu : X.A.units + 64 < cLine) : OpR X (compareOp .Eq) (rEqG K) := h ▸ op_eqG hu
theorem op_neK (h : X.K = K) (hu : X.A.units + 64 < cLine) : OpR X (compareOp .NotEq) (rNeG K) := h ▸ op_neG hu
theorem op_inK (h : X.K = K) : OpR X (compareOp .In) (rInG K) := h ▸ op_inG
theorem op_notInK (h : X.K = K) : OpR X (compareOp .NotIn) (rNotInG K) := h ▸ op_notInG
theorem call_lenK (h : X.K = K) : CallR X (.builtin "len") (rLenG K) := h ▸ call_lenG
theorem call_listK (h : X.K = K) : CallR X (.type "list") (rListOf K) := h ▸ call_listG
theorem call_tupK (h : X.K = K) : CallR X (.type "tuple") (rTupOf K) := h ▸ call_tupG
theorem call_isiK' (h : X.K = K) : CallR X (.builtin "isinstance") (rIsiG K) := h ▸ call_isiG
theorem call_minK (h : X.K = K) (hc : X.calm = true) : CallR X (.builtin "min") (rMinG K) := h ▸ call_minG hc
theorem call_maxK (h : X.K = K) (hc : X.calm = true) : CallR X (.builtin "max") (rMaxG K) := h ▸ call_maxG hc
theorem call_sumK (h : X.K = K) (hc : X.calm = true) : CallR X (.builtin "sum") (rSum K) := h ▸ cr_sum hc
theorem call_sortedK (h : X.K = K) : CallR X (.builtin "sorted") (rSorted K) := h ▸ cr_sorted
theorem sl_anyK (h : X.K = K) : SlR X (rSlG K) := h ▸ sl_any
theorem ix_seqK (h : X.K = K) : IxR X (rIx K) := h ▸ ix_seq
theorem pe_fldK (h : X.K = K) {e : Expr} {f : Str} {pos : Pos} {ta : TE} (he : PE X e ta) (hb : attributeBase e f X.env (eval e X.env) = eval e X.env) : PE X (.Attribute e f pos) (tFld K ta f) := h ▸ pe_fld he hb
theorem ps_fldK (h : X.K = K) {o value : Expr} {f : Str} {pos pos' : Pos} {ta tv : TE} (ha : PE X o ta) (hv : PE X value tv) (hs : swapsWith value (some (.Attribute o f pos')) pos.line X.env = pure false) : PS X (.Assign [.Attribute o f pos'] value pos) (sFld K ta tv f) := h ▸ ps_fld ha hv hs
theorem pi_anyK (h : X.K = K) {tg e : Expr} {te : TE} (he : PE X e te) : PI X tg e (iAny K te) := h ▸ pi_any he
theorem pg_tupK (h : X.K = K) {pos : Pos} {es : List Expr} {k : Nat} {t : TGs} {n : Nat} (hc : X.calm = true) (hp : PGs X es t)
    (hn : (assignEach es X.env).length = n := by rfl) (hst : (assignEach es X.env).findIdx? (·.1) = none := by rfl) : PG X (.Tuple es k pos) (gTup K n t) := h ▸ pg_tup hc hp hn hst
open PySem PySem.Spec PyProof.Rows in
theorem pe_bmK {T name id : String} {r : V → List V → Hp → VK → Prop} {o e : Expr} {es : List Expr} {to : TE} {t : TA} {apos cpos : Pos} (h : X.K = K) (pa : PlainAttrs T) (slot : Slot T name id) (hty : typeOf (.builtin id) = pure (.type "method_descriptor")) (hm : MtR X id r) (ho : PE X o to) (ha : PA X (e :: es) t)
    (hbase : attributeBase o name X.env (eval o X.env) = eval o X.env := by rfl)
    (hfew : ((backTo cpos (starEach (e :: es) X.env)).all (fun x => !x.1) && (backToKw cpos (keywordEach [] X.env)).all (fun x => x.1.isSome)
      && decide ((e :: es).length + ([] : List Keyword).length + (if ([] : List Keyword).isEmpty then 0 else 1) < 30)) = true := by rfl)
    (hline : (apos.endLine == cpos.line) = true := by rfl) (hs : starEach (e :: es) X.env = (false, eval e X.env) :: starEach es X.env := by rfl) (hplain : (backTo cpos (starEach es X.env)).any (·.1) = false := by rfl) :
    PE X (.Call (.Attribute o name apos) (e :: es) [] cpos) (tBM K T r to t) := h ▸ pe_bm pa slot hty hm ho ha hbase hfew hline hs hplain
end
end G

/-! Sums of counts in a tree, as plain functions. -/
namespace G
open PySem L2
/-- the lowest digit in twos of 1 .. 8 -/
def lb (i : Nat) : Nat := if i % 2 = 1 then 1 else if i % 4 = 2 then 2 else if i % 8 = 4 then 4 else 8
def treeOf (cs : List Int) : List Int := (List.range (cs.length + 1)).map fun i => ((cs.take i).drop (i - lb i)).sum
theorem treeOf_len (cs : List Int) : (treeOf cs).length = cs.length + 1 := by simp [treeOf]
theorem sum_drop_take (cs : List Int) (i j : Nat) (h : j ≤ i) : ((cs.take i).drop j).sum = (cs.take i).sum - (cs.take j).sum := by
  have e : (cs.take i).take j ++ (cs.take i).drop j = cs.take i := List.take_append_drop _ _
  have e2 : (cs.take i).take j = cs.take j := by rw [List.take_take]; congr 1; omega
  have := congrArg List.sum e
  rw [List.sum_append, e2] at this
  omega
theorem treeOf_at (cs : List Int) (i : Nat) (h : i ≤ cs.length) : (treeOf cs)[i]? = some ((cs.take i).sum - (cs.take (i - lb i)).sum) := by
  unfold treeOf
  rw [List.getElem?_map, List.getElem?_range (by omega), Option.map_some, sum_drop_take _ _ _ (Nat.sub_le _ _)]
theorem and_neg : ∀ i : Nat, 1 ≤ i → i ≤ 8 → Builtin.bitAnd (i : Int) (0 - (i : Int)) = (lb i : Int) := by
  intro i h1 h2
  have : i = 1 ∨ i = 2 ∨ i = 3 ∨ i = 4 ∨ i = 5 ∨ i = 6 ∨ i = 7 ∨ i = 8 := by omega
  rcases this with rfl | rfl | rfl | rfl | rfl | rfl | rfl | rfl <;> decide +kernel
theorem and_dec : ∀ i : Nat, 1 ≤ i → i ≤ 8 → Builtin.bitAnd (i : Int) ((i : Int) - 1) = ((i - lb i : Nat) : Int) := by
  intro i h1 h2
  have : i = 1 ∨ i = 2 ∨ i = 3 ∨ i = 4 ∨ i = 5 ∨ i = 6 ∨ i = 7 ∨ i = 8 := by omega
  rcases this with rfl | rfl | rfl | rfl | rfl | rfl | rfl | rfl <;> decide +kernel
theorem lb_pos (i : Nat) : 1 ≤ lb i := by unfold lb; split <;> (try split) <;> (try split) <;> omega
theorem lb_le (i : Nat) (h : 1 ≤ i) (h8 : i ≤ 8) : lb i ≤ i := by unfold lb; split <;> (try split) <;> (try split) <;> omega
/-- the climbing -/
def climbF (n : Nat) (b : Int) : Nat → Nat → List Int → List Int
  | 0, _, T => T
  | m + 1, i, T => if i ≤ n then climbF n b m (i + lb i) (T.set i (T.getD i 0 + b)) else T
theorem climb_is (cs : List Int) (s : Nat) (b : Int) (hn : cs.length ≤ 8) (hs : s < cs.length) : climbF cs.length b 8 (s + 1) (treeOf cs) = treeOf (cs.set s (cs.getD s 0 + b)) := by
  match cs, hn with
  | [], _ => simp at hs
  | [a], _ => 
    have : s = 0 := by simp at hs; omega
    subst this; simp [climbF, treeOf, lb, List.range_succ]
  | [a, c], _ =>
    have : s = 0 ∨ s = 1 := by simp at hs; omega
    rcases this with rfl | rfl <;> simp [climbF, treeOf, lb, List.range_succ] <;> omega
  | [a, c, d], _ =>
    have : s = 0 ∨ s = 1 ∨ s = 2 := by simp at hs; omega
    rcases this with rfl | rfl | rfl <;> simp [climbF, treeOf, lb, List.range_succ] <;> omega
  | [a, c, d, e], _ =>
    have : s = 0 ∨ s = 1 ∨ s = 2 ∨ s = 3 := by simp at hs; omega
    rcases this with rfl | rfl | rfl | rfl <;> simp [climbF, treeOf, lb, List.range_succ] <;> omega
  | [a, c, d, e, f], _ =>
    have : s = 0 ∨ s = 1 ∨ s = 2 ∨ s = 3 ∨ s = 4 := by simp at hs; omega
    rcases this with rfl | rfl | rfl | rfl | rfl <;> simp [climbF, treeOf, lb, List.range_succ] <;> omega
  | [a, c, d, e, f, g], _ =>
    have : s = 0 ∨ s = 1 ∨ s = 2 ∨ s = 3 ∨ s = 4 ∨ s = 5 := by simp at hs; omega
    rcases this with rfl | rfl | rfl | rfl | rfl | rfl <;> simp [climbF, treeOf, lb, List.range_succ] <;> omega
  | [a, c, d, e, f, g, h], _ =>
    have : s = 0 ∨ s = 1 ∨ s = 2 ∨ s = 3 ∨ s = 4 ∨ s = 5 ∨ s = 6 := by simp at hs; omega
    rcases this with rfl | rfl | rfl | rfl | rfl | rfl | rfl <;> simp [climbF, treeOf, lb, List.range_succ] <;> omega
  | [a, c, d, e, f, g, h, i], _ =>
    have : s = 0 ∨ s = 1 ∨ s = 2 ∨ s = 3 ∨ s = 4 ∨ s = 5 ∨ s = 6 ∨ s = 7 := by simp at hs; omega
    rcases this with rfl | rfl | rfl | rfl | rfl | rfl | rfl | rfl <;> simp [climbF, treeOf, lb, List.range_succ] <;> omega
  | _ :: _ :: _ :: _ :: _ :: _ :: _ :: _ :: _ :: _, h => simp at h
/-- the sign in whose share x is -/
def signF : List Int → Int → Nat
  | [], _ => 0
  | c :: r, x => if x < c then 0 else signF r (x - c) + 1
theorem signF_is : ∀ (cs : List Int) (x : Int) (i : Nat), (∀ c ∈ cs, 0 ≤ c) → i < cs.length → (cs.take i).sum ≤ x → x < (cs.take (i + 1)).sum → i = signF cs x
  | [], x, i, _, h, _, _ => by simp at h
  | c :: r, x, 0, _, _, h0, h1 => by
    simp at h1
    simp [signF, h1]
  | c :: r, x, i + 1, hp, h, h0, h1 => by
    simp only [List.take_succ_cons, List.sum_cons] at h0 h1
    have hr : ∀ y ∈ r, 0 ≤ y := fun y hy => hp y (List.mem_cons_of_mem _ hy)
    have hs : 0 ≤ (r.take i).sum := by
      have : ∀ l : List Int, (∀ y ∈ l, 0 ≤ y) → 0 ≤ l.sum := by
        intro l; induction l with
        | nil => intro _; simp
        | cons a l ih => intro q; have := ih (fun y hy => q y (List.mem_cons_of_mem _ hy)); have := q a List.mem_cons_self; simp only [List.sum_cons]; omega
      exact this _ fun y hy => hr y (List.mem_of_mem_take hy)
    have ih := signF_is r (x - c) i hr (by simpa using h) (by omega) (by omega)
    have hc : ¬ x < c := by omega
    simp only [signF, if_neg hc]
    omega
theorem signF_lt : ∀ (cs : List Int) (x : Int), x < cs.sum → signF cs x < cs.length ∨ cs = []
  | [], _, _ => .inr rfl
  | c :: r, x, h => by
    left
    simp only [signF]
    split
    · simp
    · simp only [List.sum_cons] at h
      rcases signF_lt r (x - c) (by omega) with q | q
      · simp only [List.length_cons]; omega
      · subst q; simp at h; omega
theorem take_mono (cs : List Int) (hp : ∀ c ∈ cs, 0 ≤ c) : ∀ {i j : Nat}, i ≤ j → (cs.take i).sum ≤ (cs.take j).sum := by
  have nn : ∀ l : List Int, (∀ y ∈ l, 0 ≤ y) → 0 ≤ l.sum := by
    intro l; induction l with
    | nil => intro _; simp
    | cons a l ih => intro q; have := ih (fun y hy => q y (List.mem_cons_of_mem _ hy)); have := q a List.mem_cons_self; simp only [List.sum_cons]; omega
  intro i j h
  have e := sum_drop_take cs j i h
  have := nn ((cs.take j).drop i) fun y hy => hp y (List.mem_of_mem_take (List.mem_of_mem_drop hy))
  omega
theorem sum_nn : ∀ l : List Int, (∀ y ∈ l, 0 ≤ y) → 0 ≤ l.sum
  | [], _ => by simp
  | a :: l, q => by have := sum_nn l (fun y hy => q y (List.mem_cons_of_mem _ hy)); have := q a List.mem_cons_self; simp only [List.sum_cons]; omega
theorem take_getD (cs : List Int) (s : Nat) (h : s < cs.length) : (cs.take (s + 1)).sum = (cs.take s).sum + cs.getD s 0 := by
  rw [List.take_add_one, List.sum_append]
  simp [List.getElem?_eq_getElem h, List.getD_eq_getElem?_getD]
end G

/-! What stands in the heap for the program's objects; the promises of the first defs. -/
namespace G
open PySem L2
def SqB (K : PySem.W.Frag) : Bool → Hp → Addr → List V → Prop
  | false, H, p, xs => SqL K H p xs
  | true, H, p, xs => SqT K H p xs
/-- a list (false) or a tuple (true) may be read -/
class RdB (K : PySem.W.Frag) (b : Bool) (L : List SA) (p : Addr) (xs : List V) : Prop where
  sq : ∀ {H : Hp}, HS H L → SqB K b H p xs
instance (priority := high) {K : PySem.W.Frag} {L : List SA} {p : Addr} {xs : List V} [o : RdL K L p xs] : RdB K false L p xs := ⟨fun hs => o.sq hs⟩
instance (priority := high) {K : PySem.W.Frag} {L : List SA} {p : Addr} {xs : List V} [o : RdT K L p xs] : RdB K true L p xs := ⟨fun hs => o.sq hs⟩
theorem RdB.there {K : PySem.W.Frag} {b : Bool} {L : List SA} {A : SA} {p : Addr} {xs : List V} (r : RdB K b L p xs) : RdB K b (A :: L) p xs := ⟨fun hs => r.sq hs.drop⟩
section
variable {K : PySem.W.Frag} {σ : L2.St} {H : Hp} {Q : VK} {D : Ends} {L L' : List SA} {v x y : V} {i j : Int} {te ta tb tc : TE} {t u : TS} {g : TG} {n : Nat} {p q a C : Addr} {xs ys : List V} {fs : List (Str × V)} {f : Str} {b : Bool}
theorem s_lenB (h1 : SqB K b H p xs) (h : Q (.int xs.length) H) : rLenG K [.ref p] H Q := by
  cases b with
  | false => exact ⟨_, _, rfl, .inl ⟨xs, h1, rfl⟩, h⟩
  | true => exact ⟨_, _, rfl, .inr ⟨xs, h1, rfl⟩, h⟩
theorem s_ixB (h1 : SqB K b H p xs) (e : atI xs i = some v) (h : Q v H) : rIx K (.ref p) (.int i) H Q := by
  cases b with
  | false => exact .inl ⟨p, xs, i, v, rfl, rfl, h1, e, h⟩
  | true => exact .inr (.inl ⟨p, xs, i, v, rfl, rfl, h1, e, h⟩)
/-- a comprehension over a list or a tuple -/
theorem c_any {tt : TT} {vs : List Nat} {k : Nat} {σ0 : L2.St} (xs : List V) [hv : SlV σ0 k (.ref p)] (h1 : SqB K b H p xs) [hs0 : HS H L] (Pv : Addr → Nat → Hp → Prop) (h0 : ∀ D H', HS H' (pt D (.lst []) :: L) → Pv D 0 H') (hl : ∀ D i H, i ≤ xs.length → Pv D i H → SqB K b H p xs)
    (hs : ∀ D i x H, xs[i]? = some x → Pv D i H → g x (wipe σ vs) H fun σ2 H2 => wipe σ2 vs = wipe σ vs ∧ tt σ2 H2 fun b H3 => if b = true then te σ2 H3 fun y H4 => accK D (Pv D (i + 1)) y H4 else Pv D (i + 1) H3)
    (hd : ∀ D H, Pv D xs.length H → Q (.ref D) H) : iAny K (tVar k) σ0 H (fun J H1 => lcK g tt te vs σ Q J H1) := by
  cases b with
  | false => exact .inl ⟨_, hv.e, p, rfl, ⟨xs, h1⟩, fun D hD => lc_list (xs := xs) (Pv D) (h0 D _ (hs0.new hD id)) (hl D) (hs D) (hd D)⟩
  | true => exact .inr (.inl ⟨_, hv.e, p, rfl, ⟨xs, h1⟩, fun D hD => lc_tup (xs := xs) (Pv D) (h0 D _ (hs0.new hD id)) (hl D) (hs D) (hd D)⟩)
/-- a comprehension over a list that another expression gives -/
theorem s_lsI {R : It → Hp → Prop} (h1 : SqL K H p xs) (h : R (Itl K p) H) : lsK K R (.ref p) H := ⟨p, rfl, ⟨xs, h1⟩, h⟩
end

/-! ### shares -/
def iv (ns : List Int) : List V := ns.map V.int
/-- a table at p of the class at C: its counts -/
def shR (C p : Addr) (cs : List Int) : SA := exA fun l => st (ob p C [("signs", .int cs.length), ("tree", .ref l)]) (pt l (.lst (iv (treeOf cs))))
instance {C p : Addr} {cs : List Int} : Key (shR C p cs) p := ⟨⟩
theorem HS.sh_in {H : Hp} {L : List SA} {C p : Addr} {cs : List Int} (h : HS H (shR C p cs :: L)) : ∃ l, HS H (ob p C [("signs", .int cs.length), ("tree", .ref l)] :: pt l (.lst (iv (treeOf cs))) :: L) :=
  let ⟨l, h⟩ := h.ex_in
  ⟨l, h.st_in⟩
theorem HS.sh_out {H : Hp} {L : List SA} {C p l : Addr} {cs : List Int} (h : HS H (ob p C [("signs", .int cs.length), ("tree", .ref l)] :: pt l (.lst (iv (treeOf cs))) :: L)) : HS H (shR C p cs :: L) := (h.st_out).ex_out l
/-- counts of shares -/
def Good (cs : List Int) : Prop := 1 ≤ cs.length ∧ cs.length ≤ 8 ∧ ∀ c ∈ cs, 1 ≤ c
theorem Good.nn {cs : List Int} (h : Good cs) : ∀ c ∈ cs, 0 ≤ c := fun c hc => by have := h.2.2 c hc; omega

def spWithin : Sp := fun vs H Q _ => ∃ x lo hi, vs = [x, .int lo, .int hi] ∧ ((∃ i, x = .int i ∧ Q (.bl (decide (lo ≤ i ∧ i ≤ hi))) H) ∨ ∃ b, x = .bl b ∧ Q (.bl false) H)
def spNeedCounts (K : PySem.W.Frag) : Sp := fun vs H Q _ => ∃ p b cs L, vs = [.ref p] ∧ HS H L ∧ RdB K b L p (iv cs) ∧ Good cs ∧ (∀ c ∈ cs, c ≤ 4000) ∧ ∀ H', HS H' L → Q .non H'
def spClimb (C : Addr) : Sp := fun vs H Q _ => ∃ p s b cs L, vs = [.ref p, .int (s : Nat), .int b] ∧ HS H (shR C p cs :: L) ∧ cs.length ≤ 8 ∧ s < cs.length ∧ ∀ H', HS H' (shR C p (cs.set s (cs.getD s 0 + b)) :: L) → Q .non H'
def spSharesInit (K : PySem.W.Frag) (C : Addr) : Sp := fun vs H Q _ => ∃ p q b cs L, vs = [.ref p, .ref q] ∧ HS H (ob p C [] :: L) ∧ RdB K b L q (iv cs) ∧ Good cs ∧ (∀ c ∈ cs, c ≤ 4000) ∧ ∀ H', HS H' (shR C p cs :: L) → Q .non H'
def spNeedSign : Sp := fun vs H Q _ => ∃ p s m, vs = [.ref p, .int s, .int m] ∧ 0 ≤ s ∧ s ≤ m ∧ Q .non H
def spAheadOf (C : Addr) : Sp := fun vs H Q _ => ∃ p s cs L, vs = [.ref p, .int (s : Nat)] ∧ HS H (shR C p cs :: L) ∧ cs.length ≤ 8 ∧ s ≤ cs.length ∧ ∀ H', HS H' (shR C p cs :: L) → Q (.int (cs.take s).sum) H'
def spManyOf (C : Addr) : Sp := fun vs H Q _ => ∃ p s cs L, vs = [.ref p, .int (s : Nat)] ∧ HS H (shR C p cs :: L) ∧ cs.length ≤ 8 ∧ s < cs.length ∧ ∀ H', HS H' (shR C p cs :: L) → Q (.int (cs.getD s 0)) H'
def spWhole (C : Addr) : Sp := fun vs H Q _ => ∃ p cs L, vs = [.ref p] ∧ HS H (shR C p cs :: L) ∧ cs.length ≤ 8 ∧ ∀ H', HS H' (shR C p cs :: L) → Q (.int cs.sum) H'
def spSignAt (C : Addr) : Sp := fun vs H Q _ => ∃ p x cs L, vs = [.ref p, .int x] ∧ HS H (shR C p cs :: L) ∧ Good cs ∧ 0 ≤ x ∧ x < cs.sum ∧ ∀ H', HS H' (shR C p cs :: L) → Q (.int (signF cs x : Nat)) H'
def spGrow (C : Addr) : Sp := fun vs H Q _ => ∃ p s b cs L, vs = [.ref p, .int (s : Nat), .int b] ∧ HS H (shR C p cs :: L) ∧ cs.length ≤ 8 ∧ s < cs.length ∧ 0 ≤ b ∧ b ≤ 4000 ∧ ∀ H', HS H' (shR C p (cs.set s (cs.getD s 0 + b)) :: L) → Q .non H'
def halves (cs : List Int) : List Int := cs.map fun c => (c + 1) / 2
def spHalve (C : Addr) : Sp := fun vs H Q _ => ∃ p cs L, vs = [.ref p] ∧ HS H (shR C p cs :: L) ∧ cs.length ≤ 8 ∧ ∀ H', HS H' (shR C p (halves cs) :: L) → Q .non H'
def spAllCounts (C : Addr) : Sp := fun vs H Q _ => ∃ p cs L, vs = [.ref p] ∧ HS H (shR C p cs :: L) ∧ cs.length ≤ 8 ∧ ∀ r H', HS H' (pt r (.lst (iv cs)) :: shR C p cs :: L) → Q (.ref r) H'
section
variable {K : PySem.W.Frag} {H : Hp} {Q : VK} {E : XK} {L F : List SA} {p q C : Addr} {i j b lo hi : Int} {cs : List Int}
theorem c_within (k : Q (.bl (decide (lo ≤ i ∧ i ≤ hi))) H) : spWithin [.int i, .int lo, .int hi] H Q E := ⟨_, _, _, rfl, .inl ⟨i, rfl, k⟩⟩
theorem c_withinB {z : Bool} (k : Q (.bl false) H) : spWithin [.bl z, .int lo, .int hi] H Q E := ⟨_, _, _, rfl, .inr ⟨z, rfl, k⟩⟩
theorem c_climb (s : Nat) (e : i = (s : Nat)) [hs : HS H L] [o : Own L p (shR C p cs) F] (h8 : cs.length ≤ 8) (hl : s < cs.length) (k : ∀ H', HS H' (shR C p (cs.set s (cs.getD s 0 + b)) :: F) → Q .non H') : spClimb C [.ref p, .int i, .int b] H Q E :=
  ⟨p, s, b, cs, F, by rw [e], hs.pk o.pk, h8, hl, k⟩
theorem c_needSign (h0 : 0 ≤ i) (h1 : i ≤ j) (k : Q .non H) : spNeedSign [.ref p, .int i, .int j] H Q E := ⟨p, i, j, rfl, h0, h1, k⟩
theorem c_aheadOf (s : Nat) (e : i = (s : Nat)) [hs : HS H L] [o : Own L p (shR C p cs) F] (h8 : cs.length ≤ 8) (hl : s ≤ cs.length) (k : ∀ H', HS H' (shR C p cs :: F) → Q (.int (cs.take s).sum) H') : spAheadOf C [.ref p, .int i] H Q E :=
  ⟨p, s, cs, F, by rw [e], hs.pk o.pk, h8, hl, k⟩
theorem c_manyOf (s : Nat) (e : i = (s : Nat)) [hs : HS H L] [o : Own L p (shR C p cs) F] (h8 : cs.length ≤ 8) (hl : s < cs.length) (k : ∀ H', HS H' (shR C p cs :: F) → Q (.int (cs.getD s 0)) H') : spManyOf C [.ref p, .int i] H Q E :=
  ⟨p, s, cs, F, by rw [e], hs.pk o.pk, h8, hl, k⟩
theorem c_whole [hs : HS H L] [o : Own L p (shR C p cs) F] (h8 : cs.length ≤ 8) (k : ∀ H', HS H' (shR C p cs :: F) → Q (.int cs.sum) H') : spWhole C [.ref p] H Q E :=
  ⟨p, cs, F, rfl, hs.pk o.pk, h8, k⟩
theorem c_signAt [hs : HS H L] [o : Own L p (shR C p cs) F] (g : Good cs) (h0 : 0 ≤ i) (h1 : i < cs.sum) (k : ∀ H', HS H' (shR C p cs :: F) → Q (.int (signF cs i : Nat)) H') : spSignAt C [.ref p, .int i] H Q E :=
  ⟨p, i, cs, F, rfl, hs.pk o.pk, g, h0, h1, k⟩
theorem c_grow (s : Nat) (e : i = (s : Nat)) [hs : HS H L] [o : Own L p (shR C p cs) F] (h8 : cs.length ≤ 8) (hl : s < cs.length) (h0 : 0 ≤ b) (h1 : b ≤ 4000) (k : ∀ H', HS H' (shR C p (cs.set s (cs.getD s 0 + b)) :: F) → Q .non H') : spGrow C [.ref p, .int i, .int b] H Q E :=
  ⟨p, s, b, cs, F, by rw [e], hs.pk o.pk, h8, hl, h0, h1, k⟩
theorem c_halve [hs : HS H L] [o : Own L p (shR C p cs) F] (h8 : cs.length ≤ 8) (k : ∀ H', HS H' (shR C p (halves cs) :: F) → Q .non H') : spHalve C [.ref p] H Q E :=
  ⟨p, cs, F, rfl, hs.pk o.pk, h8, k⟩
theorem c_allCounts [hs : HS H L] [o : Own L p (shR C p cs) F] (h8 : cs.length ≤ 8) (k : ∀ r H', HS H' (pt r (.lst (iv cs)) :: shR C p cs :: F) → Q (.ref r) H') : spAllCounts C [.ref p] H Q E :=
  ⟨p, cs, F, rfl, hs.pk o.pk, h8, k⟩
theorem c_needCounts {t : Bool} [hs : HS H L] [r : RdB K t L p (iv cs)] (g : Good cs) (h : ∀ c ∈ cs, c ≤ 4000) (k : ∀ H', HS H' L → Q .non H') : spNeedCounts K [.ref p] H Q E := ⟨p, t, cs, L, rfl, hs, r, g, h, k⟩
theorem c_sharesInit {t : Bool} [hs : HS H L] [o : Own L p (ob p C []) F] [r : RdB K t F q (iv cs)] (g : Good cs) (h : ∀ c ∈ cs, c ≤ 4000) (k : ∀ H', HS H' (shR C p cs :: F) → Q .non H') : spSharesInit K C [.ref p, .ref q] H Q E :=
  ⟨p, q, t, cs, F, rfl, hs.pk o.pk, r, g, h, k⟩
end
theorem nn_of {i : Nat} {n : Int} (h : (i : Int) < n) : i < n.toNat := by omega
theorem at_iv {cs : List Int} {i : Nat} {c : Int} (h : cs[i]? = some c) : atI (iv cs) (i : Int) = some (.int c) := by
  apply atI_nat; simp [iv, h]
theorem iv_len (cs : List Int) : (iv cs).length = cs.length := by simp [iv]
theorem iv_at {cs : List Int} {i : Nat} {x : V} (h : (iv cs)[i]? = some x) : ∃ c, cs[i]? = some c ∧ x = .int c := by
  simp only [iv, List.getElem?_map] at h
  cases e : cs[i]? with
  | none => rw [e] at h; cases h
  | some c => rw [e] at h; exact ⟨c, rfl, (Option.some.inj h).symm⟩
theorem iv_snoc {cs : List Int} {i : Nat} {c : Int} (h : cs[i]? = some c) : iv (cs.take i) ++ [V.int c] = iv (cs.take (i + 1)) := by
  rw [List.take_add_one, h]; simp [iv]
theorem iv_app (cs : List Int) (c : Int) : iv (cs ++ [c]) = iv cs ++ [.int c] := by simp [iv]
theorem get_getD {cs : List Int} {i : Nat} (h : i < cs.length) : cs[i]? = some (cs.getD i 0) := by rw [List.getD_eq_getElem?_getD, List.getElem?_eq_getElem h]; rfl
theorem iv_set (cs : List Int) (i : Nat) (c : Int) : (iv cs).set i (.int c) = iv (cs.set i c) := by simp [iv, List.map_set]
theorem ixN_nat {n i : Nat} (h : i < n) : ixN n (i : Int) = some i := by
  unfold ixN; rw [if_pos (by omega), if_pos (by omega)]; simp
theorem fill_step {cs : List Int} {n i : Nat} (hn : cs.length = n) (hi : i < n) : (cs.take i ++ List.replicate (n - i) (0 : Int)).set i ((cs.take i ++ List.replicate (n - i) 0).getD i 0 + cs.getD i 0) = cs.take (i + 1) ++ List.replicate (n - (i + 1)) 0 := by
  subst hn
  have hl : (cs.take i ++ List.replicate (cs.length - i) (0 : Int)).length = cs.length := by simp; omega
  have hc : cs[i]? = some (cs.getD i 0) := by rw [List.getD_eq_getElem?_getD, List.getElem?_eq_getElem hi]; rfl
  have hz : (cs.take i ++ List.replicate (cs.length - i) (0 : Int)).getD i 0 = 0 := by
    rw [List.getD_eq_getElem?_getD, List.getElem?_append_right (by simp; omega)]
    rw [List.getElem?_replicate]; split <;> rfl
  rw [hz, Int.zero_add]
  apply List.ext_getElem?
  intro j
  rw [List.getElem?_set]
  split
  · subst_vars
    rw [if_pos (by rw [hl]; exact hi), List.getElem?_append_left (by simp; omega), List.getElem?_take_of_lt (by omega), hc]
  · rename_i hne
    by_cases hj : j < i
    · rw [List.getElem?_append_left (by simp; omega), List.getElem?_append_left (by simp; omega), List.getElem?_take_of_lt hj, List.getElem?_take_of_lt (by omega)]
    · rw [List.getElem?_append_right (by simp; omega), List.getElem?_append_right (by simp; omega), List.getElem?_replicate, List.getElem?_replicate]
      simp only [List.length_take]
      split <;> split <;> first | rfl | omega
section
variable {K : PySem.W.Frag} {H : Hp} {Q : VK} {L : List SA} {p : Addr} {cs : List Int} {i : Int}
theorem cut_take (cs : List Int) (i : Nat) : cutV (iv cs) none (some (i : Int)) = iv (cs.take i) := by
  unfold cutV
  rw [HT.sIx_none, HT.sIx_nat]
  simp only [List.drop_zero, Nat.sub_zero, iv, List.length_map]
  rw [← List.map_take]
  congr 1
  rw [← List.take_eq_take_min]
/-- xs[:i] -/
theorem s_slTake (n : Nat) (e : i = (n : Int)) [hs : HS H L] [m : RdL K L p (iv cs)] (h : ∀ q H', HS H' (pt q (.lst (iv (cs.take n))) :: L) → Q (.ref q) H') : rSlG K (.ref p) none (some i) H Q := by
  refine s_slL fun q H' hs => ?_
  rw [e, cut_take] at hs
  exact h q H' hs
theorem s_sumV [hs : HS H L] [m : RdL K L p (iv cs)] (h : Q (.int cs.sum) H) : rSum K [.ref p] H Q := ⟨p, cs, rfl, m.sq hs, h⟩
theorem at_iv' {n : Nat} {c : Int} (e : i = (n : Int)) (h : cs[n]? = some c) : atI (iv cs) i = some (.int c) := by rw [e]; exact at_iv h
theorem pick2 {a b r : Int} (h0 : 0 ≤ r) (h1 : r < 2) : ∃ z, atI [V.int a, V.int b] r = some (.int z) ∧ (z = a ∨ z = b) := by
  have : r = 0 ∨ r = 1 := by omega
  rcases this with rfl | rfl
  · exact ⟨a, rfl, .inl rfl⟩
  · exact ⟨b, rfl, .inr rfl⟩
end
theorem small_line {n : Nat} (h : n ≤ 100000) : n ≤ sizeLine := Nat.le_trans h (by decide)
theorem small_lt {n : Nat} (h : n < 100000) : n < sizeLine := Nat.lt_of_lt_of_le h (by decide)
end G

/-! The law's own drawing. -/
namespace G
open PySem L2
def Row0 (i m : Int) : Prop := 0 ≤ i ∧ 0 ≤ m ∧ m < 2147483648
/-- the law's row at p, whatever was drawn -/
def rowA (K : PySem.W.Frag) (p : Addr) : SA := exA fun a : Addr => exA fun zs : List Int => exA fun i : Int => exA fun m : Int => exA fun c : Int =>
  st (pu (Row0 i m)) (st (fz K a (iv zs)) (pt p (.lst [.ref a, .int i, .int m, .int c])))
instance {K : PySem.W.Frag} {p : Addr} : Key (rowA K p) p := ⟨⟩
theorem HS.pu_in {H : Hp} {L : List SA} {f : Prop} (h : HS H (pu f :: L)) : f ∧ HS H L := ⟨h.fact, h.drop⟩
theorem HS.pu_out {H : Hp} {L : List SA} {f : Prop} (q : f) (h : HS H L) : HS H (pu f :: L) := h.add q
theorem HS.row_in {K : PySem.W.Frag} {H : Hp} {L : List SA} {p : Addr} (h : HS H (rowA K p :: L)) : ∃ a zs i m c, Row0 i m ∧ HS H (pt p (.lst [.ref a, .int i, .int m, .int c]) :: fz K a (iv zs) :: L) := by
  obtain ⟨a, h⟩ := h.ex_in
  obtain ⟨zs, h⟩ := h.ex_in
  obtain ⟨i, h⟩ := h.ex_in
  obtain ⟨m, h⟩ := h.ex_in
  obtain ⟨c, h⟩ := h.ex_in
  obtain ⟨q, h⟩ := h.st_in.pu_in
  exact ⟨a, zs, i, m, c, q, h.st_in.re⟩
theorem HS.row_out {K : PySem.W.Frag} {H : Hp} {L : List SA} {p a : Addr} {zs : List Int} {i m c : Int} (q : Row0 i m) (h : HS H (pt p (.lst [.ref a, .int i, .int m, .int c]) :: fz K a (iv zs) :: L)) : HS H (rowA K p :: L) := by
  refine HS.ex_out a (HS.ex_out zs (HS.ex_out i (HS.ex_out m (HS.ex_out c (HS.st_out (HS.pu_out q (HS.st_out ?_)))))))
  exact h.re
def spTaken (K : PySem.W.Frag) : Sp := fun vs H Q _ => ∃ p n L, vs = [.ref p, .int n] ∧ HS H (rowA K p :: L) ∧ 0 < n ∧ n < 2 ^ 64 ∧ ∀ r H', 0 ≤ r → r < n → HS H' (rowA K p :: L) → Q (.int r) H'
theorem c_taken {K : PySem.W.Frag} {H : Hp} {Q : VK} {E : XK} {L F : List SA} {p : Addr} {n : Int} [hs : HS H L] [o : Own L p (rowA K p) F] (h0 : 0 < n) (h1 : n < 2 ^ 64) (k : ∀ r H', 0 ≤ r → r < n → HS H' (rowA K p :: F) → Q (.int r) H') : spTaken K [.ref p, .int n] H Q E :=
  ⟨p, n, F, rfl, hs.pk o.pk, h0, h1, k⟩
theorem div64 {i n : Int} (h0 : 0 < n) (h1 : n < 2 ^ 64) : CDivW i n := wide_div (b := 64) h0 (by omega) (by decide) (by decide)
theorem mulx64 {i j : Int} (hi : i.natAbs < 2 ^ 64) (hj : j.natAbs < 2 ^ 64) : CMulX i j := mulx_ok hi hj (by decide)
end G

/-! The law's own comparison. -/
namespace G
open PySem L2
def flat (x : V) : Prop := x = .non ∨ (∃ b, x = .bl b) ∨ (∃ i, x = .int i) ∨ ∃ z, x = .str z
/-- x and y are the same, of the same kinds, less than n deep -/
def DtN (K : PySem.W.Frag) : Nat → List SA → V → V → Prop
  | 0, _, _, _ => False
  | n + 1, L, x, y => (x = y ∧ flat x) ∨ ∃ p q xs ys, x = .ref p ∧ y = .ref q ∧ ((RdL K L p xs ∧ RdL K L q ys) ∨ (RdT K L p xs ∧ RdT K L q ys)) ∧ xs.length = ys.length ∧ xs.length ≤ 100000 ∧ ∀ (k : Nat) a b, xs[k]? = some a → ys[k]? = some b → DtN K n L a b
theorem RdL.there {K : PySem.W.Frag} {L : List SA} {A : SA} {p : Addr} {xs : List V} (r : RdL K L p xs) : RdL K (A :: L) p xs := ⟨fun hs => r.sq hs.drop⟩
theorem RdT.there {K : PySem.W.Frag} {L : List SA} {A : SA} {p : Addr} {xs : List V} (r : RdT K L p xs) : RdT K (A :: L) p xs := ⟨fun hs => r.sq hs.drop⟩
theorem DtN.there {K : PySem.W.Frag} : ∀ {n : Nat} {L : List SA} {A : SA} {x y : V}, DtN K n L x y → DtN K n (A :: L) x y
  | 0, _, _, _, _, h => h
  | n + 1, L, A, x, y, h => by
    rcases h with h | ⟨p, q, xs, ys, e1, e2, r, hl, hz, h⟩
    · exact .inl h
    · refine .inr ⟨p, q, xs, ys, e1, e2, ?_, hl, hz, fun k a b h1 h2 => (h k a b h1 h2).there⟩
      rcases r with ⟨r1, r2⟩ | ⟨r1, r2⟩
      · exact .inl ⟨r1.there, r2.there⟩
      · exact .inr ⟨r1.there, r2.there⟩
theorem ty_list {K : PySem.W.Frag} {H : Hp} {p : Addr} {xs : List V} (h : SqL K H p xs) : TyX K H (.ref p) (.type "list") := by
  rcases h with (h | ⟨o, h⟩) | ⟨o, its, n, h1, h2, _⟩
  · exact .base (.lst h)
  · exact .base (.frz h)
  · exact .kList h1 h2
theorem ty_tup {K : PySem.W.Frag} {H : Hp} {p : Addr} {xs : List V} (h : SqT K H p xs) : TyX K H (.ref p) (.type "tuple") := by
  rcases h with (h | ⟨o, h⟩) | ⟨o, its, n, h1, h2, _⟩
  · exact .base (.tup h)
  · exact .fTuple h
  · exact .kTuple h1 h2
theorem kit2 {K : PySem.W.Frag} {a b c : String} {r s : Bool} (h1 : kitB a b = some r) (h2 : kitB a c = some s) : PySem.W.kitAny K (.type a) [.type b, .type c] = some (r || s) := by
  refine kitAny_cons (kit_ty h1) (fun e => ?_) (fun e => by rw [e]; rfl)
  subst e
  exact kitAny_cons (kit_ty h2) (fun e => by subst e; exact kitAny_nil) (fun e => by subst e; rfl)
section
variable {K : PySem.W.Frag} {H : Hp} {Q : VK} {L : List SA} {x : V} {tp_ : Addr}
theorem s_isiT {b c a : String} {r s : Bool} (hs : HS H (tp tp_ [.ty b, .ty c] :: L)) (h2 : TyX K H x (.type a)) (h3 : kitB a b = some r) (h4 : kitB a c = some s) (h : Q (.bl (r || s)) H) : rIsiG K [x, .ref tp_] H Q :=
  .inr (.inl ⟨x, tp_, [.ty b, .ty c], .type a, [.type b, .type c], r || s, rfl, hs.fact, .cons (.ty _) (.cons (.ty _) .nil), h2, kit2 h3 h4, h⟩)
/-- isinstance of a value whose type is known by its name -/
theorem s_isiN {b a : String} {r : Bool} (h2 : TyX K H x (.type a)) (h3 : kitB a b = some r) (h : Q (.bl r) H) : rIsiG K [x, .ty b] H Q := s_isi (.ty _) h2 (kit_ty h3) h
theorem s_isN (h : Q (.bl (decide (x = .non))) H) : rIsNo x .non H Q := ⟨rfl, h⟩
theorem s_isNot (h : Q (.bl (!decide (x = .non))) H) : rIsNot x .non H Q := ⟨rfl, h⟩
/-- two empty lists are equal -/
theorem s_eqNil {p q : Addr} {L1 L2 : List SA} [hs : HS H L] [o1 : Own L p (pt p (.lst [])) L1] [o2 : Own L q (pt q (.lst [])) L2] (h : Q (.bl true) H) : rEqG K (.ref p) (.ref q) H Q :=
  .inr ⟨_, _, .lst (.inl (.inl (hs.pk o1.pk).get)) .nil, .lst (.inl (.inl (hs.pk o2.pk).get)) .nil, rfl, rfl, h⟩
theorem s_neNil {p q : Addr} {L1 L2 : List SA} [hs : HS H L] [o1 : Own L p (pt p (.lst [])) L1] [o2 : Own L q (pt q (.lst [])) L2] (h : Q (.bl false) H) : rNeG K (.ref p) (.ref q) H Q :=
  .inr ⟨_, _, .lst (.inl (.inl (hs.pk o1.pk).get)) .nil, .lst (.inl (.inl (hs.pk o2.pk).get)) .nil, rfl, rfl, h⟩
end
def spAlike (K : PySem.W.Frag) (n : Nat) : Sp := fun vs H Q _ => ∃ x y L, vs = [x, y] ∧ HS H L ∧ DtN K n L x y ∧ ∀ H', HS H' L → Q (.bl true) H'
theorem c_alike {K : PySem.W.Frag} {H : Hp} {Q : VK} {E : XK} {L : List SA} {x y : V} {n : Nat} [hs : HS H L] (d : DtN K n L x y) (k : ∀ H', HS H' L → Q (.bl true) H') : spAlike K n [x, y] H Q E := ⟨x, y, L, rfl, hs, d, k⟩
theorem DtN.int {K : PySem.W.Frag} {n : Nat} {L : List SA} {i j : Int} (e : i = j) : DtN K (n + 1) L (.int i) (.int j) := .inl ⟨by rw [e], .inr (.inr (.inl ⟨i, rfl⟩))⟩
theorem DtN.str {K : PySem.W.Frag} {n : Nat} {L : List SA} {i j : Str} (e : i = j) : DtN K (n + 1) L (.str i) (.str j) := .inl ⟨by rw [e], .inr (.inr (.inr ⟨i, rfl⟩))⟩
/-- two tuples, two lists -/
theorem DtN.tup {K : PySem.W.Frag} {n : Nat} {L : List SA} {p q : Addr} {xs ys : List V} [r1 : RdT K L p xs] [r2 : RdT K L q ys] (hl : xs.length = ys.length) (hz : xs.length ≤ 100000) (h : ∀ (k : Nat) a b, xs[k]? = some a → ys[k]? = some b → DtN K n L a b) : DtN K (n + 1) L (.ref p) (.ref q) :=
  .inr ⟨p, q, xs, ys, rfl, rfl, .inr ⟨r1, r2⟩, hl, hz, h⟩
theorem DtN.lst {K : PySem.W.Frag} {n : Nat} {L : List SA} {p q : Addr} {xs ys : List V} [r1 : RdL K L p xs] [r2 : RdL K L q ys] (hl : xs.length = ys.length) (hz : xs.length ≤ 100000) (h : ∀ (k : Nat) a b, xs[k]? = some a → ys[k]? = some b → DtN K n L a b) : DtN K (n + 1) L (.ref p) (.ref q) :=
  .inr ⟨p, q, xs, ys, rfl, rfl, .inl ⟨r1, r2⟩, hl, hz, h⟩
/-- two lists of the same ints -/
theorem DtN.iv {K : PySem.W.Frag} {n : Nat} {L : List SA} {p q : Addr} {cs : List Int} [r1 : RdL K L p (iv cs)] [r2 : RdL K L q (iv cs)] (hz : cs.length ≤ 100000) : DtN K (n + 2) L (.ref p) (.ref q) :=
  .lst rfl (by rw [iv_len]; exact hz) fun k a b h1 h2 => by
    obtain ⟨c, h3, rfl⟩ := iv_at h1
    obtain ⟨d, h4, rfl⟩ := iv_at h2
    rw [h3] at h4; cases h4
    exact .int rfl
/-- a list of ints is itself -/
theorem dp_iv {K : PySem.W.Frag} {H : Hp} {p : Addr} {cs : List Int} (h : SqL K H p (iv cs)) : Dp K H (.ref p) (.list (cs.map .int)) := by
  refine .lst h ?_
  have : ∀ l : List Int, DpAll K H (l.map V.int) (l.map PyData.int) := by
    intro l; induction l with
    | nil => exact .nil
    | cons a l ih => exact .cons (.int a) ih
  exact this cs
theorem iv_canLay : ∀ cs : List Int, PyData.canLayAll0 (cs.map .int) = true
  | [] => by simp [PyData.canLayAll0]
  | c :: r => by simp [PyData.canLayAll0, PyData.canLay0, iv_canLay r]
theorem iv_depth : ∀ cs : List Int, PyData.depthAll (cs.map .int) = 0
  | [] => by simp [PyData.depthAll]
  | c :: r => by simp [PyData.depthAll, PyData.depth, iv_depth r]
theorem shaped_iv {cs : List Int} (h : cs.length ≤ 100000) : SeqAt.shaped (.list (cs.map .int)) = true := by
  unfold SeqAt.shaped
  have e : (PyData.list (cs.map .int)).depth = 1 := by simp [PyData.depth, iv_depth]
  rw [e]
  simp [PyData.canLay0, iv_canLay]
theorem eqv_iv : ∀ (as bs : List Int), PyData.eqvAll (as.map .int) (bs.map .int) = decide (as = bs)
  | [], [] => by simp [PyData.eqvAll]
  | [], _ :: _ => by simp [PyData.eqvAll]
  | _ :: _, [] => by simp [PyData.eqvAll]
  | a :: as, b :: bs => by
    simp only [List.map_cons, PyData.eqvAll, PyData.eqv, eqv_iv as bs]
    by_cases h : a = b <;> by_cases h2 : as = bs <;> simp [h, h2]
section
variable {K : PySem.W.Frag} {H : Hp} {Q : VK} {L : List SA} {p q : Addr} {as bs : List Int}
/-- lists of ints compared -/
theorem s_eqIv [hs : HS H L] [m1 : RdL K L p (iv as)] [m2 : RdL K L q (iv bs)] (z1 : as.length ≤ 100000) (z2 : bs.length ≤ 100000) (h : Q (.bl (decide (as = bs))) H) : rEqG K (.ref p) (.ref q) H Q :=
  .inr ⟨_, _, dp_iv (m1.sq hs), dp_iv (m2.sq hs), shaped_iv z1, shaped_iv z2, by simp only [PyData.eqv, eqv_iv]; exact h⟩
theorem s_neIv [hs : HS H L] [m1 : RdL K L p (iv as)] [m2 : RdL K L q (iv bs)] (z1 : as.length ≤ 100000) (z2 : bs.length ≤ 100000) (h : Q (.bl (!decide (as = bs))) H) : rNeG K (.ref p) (.ref q) H Q :=
  .inr ⟨_, _, dp_iv (m1.sq hs), dp_iv (m2.sq hs), shaped_iv z1, shaped_iv z2, by simp only [PyData.eqv, eqv_iv]; exact h⟩
end
end G

/-! Piles. -/
namespace G
open PySem L2
def uponF (cs : List Int) (s : Nat) (n : Int) : Int := n / cs.getD s 0 * cs.sum + (cs.take s).sum + n % cs.getD s 0
def offS (cs : List Int) (n : Int) : Nat := signF cs (n % cs.sum)
def offN (cs : List Int) (n : Int) : Int := n / cs.sum * cs.getD (offS cs n) 0 + n % cs.sum - (cs.take (offS cs n)).sum
def spNeedNumber : Sp := fun vs H Q _ => ∃ n, vs = [.int n] ∧ 0 ≤ n ∧ n ≤ 2 ^ 1200 ∧ Q .non H
def spUpon (C : Addr) : Sp := fun vs H Q _ => ∃ n p s cs L, vs = [.int n, .ref p, .int (s : Nat)] ∧ HS H (shR C p cs :: L) ∧ Good cs ∧ cs.sum < 2 ^ 64 ∧ s < cs.length ∧ 0 ≤ n ∧ n < 2 ^ 100000 ∧ ∀ H', HS H' (shR C p cs :: L) → Q (.int (uponF cs s n)) H'
def spOff (C : Addr) : Sp := fun vs H Q _ => ∃ n p cs L, vs = [.int n, .ref p] ∧ HS H (shR C p cs :: L) ∧ Good cs ∧ cs.sum < 2 ^ 64 ∧ 0 ≤ n ∧ n < 2 ^ 100000 ∧ ∀ r H', HS H' (tp r [.int (offS cs n : Nat), .int (offN cs n)] :: shR C p cs :: L) → Q (.ref r) H'
def spPushed (K : PySem.W.Frag) : Sp := fun vs H Q _ => ∃ n q s b cs L, vs = [.int n, .ref q, .int (s : Nat)] ∧ HS H L ∧ RdB K b L q (iv cs) ∧ Good cs ∧ (∀ c ∈ cs, c ≤ 4000) ∧ s < cs.length ∧ 0 ≤ n ∧ n ≤ 2 ^ 1200 ∧ ∀ H', HS H' L → Q (.int (uponF cs s n)) H'
def spPopped (K : PySem.W.Frag) : Sp := fun vs H Q _ => ∃ n q b cs L, vs = [.int n, .ref q] ∧ HS H L ∧ RdB K b L q (iv cs) ∧ Good cs ∧ (∀ c ∈ cs, c ≤ 4000) ∧ 0 ≤ n ∧ n ≤ 2 ^ 1200 ∧ ∀ r H', HS H' (tp r [.int (offS cs n : Nat), .int (offN cs n)] :: L) → Q (.ref r) H'
section
variable {K : PySem.W.Frag} {H : Hp} {Q : VK} {E : XK} {L F : List SA} {p q C : Addr} {i n b lo hi : Int} {cs : List Int}
theorem c_needNumber (h0 : 0 ≤ n) (h1 : n ≤ 2 ^ 1200) (k : Q .non H) : spNeedNumber [.int n] H Q E := ⟨n, rfl, h0, h1, k⟩
theorem c_upon (s : Nat) (e : i = (s : Nat)) [hs : HS H L] [o : Own L p (shR C p cs) F] (g : Good cs) (hz : cs.sum < 2 ^ 64) (hl : s < cs.length) (h0 : 0 ≤ n) (h1 : n < 2 ^ 100000) (k : ∀ H', HS H' (shR C p cs :: F) → Q (.int (uponF cs s n)) H') : spUpon C [.int n, .ref p, .int i] H Q E :=
  ⟨n, p, s, cs, F, by rw [e], hs.pk o.pk, g, hz, hl, h0, h1, k⟩
theorem c_off [hs : HS H L] [o : Own L p (shR C p cs) F] (g : Good cs) (hz : cs.sum < 2 ^ 64) (h0 : 0 ≤ n) (h1 : n < 2 ^ 100000) (k : ∀ r H', HS H' (tp r [.int (offS cs n : Nat), .int (offN cs n)] :: shR C p cs :: F) → Q (.ref r) H') : spOff C [.int n, .ref p] H Q E :=
  ⟨n, p, cs, F, rfl, hs.pk o.pk, g, hz, h0, h1, k⟩
theorem c_pushed (s : Nat) (e : i = (s : Nat)) {t : Bool} [hs : HS H L] [r : RdB K t L q (iv cs)] (g : Good cs) (h : ∀ c ∈ cs, c ≤ 4000) (hl : s < cs.length) (h0 : 0 ≤ n) (h1 : n ≤ 2 ^ 1200) (k : ∀ H', HS H' L → Q (.int (uponF cs s n)) H') : spPushed K [.int n, .ref q, .int i] H Q E :=
  ⟨n, q, s, t, cs, L, by rw [e], hs, r, g, h, hl, h0, h1, k⟩
theorem c_popped {t : Bool} [hs : HS H L] [r : RdB K t L q (iv cs)] (g : Good cs) (h : ∀ c ∈ cs, c ≤ 4000) (h0 : 0 ≤ n) (h1 : n ≤ 2 ^ 1200) (k : ∀ r H', HS H' (tp r [.int (offS cs n : Nat), .int (offN cs n)] :: L) → Q (.ref r) H') : spPopped K [.int n, .ref q] H Q E :=
  ⟨n, q, t, cs, L, rfl, hs, r, g, h, h0, h1, k⟩
end
theorem pow1200 : (2 : Int) ^ 1200 < 2 ^ 100000 := by
  have : (2 : Nat) ^ 1200 < 2 ^ 100000 := Nat.pow_lt_pow_right (by decide) (by decide)
  exact_mod_cast this
theorem natAbs_lt {n : Int} {k : Nat} (h0 : 0 ≤ n) (h1 : n < 2 ^ k) : n.natAbs < 2 ^ k := by
  have e : (n.natAbs : Int) = n := Int.natAbs_of_nonneg h0
  have : ((n.natAbs : Nat) : Int) < ((2 ^ k : Nat) : Int) := by rw [e]; push_cast; exact h1
  exact_mod_cast this
theorem Good.sum_le {cs : List Int} (h : ∀ c ∈ cs, c ≤ 4000) : cs.sum ≤ 4000 * cs.length := by
  induction cs with
  | nil => simp
  | cons c r ih => have := ih fun x hx => h x (List.mem_cons_of_mem _ hx); have := h c List.mem_cons_self; simp only [List.sum_cons, List.length_cons]; omega
theorem Good.at_ {cs : List Int} (g : Good cs) {s : Nat} (h : s < cs.length) : 1 ≤ cs.getD s 0 := g.2.2 _ (List.mem_of_getElem? (get_getD h))
theorem Good.sum_pos {cs : List Int} (g : Good cs) : 0 < cs.sum := by
  obtain ⟨h1, _, h3⟩ := g
  cases cs with
  | nil => simp at h1
  | cons c r =>
    have := h3 c List.mem_cons_self
    have := sum_nn r fun y hy => by have := h3 y (List.mem_cons_of_mem _ hy); omega
    simp only [List.sum_cons]; omega
theorem Good.at_le {cs : List Int} (g : Good cs) {s : Nat} (h : s < cs.length) : cs.getD s 0 ≤ cs.sum := by
  have h1 := take_getD cs s h
  have h2 := take_mono cs g.nn (Nat.zero_le s)
  have h3 := take_mono cs g.nn (show s + 1 ≤ cs.length from h)
  rw [List.take_length] at h3
  simp at h2
  omega
theorem Good.signF_lt {cs : List Int} (g : Good cs) {x : Int} (h : x < cs.sum) : signF cs x < cs.length := by
  rcases G.signF_lt cs x h with q | q
  · exact q
  · subst q; have := g.1; simp at this
theorem div_le_self' {n c : Int} (h0 : 0 ≤ n) (hc : 1 ≤ c) : 0 ≤ n / c ∧ n / c ≤ n := ⟨Int.ediv_nonneg h0 (by omega), Int.ediv_le_self c h0⟩
end G

namespace G
open PySem L2
def spLaw (K : PySem.W.Frag) : Sp := fun vs H Q _ => ∃ (a : Addr) (ns : List Int), vs = [.ref a] ∧ SqL K H a (ns.map V.int) ∧ Only H ∧ ∀ H', Q (.bl true) H'
theorem law_in {K : PySem.W.Frag} {H : Hp} {a : Addr} {ns : List Int} (h : SqL K H a (ns.map V.int)) (o : Only H) : HS H [fz K a (iv ns)] := by
  refine HS.add HS.nil ?_
  rcases h with (h | ⟨q, h⟩) | h
  · rcases o a with n | ⟨_, _, n⟩ <;> rw [n] at h <;> cases h
  · exact .inl ⟨q, h⟩
  · exact .inr h
/-- the row that the law begins with -/
theorem row_first {K : PySem.W.Frag} {H : Hp} {L : List SA} {p a : Addr} {ns : List Int} (h : HS H (pt p (.lst [.ref a, .int 0, .int 0, .int 0]) :: fz K a (iv ns) :: L)) : HS H (rowA K p :: L) :=
  HS.row_out ⟨by decide, by decide, by decide⟩ h
def spGreat (K : PySem.W.Frag) : Sp := fun vs H Q _ => ∃ p L, vs = [.ref p] ∧ HS H (rowA K p :: L) ∧ ∀ r H', 0 ≤ r → r < 2 ^ 1100 → HS H' (rowA K p :: L) → Q (.int r) H'
theorem c_great {K : PySem.W.Frag} {H : Hp} {Q : VK} {E : XK} {L F : List SA} {p : Addr} [hs : HS H L] [o : Own L p (rowA K p) F] (k : ∀ r H', 0 ≤ r → r < 2 ^ 1100 → HS H' (rowA K p :: F) → Q (.int r) H') : spGreat K [.ref p] H Q E :=
  ⟨p, F, rfl, hs.pk o.pk, k⟩
theorem pow_1100_1200 : (2 : Int) ^ 1100 ≤ 2 ^ 1200 := by
  have : (2 : Nat) ^ 1100 ≤ 2 ^ 1200 := Nat.pow_le_pow_right (by decide) (by decide)
  exact_mod_cast this
theorem pow64_1100 : (2 : Int) ^ 64 ≤ 2 ^ 1100 := by
  have : (2 : Nat) ^ 64 ≤ 2 ^ 1100 := Nat.pow_le_pow_right (by decide) (by decide)
  exact_mod_cast this
/-- the first of those that are in the share -/
theorem filter_sign {cs : List Int} {x : Int} (g : Good cs) (h0 : 0 ≤ x) (h1 : x < cs.sum) :
    (cs.take (signF cs x)).sum ≤ x ∧ x < (cs.take (signF cs x + 1)).sum ∧ ∀ j : Nat, j < cs.length → (cs.take j).sum ≤ x → x < (cs.take (j + 1)).sum → j = signF cs x := by
  have ex : ∀ n : Nat, n ≤ cs.length → (x < (cs.take n).sum) → ∃ j, j < n ∧ (cs.take j).sum ≤ x ∧ x < (cs.take (j + 1)).sum := by
    intro n
    induction n with
    | zero => intro _ h; simp at h; omega
    | succ n ih =>
      intro hn h
      by_cases q : x < (cs.take n).sum
      · obtain ⟨j, a, b⟩ := ih (by omega) q
        exact ⟨j, by omega, b⟩
      · exact ⟨n, by omega, by omega, h⟩
  obtain ⟨j, a, b, c⟩ := ex cs.length (Nat.le_refl _) (by rw [List.take_length]; exact h1)
  have e := signF_is cs x j g.nn a b c
  subst e
  exact ⟨b, c, fun i hi b c => signF_is cs x i g.nn hi b c⟩
/-- a method of a table -/
theorem s_mthSh {σ : L2.St} {H : Hp} {Q : VK} {L L' : List SA} {a C : Addr} {cs : List Int} {m : Str} {sp : Sp} {E : XK} {t : TA} [hs : HS H L] [o : Own L a (shR C a cs) L'] (l : (m == "signs") = false ∧ (m == "tree") = false) (h : t σ H fun vs H2 => sp (.ref a :: (vs ++ [])) H2 Q E) : mthK C m sp E t σ Q (.ref a) H := by
  obtain ⟨z, h2⟩ := (hs.pk o.pk).sh_in
  obtain ⟨dx, e⟩ := h2.ins
  exact ⟨a, dx, _, rfl, e, by simp only [List.lookup, l.1, l.2], h⟩
/-- what comes behind an if, once -/
theorem s_ifR {c : TT} {t u : TS} {D : Ends} {σ : L2.St} {H : Hp} (M : L2.St → Hp → Prop) (rest : ∀ σ' H', M σ' H' → D.nx σ' H') (h : ∀ N : L2.St → Hp → Prop, (∀ σ' H', M σ' H' → N σ' H') → c σ H fun b H1 => if b = true then t { D with nx := N } σ H1 else u { D with nx := N } σ H1) : tIfS c t u D σ H := h D.nx rest
/-- the same word, no instance by itself -/
def HSp (H : Hp) (L : List SA) : Prop := HS H L
theorem HS.to {H : Hp} {L L' : List SA} (h : HS H L) (r : Re L L') : HSp H L' := by haveI := r; exact h.re
theorem HS.dupT {H : Hp} {L : List SA} {t : Addr} {xs : List V} (h : HS H (tp t xs :: L)) : HS H (tp t xs :: tp t xs :: L) := HS.dup h
end G

namespace G
open PySem L2
local macro_rules | `(tactic| walk_at "s") => `(tactic| (first
  | with_reducible refine s_varV ?_
  | with_reducible refine s_seq ?_
  | with_reducible refine s_wh ?_
  | with_reducible refine s_asg ?_
  | with_reducible refine s_nameV ?_
  | with_reducible refine s_op ?_
  | with_reducible refine s_c ?_
  | with_reducible refine s_cons ?_
  | with_reducible refine s_nil ?_
  | with_reducible refine s_test ?_
  | with_reducible refine s_tst ?_
  | with_reducible refine s_if ?_
  | with_reducible refine s_add ?_
  | with_reducible refine s_sub ?_
  | with_reducible refine s_eq ?_
  | with_reducible refine s_ne ?_
  | with_reducible refine s_lt ?_
  | with_reducible refine s_le ?_
  | with_reducible refine s_gt ?_
  | with_reducible refine s_ge ?_
  | with_reducible refine s_bitand ?_
  | with_reducible refine s_drop ?_
  | with_reducible refine s_ret ?_
  | with_reducible refine s_retN ?_
  | with_reducible refine s_next ?_
  | with_reducible refine s_cb ?_
  | with_reducible refine s_call ?_
  | with_reducible refine s_mth ?_
  | with_reducible refine s_fld ?_
  | with_reducible refine s_put ?_
  | with_reducible refine s_for ?_
  | with_reducible refine s_rng1 ?_
  | with_reducible refine s_not ?_
  | with_reducible refine s_and ?_
  | with_reducible refine s_or ?_
  | with_reducible refine s_tB ?_
  | with_reducible refine s_andV ?_
  | with_reducible refine s_orV ?_
  | with_reducible refine s_notV ?_
  | with_reducible refine s_andK ?_
  | with_reducible refine s_orK ?_
  | with_reducible refine s_notK ?_
  | with_reducible refine s_chain ?_
  | with_reducible refine s_chain3 ?_
  | with_reducible refine s_chK3 ?_
  | with_reducible refine s_chK4 ?_
  | with_reducible refine s_lstRg ?_
  | with_reducible refine s_rg1 ?_
  | with_reducible refine s_rg1K ?_
  | with_reducible refine s_chK ?_
  | with_reducible refine s_ife ?_
  | with_reducible refine s_par ?_
  | with_reducible refine s_parK ?_
  | with_reducible refine s_par3 ?_
  | with_reducible refine s_parK3 ?_
  | with_reducible refine s_lst ?_
  | with_reducible refine s_tup ?_
  | with_reducible refine s_lc ?_
  | with_reducible refine s_yes ?_
  | with_reducible refine s_make ?_
  | with_reducible refine s_gsub ?_
  | with_reducible refine s_sl ?_
  | with_reducible refine s_noPart ?_
  | with_reducible refine s_part ?_
  | with_reducible refine s_partK ?_
  | with_reducible refine s_bm ?_
  | with_reducible refine s_gnil ?_
  | with_reducible refine s_gcons ?_
  | with_reducible refine s_int ?_
  | with_reducible refine s_intB ?_
  | with_reducible refine i_t ?_
  | with_reducible refine i_f ?_
  | with_reducible refine i_nf ?_
  | with_reducible refine i_nt ?_
  | with_reducible refine s_eqS ?_
  | with_reducible refine s_neS ?_
  | with_reducible refine s_eqB ?_
  | with_reducible refine s_neB ?_))
local macro_rules | `(tactic| walk_at "f") => `(tactic| (((with_reducible refine' s_fldK ?c ?n ?l ?k); (case c => assumption); (case n => assumption); (case l => exact rfl))))
local macro_rules | `(tactic| walk_at "m") => `(tactic| (first | ((with_reducible refine' s_mthK ?l ?k); (case l => exact rfl)) | ((with_reducible refine' s_mthSh ?l ?k); (case l => exact ⟨rfl, rfl⟩))))
local macro_rules | `(tactic| walk_at "v") => `(tactic| (((with_reducible refine' s_var ?e ?k); (case e => exact rfl))))
local macro_rules | `(tactic| walk_at "n") => `(tactic| (with_reducible refine s_name ?_))
local macro_rules | `(tactic| walk_at "g") => `(tactic| (repeat (first | walk_at "s" | walk_at "f" | walk_at "m" | walk_at "v" | walk_at "n")))
local macro_rules | `(tactic| walk_at "p") => `(tactic| (((with_reducible refine' s_putK ?c ?n ?z ?e ?k); (case c => assumption); (case n => assumption); (case z => exact (Nat.le_of_ble_eq_true rfl)); (case e => (simp (config := { decide := true }) only [putF, if_true, if_false]; rfl)))))
local macro_rules | `(tactic| walk_at "z") => `(tactic| (first | exact Nat.zero_le _ | exact small_line (by simp) | decide))

/-- 1 + taken(row, m) -/
abbrev t_tk (K : PySem.W.Frag) (r : Nat) (m : TE) : TE := tCall (spTaken K) [] E0 (tCons (tVar r) (tCons m tNil))
abbrev t_pick (K : PySem.W.Frag) (r : Nat) (a b : TE) : TE := tOp (rIx K) (tLst (tCons a (tCons b tNil))) (t_tk K r (tC (.int 2)))
section
variable {K : PySem.W.Frag} {σ : L2.St} {H : Hp} {Q : VK} {L F : List SA} {p : Addr} {i n a b : Int} {r j : Nat}
/-- taken(row, [a, b][taken(row, 2)]) -/
theorem w_pick [hs : HS H L] [o : Own L p (rowA K p) F] (hv : σ[r]? = some (some (.ref p))) (k : ∀ z H', z = a ∨ z = b → HS H' (rowA K p :: F) → Q (.int z) H') : t_pick K r (tC (.int a)) (tC (.int b)) σ H Q := by
  have v : SlV σ r (.ref p) := ⟨hv⟩
  have hs1 : HS H (rowA K p :: F) := hs.pk o.pk
  walk_at "g"
  refine s_lstN (by walk_at "z") fun q H' hs => ?_
  walk_at "g"
  refine c_taken (by decide) (by decide) fun x H' r0 r1 hs => ?_
  obtain ⟨z, hz, hz2⟩ := pick2 (a := a) (b := b) r0 r1
  refine s_ixL hz ?_
  exact k z _ hz2 hs.re
theorem w_takePick [hs : HS H L] [o : Own L p (rowA K p) F] (hv : σ[r]? = some (some (.ref p))) (ha : 0 < a ∧ a < 2 ^ 64) (hb : 0 < b ∧ b < 2 ^ 64) (k : ∀ z H', 0 ≤ z → z < max a b → HS H' (rowA K p :: F) → Q (.int z) H') : t_tk K r (t_pick K r (tC (.int a)) (tC (.int b))) σ H Q := by
  have v : SlV σ r (.ref p) := ⟨hv⟩
  have hs1 : HS H (rowA K p :: F) := hs.pk o.pk
  refine s_call ?_
  refine s_cons ?_
  refine s_varV ?_
  refine s_cons ?_
  refine w_pick hv fun z H' hz hs => ?_
  walk_at "g"
  have hz3 : 0 < z ∧ z < 2 ^ 64 ∧ z ≤ max a b := by rcases hz with rfl | rfl <;> omega
  refine c_taken hz3.1 hz3.2.1 fun x H' x0 x1 hs => ?_
  exact k _ _ x0 (by omega) hs
/-- [1 + taken(row, [a, b][taken(row, 2)]) for sign in range(n)] -/
theorem w_counts [hs : HS H L] [o : Own L p (rowA K p) F] {vs : List Nat} (n1 : 1 ≤ n) (n8 : n ≤ 8) (hw : ∀ x, wipe ((wipe σ vs).set j (some x)) vs = wipe σ vs) (hv : ∀ x, ((wipe σ vs).set j (some x))[r]? = some (some (.ref p)))
    (ha : 0 < a ∧ a ≤ 4000) (hb : 0 < b ∧ b ≤ 4000) (k : ∀ D H' cs, cs.length = n.toNat → Good cs → (∀ c ∈ cs, c ≤ 4000) → HS H' (pt D (.lst (iv cs)) :: rowA K p :: F) → Q (.ref D) H') :
    lcK (gName j) tYes (tOp (rAdd K) (tC (.int 1)) (t_tk K r (t_pick K r (tC (.int a)) (tC (.int b))))) vs σ Q (Itr 0 n.toNat) H := by
  have hs1 : HS H (rowA K p :: F) := hs.pk o.pk
  refine c_range (fun D i H => ∃ cs : List Int, cs.length = i ∧ (∀ c ∈ cs, 1 ≤ c ∧ c ≤ 4000) ∧ HS H (pt D (.lst (iv cs)) :: rowA K p :: F)) (fun D H' h => ⟨[], rfl, by simp, h⟩) ?_ ?_
  · rintro D i H hi ⟨cs, hl, hc, hs⟩
    refine ⟨hw _, ?_⟩
    refine s_yes (i_t ?_)
    refine s_op (s_c ?_)
    refine w_takePick (hv _) (by omega) (by omega) fun z H' z0 z1 hs => ?_
    refine s_add ?_
    have hs := (hs.re : HS H' (pt D (.lst (iv cs)) :: rowA K p :: F))
    refine s_acc (small_lt (by rw [iv_len]; omega)) fun H' hs => ?_
    refine ⟨cs ++ [1 + z], by simp [hl], ?_, by rw [iv_app]; exact hs⟩
    intro c hc'
    rcases List.mem_append.mp hc' with q | q
    · exact hc c q
    · have := List.mem_singleton.mp q
      omega
  · rintro D H ⟨cs, hl, hc, hs⟩
    exact k D H cs hl ⟨by omega, by omega, fun c q => (hc c q).1⟩ (fun c q => (hc c q).2) hs
end
end G

namespace G
open PySem L2
theorem call_sortedIK {X : Cx} {K : PySem.W.Frag} (h : X.K = K) : CallR X (.builtin "sorted") (rSortedI K) := h ▸ cr_sortedI
def chK4 (r'' : R2) (w : V) (td : TE) (σ : L2.St) (Q : VK) (z2 : V) (H5 : Hp) : Prop := ∃ k, z2 = .bl k ∧ (if k = true then td σ H5 fun w2 H6 => r'' w w2 H6 Q else Q (.bl false) H5)
def chK3 (r' r'' : R2) (y : V) (tc td : TE) (σ : L2.St) (Q : VK) (z : V) (H3 : Hp) : Prop := ∃ k, z = .bl k ∧ (if k = true then tc σ H3 fun w H4 => r' y w H4 fun z2 H5 => chK4 r'' w td σ Q z2 H5 else Q (.bl false) H3)
def tChain3 (r r' r'' : R2) (ta tb tc td : TE) : TE := fun σ H Q => ta σ H fun x H1 => tb σ H1 fun y H2 => r x y H2 fun z H3 => chK3 r' r'' y tc td σ Q z H3
section
open PySem PySem.Spec PyProof.Rows
variable {X : Cx} {a b c d : Expr} {pos : Pos} {ta tb tc td : TE}
theorem pt_chain3 {op op' op'' : CmpOp} {r r' r'' : R2} (ho : OpR X (compareOp op) r) (ho' : OpR X (compareOp op') r') (ho'' : OpR X (compareOp op'') r'') (ha : PE X a ta) (hb : PE X b tb) (hc : PE X c tc) (hd : PE X d td)
    (hm : lastMarks [op, op', op''] [b, c, d] = false := by with_unfolding_all rfl) : PT X (.Compare a [op, op', op''] [b, c, d] pos) (tTest (tChain3 r r' r'' ta tb tc td)) := by
  refine ⟨fun pins s σ H Q I h => ?_⟩
  refine isTrue_chain (thn (ha.run pins s σ H _ I h) fun v s1 ⟨x, H1, I1, r1, q1⟩ => test_link (thn (hb.run pins s1 σ H1 _ I1 q1) fun u s2 ⟨y, H2, I2, r2, q2⟩ =>
    thn (ho pins s2 σ H2 x y v u _ I2 r1 r2 q2) fun d s3 ⟨z, H3, I3, r3, k, e, q3⟩ => ?_)) hm
  subst e
  cases r3
  refine wpAny_truthy_bool ?_
  cases k with
  | false =>
    obtain ⟨k', e', q'⟩ := q3
    cases e'
    exact ite_ff ⟨H3, I3, q'⟩
  | true =>
    refine ite_tt (test_link (thn (hc.run pins s3 σ H3 _ I3 q3) fun w' s4 ⟨z', H4, I4, r4, q4⟩ => thn (ho' pins s4 σ H4 y z' u w' _ I4 r2 r4 q4) fun d2 s5 ⟨z2, H5, I5, r5, k2, e2, q5⟩ => ?_))
    subst e2
    cases r5
    refine wpAny_truthy_bool ?_
    cases k2 with
    | false =>
      obtain ⟨k', e', q'⟩ := q5
      cases e'
      exact ite_ff ⟨H5, I5, q'⟩
    | true =>
      refine ite_tt (test_last (thn (hd.run pins s5 σ H5 _ I5 q5) fun w2 s6 ⟨z6, H6, I6, r6, q6⟩ => thn (ho'' pins s6 σ H6 z' z6 w' w2 _ I6 r4 r6 q6) fun d3 s7 ⟨z7, H7, I7, r7, k7, e7, q7⟩ => ?_))
      subst e7
      cases r7
      exact wpAny_truthy_bool ⟨H7, I7, q7⟩
end
section
variable {σ : L2.St} {H : Hp} {Q : VK} {y w : V} {ta tb tc td : TE}
theorem s_chain3 {r r' r'' : R2} (h : ta σ H fun x H1 => tb σ H1 fun y H2 => r x y H2 fun z H3 => chK3 r' r'' y tc td σ Q z H3) : tChain3 r r' r'' ta tb tc td σ H Q := h
theorem s_chK3 {r' r'' : R2} {b : Bool} (h : if b = true then tc σ H fun w H4 => r' y w H4 fun z2 H5 => chK4 r'' w td σ Q z2 H5 else Q (.bl false) H) : chK3 r' r'' y tc td σ Q (.bl b) H := ⟨b, rfl, h⟩
theorem s_chK4 {r'' : R2} {b : Bool} (h : if b = true then td σ H fun w2 H6 => r'' w w2 H6 Q else Q (.bl false) H) : chK4 r'' w td σ Q (.bl b) H := ⟨b, rfl, h⟩
end
end G

namespace G
open PySem L2
def spStands (K : PySem.W.Frag) (C : Addr) : Sp := fun vs H Q _ => ∃ p s o cs L, vs = [.ref p, .ref s, .ref o] ∧ HS H (rowA K p :: shR C s cs :: pt o (.lst (iv cs)) :: L) ∧ Good cs ∧ cs.sum < 2 ^ 60 ∧ ∀ H', HS H' (rowA K p :: shR C s cs :: pt o (.lst (iv cs)) :: L) → Q (.bl true) H'
theorem c_stands {K : PySem.W.Frag} {C : Addr} {H : Hp} {Q : VK} {E : XK} {L F1 F2 F3 : List SA} {p s o : Addr} {cs : List Int} [hs : HS H L] [o1 : Own L p (rowA K p) F1] [o2 : Own F1 s (shR C s cs) F2] [o3 : Own F2 o (pt o (.lst (iv cs))) F3] (g : Good cs) (hz : cs.sum < 2 ^ 60)
    (k : ∀ H', HS H' (rowA K p :: shR C s cs :: pt o (.lst (iv cs)) :: F3) → Q (.bl true) H') : spStands K C [.ref p, .ref s, .ref o] H Q E := ⟨p, s, o, cs, F3, rfl, hs.pk3 o1.pk o2.pk o3.pk, g, hz, k⟩
/-- all counts no greater than B -/
def Upto (B : Int) (cs : List Int) : Prop := ∀ c ∈ cs, c ≤ B
theorem upto_sum {B : Int} (h0 : 0 ≤ B) {cs : List Int} (h : Upto B cs) : cs.sum ≤ B * cs.length := by
  induction cs with
  | nil => simp
  | cons c r ih =>
    have := ih fun x hx => h x (List.mem_cons_of_mem _ hx)
    have := h c List.mem_cons_self
    simp only [List.sum_cons, List.length_cons]
    push_cast
    rw [Int.mul_add]
    omega
theorem good_set {cs : List Int} (g : Good cs) (s : Nat) {x : Int} (hx : 1 ≤ x) : Good (cs.set s x) := ⟨by rw [List.length_set]; exact g.1, by rw [List.length_set]; exact g.2.1, fun c hc => by
  rcases List.mem_or_eq_of_mem_set hc with q | q
  · exact g.2.2 c q
  · omega⟩
theorem upto_set {B : Int} {cs : List Int} (g : Upto B cs) (s : Nat) {x : Int} (hx : x ≤ B) : Upto B (cs.set s x) := fun c hc => by
  rcases List.mem_or_eq_of_mem_set hc with q | q
  · exact g c q
  · omega
theorem good_halves {cs : List Int} (g : Good cs) : Good (halves cs) := ⟨by rw [halves, List.length_map]; exact g.1, by rw [halves, List.length_map]; exact g.2.1, fun c hc => by
  obtain ⟨x, hx, rfl⟩ := List.mem_map.mp hc
  have := g.2.2 x hx
  omega⟩
theorem upto_halves {B : Int} {cs : List Int} (hB : 1 ≤ B) (g : Upto B cs) : Upto B (halves cs) := fun c hc => by
  obtain ⟨x, hx, rfl⟩ := List.mem_map.mp hc
  have := g x hx
  omega
theorem Upto.mono {B B' : Int} (h : B ≤ B') {cs : List Int} (g : Upto B cs) : Upto B' cs := fun c hc => Int.le_trans (g c hc) h
/-- the sides under way -/
def Sides (C : Addr) (B : Int) (ts : List V) (F : List SA) : Prop := (ts = [] ∧ F = []) ∨
  (∃ t s o cs, ts = [.ref t] ∧ F = [tp t [.ref s, .ref o], shR C s cs, pt o (.lst (iv cs))] ∧ Good cs ∧ Upto B cs) ∨
  (∃ t s o cs t' s' o' cs', ts = [.ref t, .ref t'] ∧ F = [tp t' [.ref s', .ref o'], shR C s' cs', pt o' (.lst (iv cs')), tp t [.ref s, .ref o], shR C s cs, pt o (.lst (iv cs))] ∧ Good cs ∧ Upto B cs ∧ Good cs' ∧ Upto B cs')
theorem Sides.add {C : Addr} {B : Int} {ts : List V} {F : List SA} (h : Sides C B ts F) (hl : ts.length < 2) {t s o : Addr} {cs : List Int} (g : Good cs) (u : Upto B cs) : Sides C B (ts ++ [.ref t]) (tp t [.ref s, .ref o] :: shR C s cs :: pt o (.lst (iv cs)) :: F) := by
  rcases h with ⟨rfl, rfl⟩ | ⟨t0, s0, o0, cs0, rfl, rfl, g0, u0⟩ | ⟨t0, s0, o0, cs0, t1, s1, o1, cs1, rfl, _⟩
  · exact .inr (.inl ⟨t, s, o, cs, rfl, rfl, g, u⟩)
  · exact .inr (.inr ⟨t0, s0, o0, cs0, t, s, o, cs, rfl, rfl, g0, u0, g, u⟩)
  · simp at hl
/-- the law's halving, so far -/
def halfTo (cs : List Int) (j : Nat) : List Int := (halves cs).take j ++ cs.drop j
theorem halfTo_len (cs : List Int) (j : Nat) (h : j ≤ cs.length) : (halfTo cs j).length = cs.length := by simp [halfTo, halves]; omega
theorem halfTo_at (cs : List Int) (j : Nat) (h : j < cs.length) : (halfTo cs j)[j]? = some (cs.getD j 0) := by
  unfold halfTo
  rw [List.getElem?_append_right (by simp [halves]; omega)]
  simp only [halves, List.length_take, List.length_map, List.getElem?_drop]
  rw [show j + (j - min j cs.length) = j by omega]
  exact get_getD h
theorem halfTo_set (cs : List Int) (j : Nat) (h : j < cs.length) : (halfTo cs j).set j (cs.getD j 0 - cs.getD j 0 / 2) = halfTo cs (j + 1) := by
  apply List.ext_getElem?
  intro i
  have hl := halfTo_len cs j (by omega)
  rw [List.getElem?_set]
  by_cases e : j = i
  · subst e
    rw [if_pos rfl, if_pos (by omega)]
    unfold halfTo
    rw [List.getElem?_append_left (by simp [halves]; omega), List.getElem?_take_of_lt (by omega)]
    simp only [halves, List.getElem?_map, get_getD h, Option.map_some]
    congr 1
    omega
  · rw [if_neg e]
    unfold halfTo
    by_cases q : i < j
    · rw [List.getElem?_append_left (by simp [halves]; omega), List.getElem?_append_left (by simp [halves]; omega), List.getElem?_take_of_lt q, List.getElem?_take_of_lt (by omega)]
    · rw [List.getElem?_append_right (by simp [halves]; omega), List.getElem?_append_right (by simp [halves]; omega)]
      simp only [halves, List.length_take, List.length_map, List.getElem?_drop]
      congr 1
      omega
/-- the sign of a border's number, of that below the next -/
theorem signF_begin {cs : List Int} (g : Good cs) {j : Nat} (h : j < cs.length) : signF cs (cs.take j).sum = j ∧ signF cs ((cs.take j).sum + cs.getD j 0 - 1) = j := by
  have e := take_getD cs j h
  have c1 := g.at_ h
  exact ⟨(signF_is cs _ j g.nn h (by omega) (by omega)).symm, (signF_is cs _ j g.nn h (by omega) (by omega)).symm⟩
theorem take_le {cs : List Int} (g : Good cs) {j : Nat} (h : j ≤ cs.length) : 0 ≤ (cs.take j).sum ∧ (cs.take j).sum ≤ cs.sum := by
  have h2 := take_mono cs g.nn (Nat.zero_le j)
  have h3 := take_mono cs g.nn h
  rw [List.take_length] at h3
  simp at h2
  exact ⟨h2, h3⟩
end G

namespace G
open PySem L2
section
variable {K : PySem.W.Frag} {σ : L2.St} {H : Hp} {Q : VK} {L : List SA} {p : Addr} {i j : Int} {cs : List Int}
def lrK (Q : VK) (a b : Int) (H1 : Hp) : Prop := RgOk a b ∧ ∀ q, H1 q = none → Q (.ref q) (upd H1 q (.lst (rgV a b)))
theorem s_lstRg {te : L2.St → Hp → (Int → Int → Hp → Prop) → Prop} (h : te σ H fun a b H1 => lrK Q a b H1) : tLstRg te σ H Q := h
def rg1K (Q : Int → Int → Hp → Prop) (x : V) (H1 : Hp) : Prop := ∃ n, x = .int n ∧ Q 0 n H1
theorem s_rg1 {ta : TE} {Q : Int → Int → Hp → Prop} (h : ta σ H fun x H1 => rg1K Q x H1) : tRg1 ta σ H Q := h
theorem s_rg1K {Q : Int → Int → Hp → Prop} (h : Q 0 i H) : rg1K Q (.int i) H := ⟨i, rfl, h⟩
def upTo (n : Nat) : List Int := (List.range n).map fun (k : Nat) => (k : Int)
theorem s_lrK [hs : HS H L] (h0 : 0 ≤ i) (h1 : i ≤ 16777216) (h : ∀ q H', HS H' (pt q (.lst (iv (upTo i.toNat))) :: L) → Q (.ref q) H') : lrK Q 0 i H := by
  refine ⟨RgOk.of_le (by omega) h1 (by omega) h0, ?_⟩
  have e : rgV 0 i = iv (upTo i.toNat) := by
    unfold rgV iv upTo
    simp
  rw [e]
  exact s_new h
theorem s_min2 (h : ∀ z, z ≤ i → z ≤ j → (z = i ∨ z = j) → Q (.int z) H) : rMinG K [.int i, .int j] H Q := by
  refine .inl ⟨i, j, rfl, ?_⟩
  split
  · exact h _ (by omega) (by omega) (by omega)
  · exact h _ (by omega) (by omega) (by omega)
theorem s_sortedI [hs : HS H L] [m : RdL K L p (iv cs)] (h : ∀ ns q H', ns.Perm cs → ns.Pairwise (· ≤ ·) → HS H' (pt q (.lst (iv ns)) :: L) → Q (.ref q) H') : rSortedI K [.ref p] H Q :=
  ⟨p, cs, rfl, m.sq hs, fun ns q hp hw hn => h ns q _ hp hw (hs.new hn id)⟩
end
theorem signF_mono : ∀ (cs : List Int) {x y : Int}, x ≤ y → signF cs x ≤ signF cs y
  | [], _, _, _ => Nat.le_refl _
  | c :: r, x, y, h => by
    simp only [signF]
    split
    · exact Nat.zero_le _
    · have := signF_mono r (show x - c ≤ y - c by omega)
      split
      · omega
      · omega
theorem pw_at : ∀ {ns : List Int}, ns.Pairwise (· ≤ ·) → ∀ {i k : Nat} {x y : Int}, i < k → ns[i]? = some x → ns[k]? = some y → x ≤ y
  | [], _, _, _, _, _, _, h, _ => by simp at h
  | a :: l, hp, i, k, x, y, hik, h1, h2 => by
    obtain ⟨q1, q2⟩ := List.pairwise_cons.mp hp
    cases k with
    | zero => omega
    | succ k =>
      rw [List.getElem?_cons_succ] at h2
      cases i with
      | zero => rw [List.getElem?_cons_zero] at h1; cases h1; exact q1 y (List.mem_of_getElem? h2)
      | succ i => rw [List.getElem?_cons_succ] at h1; exact pw_at q2 (by omega) h1 h2
theorem iv_app2 (as bs : List Int) : iv as ++ iv bs = iv (as ++ bs) := by simp [iv]
theorem mem_upTo {n : Nat} {x : Int} (h : x ∈ upTo n) : 0 ≤ x ∧ x < n := by
  obtain ⟨k, hk, rfl⟩ := List.mem_map.mp h
  have := List.mem_range.mp hk
  omega
end G

namespace G
open PySem L2
def top (i : Nat) : Stmt := PySem.Challenge.pw_stretchcode_k04_whole_each_number_in_one.main.body.getD i (.Pass ⟨0, 0, 0, 0⟩)
local macro_rules | `(tactic| walk_at "s") => `(tactic| (first
  | with_reducible refine s_varV ?_
  | with_reducible refine s_seq ?_
  | with_reducible refine s_wh ?_
  | with_reducible refine s_asg ?_
  | with_reducible refine s_nameV ?_
  | with_reducible refine s_op ?_
  | with_reducible refine s_c ?_
  | with_reducible refine s_cons ?_
  | with_reducible refine s_nil ?_
  | with_reducible refine s_test ?_
  | with_reducible refine s_tst ?_
  | with_reducible refine s_if ?_
  | with_reducible refine s_add ?_
  | with_reducible refine s_sub ?_
  | with_reducible refine s_eq ?_
  | with_reducible refine s_ne ?_
  | with_reducible refine s_lt ?_
  | with_reducible refine s_le ?_
  | with_reducible refine s_gt ?_
  | with_reducible refine s_ge ?_
  | with_reducible refine s_bitand ?_
  | with_reducible refine s_drop ?_
  | with_reducible refine s_ret ?_
  | with_reducible refine s_retN ?_
  | with_reducible refine s_next ?_
  | with_reducible refine s_cb ?_
  | with_reducible refine s_call ?_
  | with_reducible refine s_mth ?_
  | with_reducible refine s_fld ?_
  | with_reducible refine s_put ?_
  | with_reducible refine s_for ?_
  | with_reducible refine s_rng1 ?_
  | with_reducible refine s_not ?_
  | with_reducible refine s_and ?_
  | with_reducible refine s_or ?_
  | with_reducible refine s_tB ?_
  | with_reducible refine s_andV ?_
  | with_reducible refine s_orV ?_
  | with_reducible refine s_notV ?_
  | with_reducible refine s_andK ?_
  | with_reducible refine s_orK ?_
  | with_reducible refine s_notK ?_
  | with_reducible refine s_chain ?_
  | with_reducible refine s_chain3 ?_
  | with_reducible refine s_chK3 ?_
  | with_reducible refine s_chK4 ?_
  | with_reducible refine s_lstRg ?_
  | with_reducible refine s_rg1 ?_
  | with_reducible refine s_rg1K ?_
  | with_reducible refine s_chK ?_
  | with_reducible refine s_ife ?_
  | with_reducible refine s_par ?_
  | with_reducible refine s_parK ?_
  | with_reducible refine s_par3 ?_
  | with_reducible refine s_parK3 ?_
  | with_reducible refine s_lst ?_
  | with_reducible refine s_tup ?_
  | with_reducible refine s_lc ?_
  | with_reducible refine s_yes ?_
  | with_reducible refine s_make ?_
  | with_reducible refine s_gsub ?_
  | with_reducible refine s_sl ?_
  | with_reducible refine s_noPart ?_
  | with_reducible refine s_part ?_
  | with_reducible refine s_partK ?_
  | with_reducible refine s_bm ?_
  | with_reducible refine s_gnil ?_
  | with_reducible refine s_gcons ?_
  | with_reducible refine s_int ?_
  | with_reducible refine s_intB ?_
  | with_reducible refine i_t ?_
  | with_reducible refine i_f ?_
  | with_reducible refine i_nf ?_
  | with_reducible refine i_nt ?_
  | with_reducible refine s_eqS ?_
  | with_reducible refine s_neS ?_
  | with_reducible refine s_eqB ?_
  | with_reducible refine s_neB ?_))
local macro_rules | `(tactic| walk_at "f") => `(tactic| (((with_reducible refine' s_fldK ?c ?n ?l ?k); (case c => assumption); (case n => assumption); (case l => exact rfl))))
local macro_rules | `(tactic| walk_at "m") => `(tactic| (first | ((with_reducible refine' s_mthK ?l ?k); (case l => exact rfl)) | ((with_reducible refine' s_mthSh ?l ?k); (case l => exact ⟨rfl, rfl⟩))))
local macro_rules | `(tactic| walk_at "v") => `(tactic| (((with_reducible refine' s_var ?e ?k); (case e => exact rfl))))
local macro_rules | `(tactic| walk_at "n") => `(tactic| (with_reducible refine s_name ?_))
local macro_rules | `(tactic| walk_at "g") => `(tactic| (repeat (first | walk_at "s" | walk_at "f" | walk_at "m" | walk_at "v" | walk_at "n")))
local macro_rules | `(tactic| walk_at "p") => `(tactic| (((with_reducible refine' s_putK ?c ?n ?z ?e ?k); (case c => assumption); (case n => assumption); (case z => exact (Nat.le_of_ble_eq_true rfl)); (case e => (simp (config := { decide := true }) only [putF, if_true, if_false]; rfl)))))
local macro_rules | `(tactic| walk_at "z") => `(tactic| (first | exact Nat.zero_le _ | exact small_line (by simp) | decide))
section
variable {P : Program} {w : World} {K : PySem.W.Frag} {mg : Str → Option Value} {base : Heap} {v_MOST_NUMBER : Int} {C_StretchError C_BadSign C_BadShare C_Shares : Addr} {t_MOST_SIGNS t_MOST_COUNT : Tok}
abbrev s_is_within : Stmt := (top 7)
theorem sc_is_within : FnScope ["number", "low", "high"] ["number", "low", "high"] (defScope s_is_within) := ⟨rfl, rfl, rfl, by decide +kernel, rfl, by decide +kernel, by decide +kernel⟩
theorem ok_is_within {f : Addr} {fd : FuncData} (F : Fun K "is_within" "is_within" s_is_within f fd) (b_isinstance : mg "isinstance" = none) (b_bool : mg "bool" = none) (b_int : mg "int" = none) : FnOk P w K mg base CX0 (1) f fd ["number", "low", "high"] (spWithin) := by
  have nd := sc_is_within.nd
  refine F.ok sc_is_within (fun vs H Q E h => ?_) (fun cdv A outer s H vs Q E hr h => ?_)
  · repeat (first | (obtain ⟨rfl, _⟩ := h; rfl) | (obtain ⟨_, h⟩ := h))
  refine (fun q => ⟨_, (pss_one (ps_ret (pe_and (pe_callB (call_isiK' (K := K) rfl) rfl b_isinstance (by decide +kernel) (pa_cons (pv 0) (pa_cons (pe_bltn (v := .ty "int") rfl b_int (by decide +kernel) rfl) pa_nil))) (pe_and (pe_not (pe_callB (call_isiK' (K := K) rfl) rfl b_isinstance (by decide +kernel) (pa_cons (pv 0) (pa_cons (pe_bltn (v := .ty "bool") rfl b_bool (by decide +kernel) rfl) pa_nil)))) (pe_one (pe_chain op_leG op_leG (pv 1) (pv 0) (pv 2))))))), q⟩) ?_

  obtain ⟨x, lo, hi, rfl, h⟩ := h
  rw [show start ["number", "low", "high"] [x, .int lo, .int hi] = [some x, some (.int lo), some (.int hi)] from rfl]
  walk_at "g"
  rcases h with ⟨i, rfl, k⟩ | ⟨b, rfl, k⟩
  · refine s_isi (.ty _) (.base (.int i)) (kit_ty (a := "int") (b := "int") (r := true) (by decide +kernel)) ?_
    walk_at "g"
    refine s_isi (.ty _) (.base (.int i)) (kit_ty (a := "int") (b := "bool") (r := false) (by decide +kernel)) ?_
    walk_at "g"
    refine i_d (fun h1 => ?_) (fun h1 => ?_)
    · walk_at "g"
      rw [show decide (i ≤ hi) = decide (lo ≤ i ∧ i ≤ hi) from by simp [h1]]
      exact k
    · rw [show decide (lo ≤ i ∧ i ≤ hi) = false from decide_eq_false (fun q => h1 q.1)] at k
      exact k
  · refine s_isi (.ty _) (.base (.bl b)) (kit_ty (a := "bool") (b := "int") (r := true) (by decide +kernel)) ?_
    walk_at "g"
    refine s_isi (.ty _) (.base (.bl b)) (kit_ty (a := "bool") (b := "bool") (r := true) (by decide +kernel)) ?_
    walk_at "g"
    exact k
abbrev s_Shares_climb : Stmt := (inClass (top 9) 1)
theorem sc_Shares_climb : FnScope ["self", "sign", "by", "at"] ["self", "sign", "by"] (defScope s_Shares_climb) := ⟨rfl, rfl, rfl, by decide +kernel, rfl, by decide +kernel, by decide +kernel⟩
theorem ok_Shares_climb {f : Addr} {fd : FuncData} (F : Fun K "climb" "Shares.climb" s_Shares_climb f fd) (n_Shares_signs : NoAttr K C_Shares "signs") (cl_Shares : Cls K C_Shares) (n_Shares_tree : NoAttr K C_Shares "tree") : FnOk P w K mg base CX0 (1) f fd ["self", "sign", "by"] (spClimb C_Shares) := by
  have nd := sc_Shares_climb.nd
  refine F.ok sc_Shares_climb (fun vs H Q E h => ?_) (fun cdv A outer s H vs Q E hr h => ?_)
  · repeat (first | (obtain ⟨rfl, _⟩ := h; rfl) | (obtain ⟨_, h⟩ := h))
  refine (fun q => ⟨_, (pss_cons (ps_set (i := 3) nd rfl (Or.inl rfl) (pe_op (op_addK (K := K) rfl) (pv 1) pe_int)) (pss_one (ps_while PassesOwn.never (pt_cmpR op_leG (pv 3) (pe_fldK (K := K) rfl (pv 0) rfl) (nomark _)) (pss_cons (ps_asg (pe_op (op_addK (K := K) rfl) (pe_ix (ix_seqK (K := K) rfl) (pe_fldK (K := K) rfl (pv 0) rfl) (pv 3) (fun _ _ => rfl)) (pv 2)) (pg_sub (pe_fldK (K := K) rfl (pv 0) rfl) (pv 3) set_list)) (pss_one (ps_set (i := 3) nd rfl (Or.inl rfl) (pe_op (op_addK (K := K) rfl) (pv 3) (pe_op op_andG (pv 3) (pe_op op_subG pe_int (pv 3)))))))))), q⟩) ?_

  obtain ⟨p, s, b, cs, L, rfl, hs, h8, hl, k⟩ := h
  rw [show start ["self", "sign", "by", "at"] [.ref p, .int (s : Nat), .int b] = [some (.ref p), some (.int (s : Nat)), some (.int b), none] from rfl]
  obtain ⟨l, hs⟩ := hs.sh_in
  walk_at "g"
  refine f_while (fun m σ H => ∃ (i : Nat) (T : List Int), σ = [some (.ref p), some (.int (s : Nat)), some (.int b), some (.int (i : Nat))] ∧ 1 ≤ i ∧ 9 ≤ i + m ∧ T.length = cs.length + 1 ∧ climbF cs.length b m i T = treeOf (cs.set s (cs.getD s 0 + b))
    ∧ HS H (pt l (.lst (iv T)) :: ob p C_Shares [("signs", .int cs.length), ("tree", .ref l)] :: L)) 8 ⟨s + 1, treeOf cs, rfl, by omega, by omega, treeOf_len _, climb_is cs s b h8 hl, hs.pk (Pick.there Pick.here)⟩ ?_
  rintro m σ H ⟨i, T, rfl, h1, h9, hT, e, hs⟩
  walk_at "g"
  refine i_d (fun hi => ?_) (fun hi => ?_)
  · have hi' : i ≤ cs.length := by omega
    have hg : T[i]? = some (T.getD i 0) := by rw [List.getD_eq_getElem?_getD, List.getElem?_eq_getElem (by omega)]; rfl
    walk_at "g"
    refine s_ixL (at_iv hg) ?_
    walk_at "g"
    refine s_setL (ixN_nat (by rw [iv_len]; omega)) fun H' hs => ?_
    walk_at "g"
    rw [and_neg i h1 (by omega)]
    cases m with
    | zero => omega
    | succ m =>
      refine ⟨m, by omega, i + lb i, T.set i (T.getD i 0 + b), rfl, by omega, ?_, by simpa using hT, ?_, by rw [iv_set] at hs; exact hs⟩
      · have := lb_pos i; omega
      · rw [climbF, if_pos hi'] at e; exact e
  · have hz : T = treeOf (cs.set s (cs.getD s 0 + b)) := by
      rw [← e]; cases m with
      | zero => rfl
      | succ m => rw [climbF, if_neg (by omega)]
    subst hz
    refine k _ (HS.sh_out (l := l) ?_)
    rw [List.length_set]
    exact hs.pk (.there .here)
abbrev s_Shares_need_sign : Stmt := (inClass (top 9) 2)
theorem sc_Shares_need_sign : FnScope ["self", "sign", "most"] ["self", "sign", "most"] (defScope s_Shares_need_sign) := ⟨rfl, rfl, rfl, by decide +kernel, rfl, by decide +kernel, by decide +kernel⟩
theorem ok_Shares_need_sign {f : Addr} {fd : FuncData} (F : Fun K "need_sign" "Shares.need_sign" s_Shares_need_sign f fd) (q_is_within : Cal P w K mg base CX0 1 "is_within" ["number", "low", "high"] (spWithin)) : FnOk P w K mg base CX0 (2) f fd ["self", "sign", "most"] (spNeedSign) := by
  have nd := sc_Shares_need_sign.nd
  refine F.ok sc_Shares_need_sign (fun vs H Q E h => ?_) (fun cdv A outer s H vs Q E hr h => ?_)
  · repeat (first | (obtain ⟨rfl, _⟩ := h; rfl) | (obtain ⟨_, h⟩ := h))
  refine (fun q => ⟨_, (pss_one (ps_if (pt_not (pt_val (pe_cal q_is_within (hr.mono (by decide)) rfl pass0 (pa_cons (pv 1) (pa_cons pe_int (pa_cons (pv 2) pa_nil)))))) pss_never pss_nil)), q⟩) ?_

  obtain ⟨p, s, m, rfl, h0, h1, k⟩ := h
  rw [show start ["self", "sign", "most"] [.ref p, .int s, .int m] = [some (.ref p), some (.int s), some (.int m)] from rfl]
  walk_at "g"
  refine c_within ?_
  walk_at "g"
  refine i_nd (fun n => absurd ⟨h0, h1⟩ n) fun _ => ?_
  walk_at "g"
  exact k

abbrev s_need_counts : Stmt := (top 8)
theorem sc_need_counts : FnScope ["counts", "one"] ["counts"] (defScope s_need_counts) := ⟨rfl, rfl, rfl, by decide +kernel, rfl, by decide +kernel, by decide +kernel⟩
theorem ok_need_counts {f : Addr} {fd : FuncData} (F : Fun K "need_counts" "need_counts" s_need_counts f fd) (k_MOST_COUNT : mg "MOST_COUNT" = some (.int (4000) t_MOST_COUNT)) (b_len : mg "len" = none) (k_MOST_SIGNS : mg "MOST_SIGNS" = some (.int (8) t_MOST_SIGNS)) (q_is_within : Cal P w K mg base CX0 1 "is_within" ["number", "low", "high"] (spWithin)) : FnOk P w K mg base CX0 (2) f fd ["counts"] (spNeedCounts K) := by
  have nd := sc_need_counts.nd
  refine F.ok sc_need_counts (fun vs H Q E h => ?_) (fun cdv A outer s H vs Q E hr h => ?_)
  · repeat (first | (obtain ⟨rfl, _⟩ := h; rfl) | (obtain ⟨_, h⟩ := h))
  refine (fun q => ⟨_, (pss_one (ps_if (PW.pt (pw_or (pt_not (pt_chain op_leG op_leG pe_int (pe_callB (call_lenK (K := K) rfl) rfl b_len PySem.boot_len (pa_cons (pv 0) pa_nil)) (pe_glob (v := .int (8)) rfl k_MOST_SIGNS ⟨_, rfl⟩))) (pw_or1 (pt_cmpR (op_neK (K := K) rfl hr.units) (pe_lc (own := [("one", 1)]) rfl nd (pi_anyK (K := K) rfl (pv 0)) (blkOk_by (N := ["counts", "one"]) (sc := defScope s_need_counts) (by decide +kernel)) (fun _ _ _ _ _ => (pg_name (i := 1) nd rfl (Or.inl rfl))) (fun _ _ _ _ _ => (pts_one (pt_not (pt_val (pe_cal q_is_within (hr.mono (by decide)) rfl pass0 (pa_cons (pv 1) (pa_cons pe_int (pa_cons (pe_glob (v := .int (4000)) rfl k_MOST_COUNT ⟨_, rfl⟩) pa_nil)))))))) (fun _ _ _ _ _ => (pv 1))) (pe_lst pa_nil) (nomark _))))) pss_never pss_nil)), q⟩) ?_

  obtain ⟨p, t, cs, L, rfl, hs, hr1, hg, h4, k⟩ := h
  rw [show start ["counts", "one"] [.ref p] = [some (.ref p), none] from rfl]
  walk_at "g"
  refine s_lenB (hr1.sq hs) ?_
  walk_at "g"
  have h1 := hg.1
  have h8 := hg.2.1
  refine i_y (by rw [iv_len]; omega) ?_
  walk_at "g"
  rw [show decide (((iv cs).length : Int) ≤ 8) = true from decide_eq_true (by rw [iv_len]; omega)]
  walk_at "g"
  refine c_any (iv cs) (hr1.sq hs) (fun D i H => HS H (pt D (.lst []) :: L)) (fun D H' h => h) (fun D i H _ hs => hr1.sq hs.drop) ?_ ?_
  · intro D i x H hx hs
    obtain ⟨c, hc, rfl⟩ := iv_at hx
    have hm : c ∈ cs := List.mem_of_getElem? hc
    walk_at "g"
    refine ⟨rfl, ?_⟩
    walk_at "g"
    refine c_within ?_
    walk_at "g"
    rw [show decide (1 ≤ c ∧ c ≤ 4000) = true from decide_eq_true ⟨hg.2.2 c hm, h4 c hm⟩]
    walk_at "g"
    exact hs
  · intro D H hs
    walk_at "g"
    refine s_lstN (by walk_at "z") fun q H' hs => ?_
    refine .inr ⟨_, _, .lst (hs.pk (.there .here) |> fun z => .inl (.inl z.get)) .nil, .lst (.inl (.inl hs.get)) .nil, rfl, rfl, ?_⟩
    walk_at "g"
    exact k _ hs.drop.drop
abbrev s_Shares_ahead_of : Stmt := (inClass (top 9) 3)
theorem sc_Shares_ahead_of : FnScope ["self", "sign", "found", "at"] ["self", "sign"] (defScope s_Shares_ahead_of) := ⟨rfl, rfl, rfl, by decide +kernel, rfl, by decide +kernel, by decide +kernel⟩
theorem ok_Shares_ahead_of {f : Addr} {fd : FuncData} (F : Fun K "ahead_of" "Shares.ahead_of" s_Shares_ahead_of f fd) (cl_Shares : Cls K C_Shares) (n_Shares_signs : NoAttr K C_Shares "signs") (n_Shares_tree : NoAttr K C_Shares "tree") (q_Shares_need_sign : CalM P w K mg base CX0 2 C_Shares "need_sign" ["self", "sign", "most"] (spNeedSign)) : FnOk P w K mg base CX0 (3) f fd ["self", "sign"] (spAheadOf C_Shares) := by
  have nd := sc_Shares_ahead_of.nd
  refine F.ok sc_Shares_ahead_of (fun vs H Q E h => ?_) (fun cdv A outer s H vs Q E hr h => ?_)
  · repeat (first | (obtain ⟨rfl, _⟩ := h; rfl) | (obtain ⟨_, h⟩ := h))
  refine (fun q => ⟨_, (pss_cons (ps_expr (pe_calM (pv 0) cl_Shares q_Shares_need_sign (hr.mono (by decide)) pass0 (pa_cons (pv 1) (pa_cons (pe_fldK (K := K) rfl (pv 0) rfl) pa_nil)))) (pss_cons (ps_set (i := 2) nd rfl (Or.inl rfl) pe_int) (pss_cons (ps_set (i := 3) nd rfl (Or.inl rfl) (pv 1)) (pss_cons (ps_while PassesOwn.never (pt_cmpR op_gtG (pv 3) pe_int (nomark _)) (pss_cons (ps_set (i := 2) nd rfl (Or.inl rfl) (pe_op (op_addK (K := K) rfl) (pv 2) (pe_ix (ix_seqK (K := K) rfl) (pe_fldK (K := K) rfl (pv 0) rfl) (pv 3) (fun _ _ => rfl)))) (pss_one (ps_set (i := 3) nd rfl (Or.inl rfl) (pe_op op_andG (pv 3) (pe_op op_subG (pv 3) pe_int)))))) (pss_one (ps_ret (pv 2))))))), q⟩) ?_

  obtain ⟨p, s, cs, L, rfl, hs, h8, hl, k⟩ := h
  rw [show start ["self", "sign", "found", "at"] [.ref p, .int (s : Nat)] = [some (.ref p), some (.int (s : Nat)), none, none] from rfl]
  obtain ⟨l, hs⟩ := hs.sh_in
  walk_at "g"
  refine c_needSign (by omega) (by omega) ?_
  walk_at "g"
  refine f_while (fun m σ H => ∃ (i : Nat) (x : Int), σ = [some (.ref p), some (.int (s : Nat)), some (.int x), some (.int (i : Nat))] ∧ i ≤ m ∧ i ≤ cs.length ∧ x + (cs.take i).sum = (cs.take s).sum
    ∧ HS H (ob p C_Shares [("signs", .int cs.length), ("tree", .ref l)] :: pt l (.lst (iv (treeOf cs))) :: L)) s ⟨s, 0, rfl, by omega, hl, by omega, hs⟩ ?_
  rintro m σ H ⟨i, x, rfl, h1, h2, e, hs⟩
  walk_at "g"
  refine i_d (fun hi => ?_) (fun hi => ?_)
  · walk_at "g"
    refine s_ixL (at_iv (treeOf_at cs i h2)) ?_
    walk_at "g"
    rw [and_dec i (by omega) (by omega)]
    have := lb_pos i
    refine ⟨i - lb i, by omega, _, _, rfl, by omega, by omega, by omega, hs⟩
  · have : i = 0 := by omega
    subst this
    walk_at "g"
    rw [show x = (cs.take s).sum by simpa using e]
    exact k _ (HS.sh_out hs)
abbrev s_Shares_many_of : Stmt := (inClass (top 9) 4)
theorem sc_Shares_many_of : FnScope ["self", "sign"] ["self", "sign"] (defScope s_Shares_many_of) := ⟨rfl, rfl, rfl, by decide +kernel, rfl, by decide +kernel, by decide +kernel⟩
theorem ok_Shares_many_of {f : Addr} {fd : FuncData} (F : Fun K "many_of" "Shares.many_of" s_Shares_many_of f fd) (cl_Shares : Cls K C_Shares) (n_Shares_signs : NoAttr K C_Shares "signs") (q_Shares_ahead_of : CalM P w K mg base CX0 3 C_Shares "ahead_of" ["self", "sign"] (spAheadOf C_Shares)) (q_Shares_need_sign : CalM P w K mg base CX0 2 C_Shares "need_sign" ["self", "sign", "most"] (spNeedSign)) : FnOk P w K mg base CX0 (4) f fd ["self", "sign"] (spManyOf C_Shares) := by
  have nd := sc_Shares_many_of.nd
  refine F.ok sc_Shares_many_of (fun vs H Q E h => ?_) (fun cdv A outer s H vs Q E hr h => ?_)
  · repeat (first | (obtain ⟨rfl, _⟩ := h; rfl) | (obtain ⟨_, h⟩ := h))
  refine (fun q => ⟨_, (pss_cons (ps_expr (pe_calM (pv 0) cl_Shares q_Shares_need_sign (hr.mono (by decide)) pass0 (pa_cons (pv 1) (pa_cons (pe_op op_subG (pe_fldK (K := K) rfl (pv 0) rfl) pe_int) pa_nil)))) (pss_one (ps_ret (pe_op op_subG (pe_calM (pv 0) cl_Shares q_Shares_ahead_of (hr.mono (by decide)) pass0 (pa_cons (pe_op (op_addK (K := K) rfl) (pv 1) pe_int) pa_nil)) (pe_calM (pv 0) cl_Shares q_Shares_ahead_of (hr.mono (by decide)) pass0 (pa_cons (pv 1) pa_nil)))))), q⟩) ?_

  obtain ⟨p, s, cs, L, rfl, hs, h8, hl, k⟩ := h
  rw [show start ["self", "sign"] [.ref p, .int (s : Nat)] = [some (.ref p), some (.int (s : Nat))] from rfl]
  obtain ⟨l, hs⟩ := hs.sh_in
  walk_at "g"
  refine c_needSign (by omega) (by omega) ?_
  walk_at "g"
  refine ⟨p, s + 1, cs, L, by simp, HS.sh_out hs, h8, by omega, fun H' hs => ?_⟩
  obtain ⟨l, hs⟩ := hs.sh_in
  walk_at "g"
  refine ⟨p, s, cs, L, rfl, HS.sh_out hs, h8, by omega, fun H' hs => ?_⟩
  walk_at "g"
  rw [show (cs.take (s + 1)).sum - (cs.take s).sum = cs.getD s 0 by rw [take_getD cs s hl]; omega]
  exact k _ hs
abbrev s_Shares_whole : Stmt := (inClass (top 9) 5)
theorem sc_Shares_whole : FnScope ["self"] ["self"] (defScope s_Shares_whole) := ⟨rfl, rfl, rfl, by decide +kernel, rfl, by decide +kernel, by decide +kernel⟩
theorem ok_Shares_whole {f : Addr} {fd : FuncData} (F : Fun K "whole" "Shares.whole" s_Shares_whole f fd) (cl_Shares : Cls K C_Shares) (n_Shares_signs : NoAttr K C_Shares "signs") (q_Shares_ahead_of : CalM P w K mg base CX0 3 C_Shares "ahead_of" ["self", "sign"] (spAheadOf C_Shares)) : FnOk P w K mg base CX0 (4) f fd ["self"] (spWhole C_Shares) := by
  have nd := sc_Shares_whole.nd
  refine F.ok sc_Shares_whole (fun vs H Q E h => ?_) (fun cdv A outer s H vs Q E hr h => ?_)
  · repeat (first | (obtain ⟨rfl, _⟩ := h; rfl) | (obtain ⟨_, h⟩ := h))
  refine (fun q => ⟨_, (pss_one (ps_ret (pe_calM (pv 0) cl_Shares q_Shares_ahead_of (hr.mono (by decide)) pass0 (pa_cons (pe_fldK (K := K) rfl (pv 0) rfl) pa_nil)))), q⟩) ?_

  obtain ⟨p, cs, L, rfl, hs, h8, k⟩ := h
  rw [show start ["self"] [.ref p] = [some (.ref p)] from rfl]
  obtain ⟨l, hs⟩ := hs.sh_in
  walk_at "g"
  refine ⟨p, cs.length, cs, L, rfl, HS.sh_out hs, h8, Nat.le_refl _, fun H' hs => ?_⟩
  rw [List.take_length]
  exact k _ hs
abbrev s_Shares_sign_at : Stmt := (inClass (top 9) 6)
theorem sc_Shares_sign_at : FnScope ["self", "number", "at", "step"] ["self", "number"] (defScope s_Shares_sign_at) := ⟨rfl, rfl, rfl, by decide +kernel, rfl, by decide +kernel, by decide +kernel⟩
theorem ok_Shares_sign_at {f : Addr} {fd : FuncData} (F : Fun K "sign_at" "Shares.sign_at" s_Shares_sign_at f fd) (k_MOST_SIGNS : mg "MOST_SIGNS" = some (.int (8) t_MOST_SIGNS)) (cl_Shares : Cls K C_Shares) (n_Shares_signs : NoAttr K C_Shares "signs") (n_Shares_tree : NoAttr K C_Shares "tree") (q_is_within : Cal P w K mg base CX0 1 "is_within" ["number", "low", "high"] (spWithin)) (q_Shares_whole : CalM P w K mg base CX0 4 C_Shares "whole" ["self"] (spWhole C_Shares)) : FnOk P w K mg base CX0 (5) f fd ["self", "number"] (spSignAt C_Shares) := by
  have nd := sc_Shares_sign_at.nd
  refine F.ok sc_Shares_sign_at (fun vs H Q E h => ?_) (fun cdv A outer s H vs Q E hr h => ?_)
  · repeat (first | (obtain ⟨rfl, _⟩ := h; rfl) | (obtain ⟨_, h⟩ := h))
  refine (fun q => ⟨_, (pss_cons (ps_if (pt_not (pt_val (pe_cal q_is_within (hr.mono (by decide)) rfl pass0 (pa_cons (pv 1) (pa_cons pe_int (pa_cons (pe_op op_subG (pe_calM0 (pv 0) cl_Shares q_Shares_whole (hr.mono (by decide)) pass0) pe_int) pa_nil)))))) pss_never pss_nil) (pss_cons (ps_set (i := 2) nd rfl (Or.inl rfl) pe_int) (pss_cons (ps_set (i := 3) nd rfl (Or.inl rfl) (pe_glob (v := .int (8)) rfl k_MOST_SIGNS ⟨_, rfl⟩)) (pss_cons (ps_while PassesOwn.never (pt_cmpR op_gtG (pv 3) pe_int (nomark _)) (pss_cons (ps_if (PW.pt (pw_and (pt_cmpR op_leG (pe_op (op_addK (K := K) rfl) (pv 2) (pv 3)) (pe_fldK (K := K) rfl (pv 0) rfl) (nomark _)) (pw_and1 (pt_cmpR op_leG (pe_ix (ix_seqK (K := K) rfl) (pe_fldK (K := K) rfl (pv 0) rfl) (pe_op (op_addK (K := K) rfl) (pv 2) (pv 3)) (fun _ _ => rfl)) (pv 1) (nomark _))))) (pss_cons (ps_set (i := 2) nd rfl (Or.inl rfl) (pe_op (op_addK (K := K) rfl) (pv 2) (pv 3))) (pss_one (ps_set (i := 1) nd rfl (Or.inl rfl) (pe_op op_subG (pv 1) (pe_ix (ix_seqK (K := K) rfl) (pe_fldK (K := K) rfl (pv 0) rfl) (pv 2) (fun _ _ => rfl)))))) pss_nil) (pss_one (ps_set (i := 3) nd rfl (Or.inl rfl) (pe_op op_divG (pv 3) pe_int))))) (pss_one (ps_ret (pv 2))))))), q⟩) ?_

  obtain ⟨p, x, cs, L, rfl, hs, hg, h0, h1, k⟩ := h
  have h8 := hg.2.1
  rw [show start ["self", "number", "at", "step"] [.ref p, .int x] = [some (.ref p), some (.int x), none, none] from rfl]
  obtain ⟨l, hs⟩ := hs.sh_in
  walk_at "g"
  refine ⟨p, cs, L, rfl, HS.sh_out hs, h8, fun H' hs => ?_⟩
  obtain ⟨l, hs⟩ := hs.sh_in
  walk_at "g"
  refine c_within ?_
  walk_at "g"
  refine i_nd (fun n => absurd ⟨h0, by omega⟩ n) fun _ => ?_
  walk_at "g"
  refine f_while (fun m σ H => ∃ (i st : Nat) (y : Int), σ = [some (.ref p), some (.int y), some (.int (i : Nat)), some (.int (st : Nat))] ∧ (st = 8 ∨ st = 4 ∨ st = 2 ∨ st = 1 ∨ st = 0) ∧ st ≤ m ∧ i ≤ cs.length ∧ (st ≠ 0 → i % (2 * st) = 0) ∧ y + (cs.take i).sum = x ∧ 0 ≤ y ∧ x < (cs.take (i + max (2 * st) 1)).sum
    ∧ HS H (ob p C_Shares [("signs", .int cs.length), ("tree", .ref l)] :: pt l (.lst (iv (treeOf cs))) :: L)) 8 ⟨0, 8, x, rfl, .inl rfl, by omega, by omega, by omega, by simp, h0, by rw [List.take_of_length_le (by simp; omega)]; exact h1, hs⟩ ?_
  rintro m σ H ⟨i, st, y, rfl, h5, hm, hi, hd, e, hy, hx, hs⟩
  walk_at "g"
  refine i_d (fun hst => ?_) (fun hst => ?_)
  · have hst' : 0 < st := by omega
    walk_at "g"
    have next : ∀ (i' : Nat) (y' : Int), i' ≤ cs.length → i' % st = 0 → y' + (cs.take i').sum = x → 0 ≤ y' → x < (cs.take (i' + st)).sum → ∃ m', m' < m ∧ ∃ (i st' : Nat) (y : Int), [some (V.ref p), some (.int y'), some (.int (i' : Nat)), some (.int ((st : Int) / 2))] = [some (.ref p), some (.int y), some (.int (i : Nat)), some (.int (st' : Nat))] ∧ (st' = 8 ∨ st' = 4 ∨ st' = 2 ∨ st' = 1 ∨ st' = 0) ∧ st' ≤ m' ∧ i ≤ cs.length ∧ (st' ≠ 0 → i % (2 * st') = 0) ∧ y + (cs.take i).sum = x ∧ 0 ≤ y ∧ x < (cs.take (i + max (2 * st') 1)).sum := by
      intro i' y' a1 a2 a3 a4 a5
      refine ⟨st / 2, by omega, i', st / 2, y', by simp, by omega, Nat.le_refl _, a1, fun _ => ?_, a3, a4, ?_⟩
      · rcases h5 with rfl | rfl | rfl | rfl | rfl <;> simp_all
      · have : max (2 * (st / 2)) 1 = st := by rcases h5 with rfl | rfl | rfl | rfl | rfl <;> first | rfl | omega
        rw [this]; exact a5
    have lbe : lb (i + st) = st := by
      have := hd (by omega)
      unfold lb
      rcases h5 with rfl | rfl | rfl | rfl | rfl <;> (split <;> (try split) <;> (try split) <;> omega)
    have imod : i % st = 0 := by
      have := hd (by omega)
      rcases h5 with rfl | rfl | rfl | rfl | rfl <;> omega
    have imod' : (i + st) % st = 0 := by rcases h5 with rfl | rfl | rfl | rfl | rfl <;> omega
    have stay : (∀ H', HS H' (ob p C_Shares [("signs", .int cs.length), ("tree", .ref l)] :: pt l (.lst (iv (treeOf cs))) :: L) → True) := fun _ _ => trivial
    refine i_d (fun hn => ?_) (fun hn => ?_)
    · have hn' : i + st ≤ cs.length := by omega
      have ht := treeOf_at cs (i + st) hn'
      rw [lbe, Nat.add_sub_cancel] at ht
      walk_at "g"
      refine s_ixL (at_of (j := i + st) (by omega) (by rw [iv, List.getElem?_map, ht]; rfl)) ?_
      walk_at "g"
      refine i_d (fun hc => ?_) (fun hc => ?_)
      · walk_at "g"
        refine s_ixL (at_of (j := i + st) (by omega) (by rw [iv, List.getElem?_map, ht]; rfl)) ?_
        walk_at "g"
        refine s_div (by exact ⟨by decide, by decide⟩) ?_
        walk_at "g"
        obtain ⟨m', hm', q⟩ := next (i + st) (y - ((cs.take (i + st)).sum - (cs.take i).sum)) hn' imod' (by omega) (by omega) (by
          rw [show i + st + st = i + max (2 * st) 1 by omega]; exact hx)
        obtain ⟨a, b, c, q1, q2⟩ := q
        refine ⟨m', hm', a, b, c, ?_, q2.1, q2.2.1, q2.2.2.1, q2.2.2.2.1, q2.2.2.2.2.1, q2.2.2.2.2.2.1, q2.2.2.2.2.2.2, hs⟩
        rw [← q1]; simp
      · walk_at "g"
        refine s_div (by exact ⟨by decide, by decide⟩) ?_
        walk_at "g"
        obtain ⟨m', hm', a, b, c, q1, q2⟩ := next i y hi imod e hy (by omega)
        exact ⟨m', hm', a, b, c, q1, q2.1, q2.2.1, q2.2.2.1, q2.2.2.2.1, q2.2.2.2.2.1, q2.2.2.2.2.2.1, q2.2.2.2.2.2.2, hs⟩
    · walk_at "g"
      refine s_div (by exact ⟨by decide, by decide⟩) ?_
      walk_at "g"
      obtain ⟨m', hm', a, b, c, q1, q2⟩ := next i y hi imod e hy (by rw [List.take_of_length_le (by omega)]; exact h1)
      exact ⟨m', hm', a, b, c, q1, q2.1, q2.2.1, q2.2.2.1, q2.2.2.2.1, q2.2.2.2.2.1, q2.2.2.2.2.2.1, q2.2.2.2.2.2.2, hs⟩
  · have : st = 0 := by omega
    subst this
    walk_at "g"
    have hlt : i < cs.length := by
      apply Nat.lt_of_not_le
      intro q
      have e1 : cs.take i = cs := List.take_of_length_le q
      rw [e1] at e
      omega
    rw [signF_is cs x i hg.nn hlt (by omega) (by simpa using hx)]
    exact k _ (HS.sh_out hs)

abbrev s_Shares_init : Stmt := (inClass (top 9) 0)
theorem sc_Shares_init : FnScope ["self", "counts", "sign"] ["self", "counts"] (defScope s_Shares_init) := ⟨rfl, rfl, rfl, by decide +kernel, rfl, by decide +kernel, by decide +kernel⟩
theorem ok_Shares_init {f : Addr} {fd : FuncData} (F : Fun K "__init__" "Shares.__init__" s_Shares_init f fd) (b_range : mg "range" = none) (b_len : mg "len" = none) (cl_Shares : Cls K C_Shares) (n_Shares_signs : NoAttr K C_Shares "signs") (n_Shares_tree : NoAttr K C_Shares "tree") (q_Shares_climb : CalM P w K mg base CX0 1 C_Shares "climb" ["self", "sign", "by"] (spClimb C_Shares)) (q_need_counts : Cal P w K mg base CX0 2 "need_counts" ["counts"] (spNeedCounts K)) : FnOk P w K mg base CX0 (3) f fd ["self", "counts"] (spSharesInit K C_Shares) := by
  have nd := sc_Shares_init.nd
  refine F.ok sc_Shares_init (fun vs H Q E h => ?_) (fun cdv A outer s H vs Q E hr h => ?_)
  · repeat (first | (obtain ⟨rfl, _⟩ := h; rfl) | (obtain ⟨_, h⟩ := h))
  refine (fun q => ⟨_, (pss_cons (ps_expr (pe_cal q_need_counts (hr.mono (by decide)) rfl pass0 (pa_cons (pv 1) pa_nil))) (pss_cons (ps_fldK (K := K) rfl (pv 0) (pe_callB (call_lenK (K := K) rfl) rfl b_len PySem.boot_len (pa_cons (pv 1) pa_nil)) rfl) (pss_cons (ps_fldK (K := K) rfl (pv 0) (pe_op op_mulG (pe_lst (pa_cons pe_int pa_nil)) (pe_op (op_addK (K := K) rfl) (pe_callB (call_lenK (K := K) rfl) rfl b_len PySem.boot_len (pa_cons (pv 1) pa_nil)) pe_int)) rfl) (pss_one (ps_for PassesOwn.never rfl (pi_range1 rfl b_range (pa_cons (pe_callB (call_lenK (K := K) rfl) rfl b_len PySem.boot_len (pa_cons (pv 1) pa_nil)) pa_nil)) (pg_name (i := 2) nd rfl (Or.inl rfl)) (pss_one (ps_expr (pe_calM (pv 0) cl_Shares q_Shares_climb (hr.mono (by decide)) pass0 (pa_cons (pv 2) (pa_cons (pe_ix (ix_seqK (K := K) rfl) (pv 1) (pv 2) (fun _ _ => rfl)) pa_nil)))))))))), q⟩) ?_

  obtain ⟨p, q, t, cs, L, rfl, hs, hr1, hg, h4, k⟩ := h
  have h8 := hg.2.1
  rw [show start ["self", "counts", "sign"] [.ref p, .ref q] = [some (.ref p), some (.ref q), none] from rfl]
  walk_at "g"
  refine ⟨q, t, cs, _, rfl, hs, hr1.there, hg, h4, fun H' hs => ?_⟩
  walk_at "g"
  refine s_lenB (hr1.there.sq hs) ?_
  walk_at "g"
  walk_at "p"
  case k =>
  intro H' hs
  walk_at "g"
  refine s_lstN (by decide) fun z H' hs => ?_
  walk_at "g"
  refine s_lenB (hr1.there.there.sq hs) ?_
  walk_at "g"
  have e1 : (((iv cs).length : Int) + 1).toNat = cs.length + 1 := by rw [iv_len]; omega
  refine s_rep (by rw [iv_len]; omega) (by rw [iv_len]; omega) (by rw [e1]; exact small_line (by simp; omega)) fun l H' hs => ?_
  walk_at "g"
  walk_at "p"
  case k =>
  intro H' hs
  walk_at "g"
  refine s_lenB (hr1.there.there.there.sq hs) ?_
  walk_at "g"
  refine s_rngK1 (by rw [iv_len]; omega) (by rw [iv_len]; omega) ?_
  have e2 : (((iv cs).length : Int)).toNat = cs.length := by rw [iv_len]; omega
  rw [e2]
  have e3 : (List.replicate (((iv cs).length : Int) + 1).toNat [V.int 0]).flatten = iv (treeOf (List.replicate cs.length 0)) := by
    rw [e1]
    have : ∀ n : Nat, n ≤ 8 → (List.replicate (n + 1) [V.int 0]).flatten = iv (treeOf (List.replicate n 0)) := by
      intro n hn
      have : n = 0 ∨ n = 1 ∨ n = 2 ∨ n = 3 ∨ n = 4 ∨ n = 5 ∨ n = 6 ∨ n = 7 ∨ n = 8 := by omega
      rcases this with rfl | rfl | rfl | rfl | rfl | rfl | rfl | rfl | rfl <;> decide +kernel
    exact this _ h8
  rw [e3, iv_len] at hs
  have hb := HS.sh_out (C := C_Shares) (p := p) (l := l) (cs := List.replicate cs.length 0) (L := L) (by rw [List.length_replicate]; exact hs.re)
  refine f_range (fun i σ H => ∃ v, σ = [some (.ref p), some (.ref q), v] ∧ HS H (shR C_Shares p (cs.take i ++ List.replicate (cs.length - i) 0) :: L)) ⟨_, rfl, by simpa using hb⟩ ?_ ?_
  · rintro i σ H hi ⟨v, rfl, hs⟩
    have hl : (cs.take i ++ List.replicate (cs.length - i) (0 : Int)).length = cs.length := by simp; omega
    have hc : cs[i]? = some (cs.getD i 0) := by rw [List.getD_eq_getElem?_getD, List.getElem?_eq_getElem hi]; rfl
    walk_at "g"
    obtain ⟨l, hs⟩ := hs.sh_in
    walk_at "g"
    refine s_ixB (hr1.there.there.sq hs) (at_iv hc) ?_
    walk_at "g"
    refine ⟨p, i, _, _, L, rfl, HS.sh_out hs, by rw [hl]; exact h8, by rw [hl]; exact hi, fun H' hs => ?_⟩
    walk_at "g"
    refine ⟨_, rfl, ?_⟩
    rw [fill_step rfl hi] at hs
    exact hs
  · rintro σ H ⟨v, rfl, hs⟩
    exact k _ (by simpa using hs)
abbrev s_Shares_grow : Stmt := (inClass (top 9) 7)
theorem sc_Shares_grow : FnScope ["self", "sign", "by"] ["self", "sign", "by"] (defScope s_Shares_grow) := ⟨rfl, rfl, rfl, by decide +kernel, rfl, by decide +kernel, by decide +kernel⟩
theorem ok_Shares_grow {f : Addr} {fd : FuncData} (F : Fun K "grow" "Shares.grow" s_Shares_grow f fd) (cl_Shares : Cls K C_Shares) (k_MOST_COUNT : mg "MOST_COUNT" = some (.int (4000) t_MOST_COUNT)) (n_Shares_signs : NoAttr K C_Shares "signs") (q_Shares_climb : CalM P w K mg base CX0 1 C_Shares "climb" ["self", "sign", "by"] (spClimb C_Shares)) (q_is_within : Cal P w K mg base CX0 1 "is_within" ["number", "low", "high"] (spWithin)) (q_Shares_need_sign : CalM P w K mg base CX0 2 C_Shares "need_sign" ["self", "sign", "most"] (spNeedSign)) : FnOk P w K mg base CX0 (3) f fd ["self", "sign", "by"] (spGrow C_Shares) := by
  have nd := sc_Shares_grow.nd
  refine F.ok sc_Shares_grow (fun vs H Q E h => ?_) (fun cdv A outer s H vs Q E hr h => ?_)
  · repeat (first | (obtain ⟨rfl, _⟩ := h; rfl) | (obtain ⟨_, h⟩ := h))
  refine (fun q => ⟨_, (pss_cons (ps_expr (pe_calM (pv 0) cl_Shares q_Shares_need_sign (hr.mono (by decide)) pass0 (pa_cons (pv 1) (pa_cons (pe_op op_subG (pe_fldK (K := K) rfl (pv 0) rfl) pe_int) pa_nil)))) (pss_cons (ps_if (pt_not (pt_val (pe_cal q_is_within (hr.mono (by decide)) rfl pass0 (pa_cons (pv 2) (pa_cons pe_int (pa_cons (pe_glob (v := .int (4000)) rfl k_MOST_COUNT ⟨_, rfl⟩) pa_nil)))))) pss_never pss_nil) (pss_one (ps_expr (pe_calM (pv 0) cl_Shares q_Shares_climb (hr.mono (by decide)) pass0 (pa_cons (pv 1) (pa_cons (pv 2) pa_nil))))))), q⟩) ?_

  obtain ⟨p, s, b, cs, L, rfl, hs, h8, hl, h0, h1, k⟩ := h
  rw [show start ["self", "sign", "by"] [.ref p, .int (s : Nat), .int b] = [some (.ref p), some (.int (s : Nat)), some (.int b)] from rfl]
  obtain ⟨l, hs⟩ := hs.sh_in
  walk_at "g"
  refine c_needSign (by omega) (by omega) ?_
  walk_at "g"
  refine c_within ?_
  walk_at "g"
  refine i_nd (fun n => absurd ⟨h0, h1⟩ n) fun _ => ?_
  walk_at "g"
  exact ⟨p, s, b, cs, L, rfl, HS.sh_out hs, h8, hl, k⟩
abbrev s_Shares_all_counts : Stmt := (inClass (top 9) 9)
theorem sc_Shares_all_counts : FnScope ["self", "sign"] ["self"] (defScope s_Shares_all_counts) := ⟨rfl, rfl, rfl, by decide +kernel, rfl, by decide +kernel, by decide +kernel⟩
theorem ok_Shares_all_counts {f : Addr} {fd : FuncData} (F : Fun K "all_counts" "Shares.all_counts" s_Shares_all_counts f fd) (b_range : mg "range" = none) (cl_Shares : Cls K C_Shares) (n_Shares_signs : NoAttr K C_Shares "signs") (q_Shares_many_of : CalM P w K mg base CX0 4 C_Shares "many_of" ["self", "sign"] (spManyOf C_Shares)) : FnOk P w K mg base CX0 (5) f fd ["self"] (spAllCounts C_Shares) := by
  have nd := sc_Shares_all_counts.nd
  refine F.ok sc_Shares_all_counts (fun vs H Q E h => ?_) (fun cdv A outer s H vs Q E hr h => ?_)
  · repeat (first | (obtain ⟨rfl, _⟩ := h; rfl) | (obtain ⟨_, h⟩ := h))
  refine (fun q => ⟨_, (pss_one (ps_ret (pe_lc (own := [("sign", 1)]) rfl nd (pi_range1 rfl b_range (pa_cons (pe_fldK (K := K) rfl (pv 0) rfl) pa_nil)) (blkOk_by (N := ["self", "sign"]) (sc := defScope s_Shares_all_counts) (by decide +kernel)) (fun _ _ _ _ _ => (pg_name (i := 1) nd rfl (Or.inl rfl))) (fun _ _ _ _ _ => pts_nil) (fun _ _ _ _ _ => (pe_calM (pv 0) cl_Shares q_Shares_many_of (hr.mono (by decide)) pass0 (pa_cons (pv 1) pa_nil)))))), q⟩) ?_

  obtain ⟨p, cs, L, rfl, hs, h8, k⟩ := h
  rw [show start ["self", "sign"] [.ref p] = [some (.ref p), none] from rfl]
  obtain ⟨l, hs⟩ := hs.sh_in
  walk_at "g"
  refine s_rngK1 (by omega) (by omega) ?_
  rw [show ((cs.length : Int)).toNat = cs.length from by omega]
  have hs := HS.sh_out hs
  refine c_range (fun D i H => HS H (pt D (.lst (iv (cs.take i))) :: shR C_Shares p cs :: L)) (fun D H' h => h) ?_ ?_
  · intro D i H hi hs
    walk_at "n"
    refine ⟨rfl, ?_⟩
    walk_at "g"
    obtain ⟨l, hs⟩ := (hs.pk (.there .here)).sh_in
    walk_at "g"
    have hs := HS.sh_out hs
    refine c_manyOf i rfl h8 hi fun H' hs => ?_
    refine s_acc (small_lt (by rw [iv_len, List.length_take]; omega)) fun H' hs => ?_
    rw [iv_snoc (get_getD hi)] at hs
    exact hs
  · intro D H hs
    rw [List.take_length] at hs
    exact k _ _ hs
abbrev s_Shares_halve : Stmt := (inClass (top 9) 8)
theorem sc_Shares_halve : FnScope ["self", "some", "one", "sign"] ["self"] (defScope s_Shares_halve) := ⟨rfl, rfl, rfl, by decide +kernel, rfl, by decide +kernel, by decide +kernel⟩
theorem ok_Shares_halve {f : Addr} {fd : FuncData} (F : Fun K "halve" "Shares.halve" s_Shares_halve f fd) (b_range : mg "range" = none) (cl_Shares : Cls K C_Shares) (n_Shares_tree : NoAttr K C_Shares "tree") (n_Shares_signs : NoAttr K C_Shares "signs") (q_Shares_climb : CalM P w K mg base CX0 1 C_Shares "climb" ["self", "sign", "by"] (spClimb C_Shares)) (q_Shares_all_counts : CalM P w K mg base CX0 5 C_Shares "all_counts" ["self"] (spAllCounts C_Shares)) : FnOk P w K mg base CX0 (6) f fd ["self"] (spHalve C_Shares) := by
  have nd := sc_Shares_halve.nd
  refine F.ok sc_Shares_halve (fun vs H Q E h => ?_) (fun cdv A outer s H vs Q E hr h => ?_)
  · repeat (first | (obtain ⟨rfl, _⟩ := h; rfl) | (obtain ⟨_, h⟩ := h))
  refine (fun q => ⟨_, (pss_cons (ps_setLc (i := 1) (own := [("one", 2)]) rfl nd rfl rfl (sw_true rfl rfl rfl (by decide +kernel)) (pi_anyK (K := K) rfl (pe_calM0 (pv 0) cl_Shares q_Shares_all_counts (hr.mono (by decide)) pass0)) (blkOk_by (N := ["self", "some", "one", "sign"]) (sc := defScope s_Shares_halve) (by decide +kernel)) (fun _ _ _ _ _ => (pg_name (i := 2) nd rfl (Or.inl rfl))) (fun _ _ _ _ _ => pts_nil) (fun _ _ _ _ _ => (pe_op op_divG (pe_op (op_addK (K := K) rfl) (pv 2) pe_int) pe_int))) (pss_cons (ps_fldK (K := K) rfl (pv 0) (pe_op op_mulG (pe_lst (pa_cons pe_int pa_nil)) (pe_op (op_addK (K := K) rfl) (pe_fldK (K := K) rfl (pv 0) rfl) pe_int)) rfl) (pss_one (ps_for PassesOwn.never rfl (pi_range1 rfl b_range (pa_cons (pe_fldK (K := K) rfl (pv 0) rfl) pa_nil)) (pg_name (i := 3) nd rfl (Or.inl rfl)) (pss_one (ps_expr (pe_calM (pv 0) cl_Shares q_Shares_climb (hr.mono (by decide)) pass0 (pa_cons (pv 3) (pa_cons (pe_ix (ix_seqK (K := K) rfl) (pv 1) (pv 3) (fun _ _ => rfl)) pa_nil))))))))), q⟩) ?_

  obtain ⟨p, cs, L, rfl, hs, h8, k⟩ := h
  rw [show start ["self", "some", "one", "sign"] [.ref p] = [some (.ref p), none, none, none] from rfl]
  walk_at "g"
  refine s_any ?_
  walk_at "g"
  obtain ⟨l, hs⟩ := hs.sh_in
  walk_at "g"
  have hs := HS.sh_out hs
  refine c_allCounts h8 fun q H' hs => ?_
  refine s_lsK ?_
  refine c_list (iv cs) (fun D i H => HS H (pt D (.lst (iv ((halves cs).take i))) :: pt q (.lst (iv cs)) :: shR C_Shares p cs :: L)) (fun D H' h => h) (fun D i H _ h => RdL.sq h) ?_ ?_
  · intro D i x H hx hs
    obtain ⟨c, hc, rfl⟩ := iv_at hx
    walk_at "n"
    refine ⟨rfl, ?_⟩
    walk_at "g"
    refine s_div (by exact ⟨by decide, by decide⟩) ?_
    have hi := (List.getElem?_eq_some_iff.mp hc).1
    refine s_acc (small_lt (by rw [iv_len, List.length_take, halves, List.length_map]; omega)) fun H' hs => ?_
    have e : iv ((halves cs).take i) ++ [V.int ((c + 1) / 2)] = iv ((halves cs).take (i + 1)) := by
      rw [List.take_add_one, halves, List.getElem?_map, hc]
      simp [iv]
    rw [e] at hs
    exact hs
  · intro D H hs
    walk_at "g"
    refine s_lstN (by walk_at "z") fun z H' hs => ?_
    walk_at "g"
    obtain ⟨l, hs⟩ := (hs.re : HS _ (shR C_Shares p cs :: pt z (.lst [.int 0]) :: pt D (.lst (iv (List.take (iv cs).length (halves cs)))) :: L)).sh_in
    walk_at "g"
    have e1 : ((cs.length : Int) + 1).toNat = cs.length + 1 := by omega
    refine s_rep (by omega) (by omega) (by rw [e1]; exact small_line (by simp; omega)) fun l2 H' hs => ?_
    walk_at "g"
    walk_at "p"
    case k =>
    intro H' hs
    walk_at "g"
    refine s_rngK1 (by omega) (by omega) ?_
    rw [show ((cs.length : Int)).toNat = cs.length from by omega]
    have e3 : (List.replicate ((cs.length : Int) + 1).toNat [V.int 0]).flatten = iv (treeOf (List.replicate cs.length 0)) := by
      rw [e1]
      have : ∀ n : Nat, n ≤ 8 → (List.replicate (n + 1) [V.int 0]).flatten = iv (treeOf (List.replicate n 0)) := by
        intro n hn
        have : n = 0 ∨ n = 1 ∨ n = 2 ∨ n = 3 ∨ n = 4 ∨ n = 5 ∨ n = 6 ∨ n = 7 ∨ n = 8 := by omega
        rcases this with rfl | rfl | rfl | rfl | rfl | rfl | rfl | rfl | rfl <;> decide +kernel
      exact this _ h8
    have ec : List.take (iv cs).length (halves cs) = halves cs := List.take_of_length_le (by rw [iv_len, halves, List.length_map]; exact Nat.le_refl _)
    have hh : (halves cs).length = cs.length := by rw [halves, List.length_map]
    rw [e3, ec] at hs
    have hb := HS.sh_out (C := C_Shares) (p := p) (l := l2) (cs := List.replicate cs.length 0) (L := pt D (.lst (iv (halves cs))) :: L) (by rw [List.length_replicate]; exact hs.re)
    refine f_range (fun i σ H => ∃ v w, σ = [some (.ref p), some (.ref D), v, w] ∧ HS H (shR C_Shares p ((halves cs).take i ++ List.replicate (cs.length - i) 0) :: pt D (.lst (iv (halves cs))) :: L)) ⟨_, _, rfl, by simpa using hb⟩ ?_ ?_
    · rintro i σ H hi ⟨v, w, rfl, hs⟩
      have hl : ((halves cs).take i ++ List.replicate (cs.length - i) (0 : Int)).length = cs.length := by simp; omega
      have hc : (halves cs)[i]? = some ((halves cs).getD i 0) := by rw [List.getD_eq_getElem?_getD, List.getElem?_eq_getElem (by omega)]; rfl
      walk_at "g"
      obtain ⟨l, hs⟩ := hs.sh_in
      walk_at "g"
      refine s_ixL (at_iv hc) ?_
      walk_at "g"
      refine ⟨p, i, _, _, _, rfl, HS.sh_out hs, by rw [hl]; exact h8, by rw [hl]; exact hi, fun H' hs => ?_⟩
      walk_at "g"
      refine ⟨_, _, rfl, ?_⟩
      rw [fill_step hh hi] at hs
      exact hs
    · rintro σ H ⟨v, w, rfl, hs⟩
      have e4 : (halves cs).take cs.length = halves cs := List.take_of_length_le (by omega)
      rw [e4, Nat.sub_self, List.replicate_zero, List.append_nil] at hs
      exact k _ hs.re

abbrev s_l_taken : Stmt := (top 11)
theorem sc_l_taken : FnScope ["_law_row", "_law_many", "_law_found", "_law_cell"] ["_law_row", "_law_many"] (defScope s_l_taken) := ⟨rfl, rfl, rfl, by decide +kernel, rfl, by decide +kernel, by decide +kernel⟩
theorem ok_l_taken {f : Addr} {fd : FuncData} (F : Fun K "_law_taken" "_law_taken" s_l_taken f fd) (b_len : mg "len" = none) : FnOk P w K mg base CX0 (1) f fd ["_law_row", "_law_many"] (spTaken K) := by
  have nd := sc_l_taken.nd
  refine F.ok sc_l_taken (fun vs H Q E h => ?_) (fun cdv A outer s H vs Q E hr h => ?_)
  · repeat (first | (obtain ⟨rfl, _⟩ := h; rfl) | (obtain ⟨_, h⟩ := h))
  refine (fun q => ⟨_, (pss_cons (ps_if (pt_cmpR op_gtG (pe_ix (ix_seqK (K := K) rfl) (pv 0) pe_int (fun _ _ => rfl)) pe_int (nomark _)) (pss_cons (ps_set (i := 2) nd rfl (Or.inl rfl) (pe_op op_modG (pe_ix (ix_seqK (K := K) rfl) (pv 0) pe_int (fun _ _ => rfl)) (pv 1))) (pss_cons (ps_asg (pe_op op_divG (pe_ix (ix_seqK (K := K) rfl) (pv 0) pe_int (fun _ _ => rfl)) (pv 1)) (pg_sub (pv 0) pe_int set_list)) (pss_one (ps_ret (pv 2))))) pss_nil) (pss_cons (ps_asg (pe_op (op_addK (K := K) rfl) (pe_ix (ix_seqK (K := K) rfl) (pv 0) pe_int (fun _ _ => rfl)) pe_int) (pg_sub (pv 0) pe_int set_list)) (pss_cons (ps_if (pt_cmpR op_gtG (pe_ix (ix_seqK (K := K) rfl) (pv 0) pe_int (fun _ _ => rfl)) (pe_callB (call_lenK (K := K) rfl) rfl b_len PySem.boot_len (pa_cons (pe_ix (ix_seqK (K := K) rfl) (pv 0) pe_int (fun _ _ => rfl)) pa_nil)) (nomark _)) (pss_cons (ps_asg (pe_op op_modG (pe_op (op_addK (K := K) rfl) (pe_op op_mulG (pe_ix (ix_seqK (K := K) rfl) (pv 0) pe_int (fun _ _ => rfl)) pe_int) pe_int) pe_int) (pg_sub (pv 0) pe_int set_list)) (pss_one (ps_ret (pe_op op_modG (pe_op op_divG (pe_ix (ix_seqK (K := K) rfl) (pv 0) pe_int (fun _ _ => rfl)) pe_int) (pv 1))))) pss_nil) (pss_cons (ps_set (i := 3) nd rfl (Or.inl rfl) (pe_ix (ix_seqK (K := K) rfl) (pe_ix (ix_seqK (K := K) rfl) (pv 0) pe_int (fun _ _ => rfl)) (pe_op op_subG (pe_ix (ix_seqK (K := K) rfl) (pv 0) pe_int (fun _ _ => rfl)) pe_int) (fun _ _ => rfl))) (pss_cons (ps_asg (pe_op op_modG (pe_op (op_addK (K := K) rfl) (pe_op (op_addK (K := K) rfl) (pe_op op_mulG (pe_ix (ix_seqK (K := K) rfl) (pv 0) pe_int (fun _ _ => rfl)) pe_int) (pv 3)) pe_int) pe_int) (pg_sub (pv 0) pe_int set_list)) (pss_cons (ps_if (pt_cmpR op_geG (pv 3) (pe_op op_powG pe_int pe_int) (nomark _)) (pss_one (ps_asg (pe_op op_divG (pv 3) (pv 1)) (pg_sub (pv 0) pe_int set_list))) pss_nil) (pss_one (ps_ret (pe_op op_modG (pv 3) (pv 1)))))))))), q⟩) ?_

  obtain ⟨p, n, L, rfl, hs, h0, h1, k⟩ := h
  rw [show start ["_law_row", "_law_many", "_law_found", "_law_cell"] [.ref p, .int n] = [some (.ref p), some (.int n), none, none] from rfl]
  obtain ⟨a, zs, i, m, c, hr1, hs⟩ := hs.row_in
  obtain ⟨hi, hm, hm'⟩ := hr1
  walk_at "g"
  refine s_ixL (v := .int c) rfl ?_
  walk_at "g"
  refine i_d (fun hc => ?_) (fun hc => ?_)
  · walk_at "g"
    refine s_ixL (v := .int c) rfl ?_
    walk_at "g"
    refine s_mod h0 ?_
    walk_at "g"
    refine s_ixL (v := .int c) rfl ?_
    walk_at "g"
    refine s_div (div64 h0 h1) ?_
    walk_at "g"
    refine s_setL (j := 3) rfl fun H' hs => ?_
    walk_at "g"
    exact k _ _ (Int.emod_nonneg _ (by omega)) (Int.emod_lt_of_pos _ h0) (HS.row_out ⟨hi, hm, hm'⟩ hs)
  · walk_at "g"
    refine s_ixL (v := .int i) rfl ?_
    walk_at "g"
    refine s_setL (j := 1) rfl fun H' hs => ?_
    walk_at "g"
    refine s_ixL (v := .int (i + 1)) rfl ?_
    walk_at "g"
    refine s_ixL (v := .ref a) rfl ?_
    walk_at "g"
    refine s_lenL ?_
    walk_at "g"
    refine i_d (fun hl => ?_) (fun hl => ?_)
    · walk_at "g"
      refine s_ixL (v := .int m) rfl ?_
      walk_at "g"
      refine s_mul (mulx64 (by omega) (by omega)) ?_
      walk_at "g"
      refine s_mod (by decide) ?_
      walk_at "g"
      refine s_setL (j := 2) rfl fun H' hs => ?_
      walk_at "g"
      refine s_ixL (v := .int ((m * 48271 + 11) % 2147483647)) rfl ?_
      walk_at "g"
      refine s_div (by exact ⟨by decide, by decide⟩) ?_
      walk_at "g"
      refine s_mod h0 ?_
      exact k _ _ (Int.emod_nonneg _ (by omega)) (Int.emod_lt_of_pos _ h0) (HS.row_out ⟨by omega, by omega, by omega⟩ hs)
    · have hlt : i.toNat < zs.length := by rw [iv_len] at hl; omega
      obtain ⟨z, hz⟩ : ∃ z, zs[i.toNat]? = some z := ⟨_, List.getElem?_eq_getElem hlt⟩
      walk_at "g"
      refine s_ixL (v := .ref a) rfl ?_
      walk_at "g"
      refine s_ixL (v := .int (i + 1)) rfl ?_
      walk_at "g"
      refine s_ixL (at_of (j := i.toNat) (v := .int z) (by omega) (by rw [iv, List.getElem?_map, hz]; rfl)) ?_
      walk_at "g"
      refine s_ixL (v := .int m) rfl ?_
      walk_at "g"
      refine s_mul (mulx64 (by omega) (by omega)) ?_
      walk_at "g"
      refine s_mod (by decide) ?_
      walk_at "g"
      refine s_setL (j := 2) rfl fun H' hs => ?_
      walk_at "g"
      refine s_pow (by exact ⟨by decide, by decide, by decide⟩) ?_
      walk_at "g"
      refine i_d (fun hb => ?_) (fun hb => ?_)
      · walk_at "g"
        refine s_div (div64 h0 h1) ?_
        walk_at "g"
        refine s_setL (j := 3) rfl fun H' hs => ?_
        walk_at "g"
        refine s_mod h0 ?_
        exact k _ _ (Int.emod_nonneg _ (by omega)) (Int.emod_lt_of_pos _ h0) (HS.row_out ⟨by omega, by omega, by omega⟩ hs)
      · walk_at "g"
        refine s_mod h0 ?_
        exact k _ _ (Int.emod_nonneg _ (by omega)) (Int.emod_lt_of_pos _ h0) (HS.row_out ⟨by omega, by omega, by omega⟩ hs)

abbrev s_law : Stmt := (top 12)
theorem sc_law : FnScope ["_law_script", "_law_row", "_law_turn", "_law_some", "_law_sign", "_law_shares", "_law_change", "_law_before", "_law_now", "_law_whole", "_law_numbers", "_law_k", "_law_last", "_law_number", "_law_begin"] ["_law_script"] (defScope s_law) := ⟨rfl, rfl, rfl, by decide +kernel, rfl, by decide +kernel, by decide +kernel⟩
theorem ok_law {f : Addr} {fd : FuncData} (F : Fun K "law" "law" s_law f fd) (b_range : mg "range" = none) (cl_Shares : Cls K C_Shares) (b_len : mg "len" = none) (b_sum : mg "sum" = none) (b_sorted : mg "sorted" = none) (b_list : mg "list" = none) (b_min : mg "min" = none) (q_Shares_ahead_of : CalM P w K mg base CX0 3 C_Shares "ahead_of" ["self", "sign"] (spAheadOf C_Shares)) (q_Shares_all_counts : CalM P w K mg base CX0 5 C_Shares "all_counts" ["self"] (spAllCounts C_Shares)) (q_Shares_many_of : CalM P w K mg base CX0 4 C_Shares "many_of" ["self", "sign"] (spManyOf C_Shares)) (q_Shares_sign_at : CalM P w K mg base CX0 5 C_Shares "sign_at" ["self", "number"] (spSignAt C_Shares)) (q_l_taken : Cal P w K mg base CX0 1 "_law_taken" ["_law_row", "_law_many"] (spTaken K)) (q_Shares_whole : CalM P w K mg base CX0 4 C_Shares "whole" ["self"] (spWhole C_Shares)) (q_Shares_halve : CalM P w K mg base CX0 6 C_Shares "halve" ["self"] (spHalve C_Shares)) (q_Shares_grow : CalM P w K mg base CX0 3 C_Shares "grow" ["self", "sign", "by"] (spGrow C_Shares)) (q_Shares_init : CalC P w K mg base CX0 3 C_Shares "Shares" ["self", "counts"] (spSharesInit K C_Shares)) : FnOk P w K mg base CX0 (9) f fd ["_law_script"] (spLaw K) := by
  have nd := sc_law.nd
  refine F.ok sc_law (fun vs H Q E h => ?_) (fun cdv A outer s H vs Q E hr h => ?_)
  · repeat (first | (obtain ⟨rfl, _⟩ := h; rfl) | (obtain ⟨_, h⟩ := h))
  refine (fun q => ⟨_, (pss_cons (ps_set (i := 1) nd rfl (Or.inr rfl) (pe_lst (pa_cons (pv 0) (pa_cons pe_int (pa_cons pe_int (pa_cons pe_int pa_nil)))))) (pss_cons (ps_for PassesOwn.never rfl (pi_range1 rfl b_range (pa_cons pe_int pa_nil)) (pg_name (i := 2) nd rfl (Or.inl rfl)) (pss_cons (ps_setLc (i := 3) (own := [("_law_sign", 4)]) rfl nd rfl rfl (sw_true rfl rfl rfl (by decide +kernel)) (pi_range1 rfl b_range (pa_cons (pe_op (op_addK (K := K) rfl) pe_int (pe_cal q_l_taken (hr.mono (by decide)) rfl pass0 (pa_cons (pv 1) (pa_cons pe_int pa_nil)))) pa_nil)) (blkOk_by (N := ["_law_script", "_law_row", "_law_turn", "_law_some", "_law_sign", "_law_shares", "_law_change", "_law_before", "_law_now", "_law_whole", "_law_numbers", "_law_k", "_law_last", "_law_number", "_law_begin"]) (sc := defScope s_law) (by decide +kernel)) (fun _ _ _ _ _ => (pg_name (i := 4) nd rfl (Or.inl rfl))) (fun _ _ _ _ _ => pts_nil) (fun _ _ _ _ _ => (pe_op (op_addK (K := K) rfl) pe_int (pe_cal q_l_taken (hr.mono (by decide)) rfl pass0 (pa_cons (pv 1) (pa_cons (pe_ix (ix_seqK (K := K) rfl) (pe_lst (pa_cons pe_int (pa_cons pe_int pa_nil))) (pe_cal q_l_taken (hr.mono (by decide)) rfl pass0 (pa_cons (pv 1) (pa_cons pe_int pa_nil))) (fun _ _ => rfl)) pa_nil)))))) (pss_cons (ps_set (i := 5) nd rfl (Or.inl rfl) (pe_calC q_Shares_init (hr.mono (by decide)) rfl pass0 (pa_cons (pv 3) pa_nil))) (pss_cons (ps_for PassesOwn.never rfl (pi_range1 rfl b_range (pa_cons (pe_cal q_l_taken (hr.mono (by decide)) rfl pass0 (pa_cons (pv 1) (pa_cons pe_int pa_nil))) pa_nil)) (pg_name (i := 6) nd rfl (Or.inl rfl)) (pss_cons (ps_set (i := 7) nd rfl (Or.inl rfl) (pe_calM0 (pv 5) cl_Shares q_Shares_all_counts (hr.mono (by decide)) pass0)) (pss_one (ps_if (pt_cmpR (op_eqK (K := K) rfl hr.units) (pe_cal q_l_taken (hr.mono (by decide)) rfl pass0 (pa_cons (pv 1) (pa_cons pe_int pa_nil))) pe_int (nomark _)) (pss_cons (ps_expr (pe_calM0 (pv 5) cl_Shares q_Shares_halve (hr.mono (by decide)) pass0)) (pss_cons (ps_set (i := 8) nd rfl (Or.inl rfl) (pe_calM0 (pv 5) cl_Shares q_Shares_all_counts (hr.mono (by decide)) pass0)) (pss_one (ps_for PassesOwn.never rfl (pi_range1 rfl b_range (pa_cons (pe_callB (call_lenK (K := K) rfl) rfl b_len PySem.boot_len (pa_cons (pv 3) pa_nil)) pa_nil)) (pg_name (i := 4) nd rfl (Or.inl rfl)) (pss_one (ps_if (PW.pt (pw_or (pt_not (pt_chain3 op_ltG op_leG op_leG pe_int (pe_ix (ix_seqK (K := K) rfl) (pv 8) (pv 4) (fun _ _ => rfl)) (pe_ix (ix_seqK (K := K) rfl) (pv 7) (pv 4) (fun _ _ => rfl)) (pe_op op_mulG pe_int (pe_ix (ix_seqK (K := K) rfl) (pv 8) (pv 4) (fun _ _ => rfl))))) (pw_or1 (pt_cmpR op_gtG (pe_op op_mulG pe_int (pe_ix (ix_seqK (K := K) rfl) (pv 8) (pv 4) (fun _ _ => rfl))) (pe_op (op_addK (K := K) rfl) (pe_ix (ix_seqK (K := K) rfl) (pv 7) (pv 4) (fun _ _ => rfl)) pe_int) (nomark _))))) (pss_one (ps_ret pe_bl)) pss_nil)))))) (pss_one (ps_expr (pe_calM (pv 5) cl_Shares q_Shares_grow (hr.mono (by decide)) pass0 (pa_cons (pe_cal q_l_taken (hr.mono (by decide)) rfl pass0 (pa_cons (pv 1) (pa_cons (pe_callB (call_lenK (K := K) rfl) rfl b_len PySem.boot_len (pa_cons (pv 3) pa_nil)) pa_nil))) (pa_cons (pe_cal q_l_taken (hr.mono (by decide)) rfl pass0 (pa_cons (pv 1) (pa_cons pe_int pa_nil))) pa_nil))))))))) (pss_cons (ps_set (i := 9) nd rfl (Or.inr rfl) (pe_calM0 (pv 5) cl_Shares q_Shares_whole (hr.mono (by decide)) pass0)) (pss_cons (ps_set (i := 10) nd rfl (Or.inl rfl) (pe_op (op_addK (K := K) rfl) (pe_op (op_addK (K := K) rfl) (pe_listRg rfl rfl b_list (prg_1 rfl b_range (pe_callB (call_minK (K := K) rfl rfl) rfl b_min (by decide +kernel) (pa_cons (pv 9) (pa_cons pe_int pa_nil))))) (pe_lst (pa_cons (pe_op op_subG (pv 9) pe_int) pa_nil))) (pe_lc (own := [("_law_k", 11)]) rfl nd (pi_range1 rfl b_range (pa_cons pe_int pa_nil)) (blkOk_by (N := ["_law_script", "_law_row", "_law_turn", "_law_some", "_law_sign", "_law_shares", "_law_change", "_law_before", "_law_now", "_law_whole", "_law_numbers", "_law_k", "_law_last", "_law_number", "_law_begin"]) (sc := defScope s_law) (by decide +kernel)) (fun _ _ _ _ _ => (pg_name (i := 11) nd rfl (Or.inl rfl))) (fun _ _ _ _ _ => pts_nil) (fun _ _ _ _ _ => (pe_cal q_l_taken (hr.mono (by decide)) rfl pass0 (pa_cons (pv 1) (pa_cons (pv 9) pa_nil))))))) (pss_cons (ps_set (i := 12) nd rfl (Or.inl rfl) pe_int) (pss_cons (ps_for PassesOwn.never rfl (pi_anyK (K := K) rfl (pe_callB (call_sortedIK (K := K) rfl) rfl b_sorted (by decide +kernel) (pa_cons (pv 10) pa_nil))) (pg_name (i := 13) nd rfl (Or.inl rfl)) (pss_cons (ps_set (i := 4) nd rfl (Or.inl rfl) (pe_calM (pv 5) cl_Shares q_Shares_sign_at (hr.mono (by decide)) pass0 (pa_cons (pv 13) pa_nil))) (pss_cons (ps_if (PW.pt (pw_or (pt_not (pt_chain op_leG op_ltG pe_int (pv 4) (pe_callB (call_lenK (K := K) rfl) rfl b_len PySem.boot_len (pa_cons (pv 3) pa_nil)))) (pw_or1 (pt_cmpR op_ltG (pv 4) (pv 12) (nomark _))))) (pss_one (ps_ret pe_bl)) pss_nil) (pss_cons (ps_set (i := 14) nd rfl (Or.inl rfl) (pe_calM (pv 5) cl_Shares q_Shares_ahead_of (hr.mono (by decide)) pass0 (pa_cons (pv 4) pa_nil))) (pss_cons (ps_if (pt_not (pt_chain op_leG op_ltG (pv 14) (pv 13) (pe_op (op_addK (K := K) rfl) (pv 14) (pe_calM (pv 5) cl_Shares q_Shares_many_of (hr.mono (by decide)) pass0 (pa_cons (pv 4) pa_nil))))) (pss_one (ps_ret pe_bl)) pss_nil) (pss_one (ps_set (i := 12) nd rfl (Or.inl rfl) (pv 4)))))))) (pss_one (ps_if (PW.pt (pw_or (pt_cmpR (op_neK (K := K) rfl hr.units) (pe_callB (call_sumK (K := K) rfl rfl) rfl b_sum (by decide +kernel) (pa_cons (pe_calM0 (pv 5) cl_Shares q_Shares_all_counts (hr.mono (by decide)) pass0) pa_nil)) (pv 9) (nomark _)) (pw_or (pt_cmpR (op_neK (K := K) rfl hr.units) (pe_calM (pv 5) cl_Shares q_Shares_ahead_of (hr.mono (by decide)) pass0 (pa_cons pe_int pa_nil)) pe_int (nomark _)) (pw_or1 (pt_cmpR (op_neK (K := K) rfl hr.units) (pe_calM (pv 5) cl_Shares q_Shares_ahead_of (hr.mono (by decide)) pass0 (pa_cons (pe_callB (call_lenK (K := K) rfl) rfl b_len PySem.boot_len (pa_cons (pv 3) pa_nil)) pa_nil)) (pv 9) (nomark _)))))) (pss_one (ps_ret pe_bl)) pss_nil)))))))))) (pss_one (ps_ret pe_bl)))), q⟩) ?_

  obtain ⟨a, ns, rfl, hS, hO, k⟩ := h
  have hs := law_in hS hO
  rw [show start ["_law_script", "_law_row", "_law_turn", "_law_some", "_law_sign", "_law_shares", "_law_change", "_law_before", "_law_now", "_law_whole", "_law_numbers", "_law_k", "_law_last", "_law_number", "_law_begin"] [.ref a] = [some (.ref a), none, none, none, none, none, none, none, none, none, none, none, none, none, none] from rfl]
  walk_at "g"
  refine s_lstN (by walk_at "z") fun p H' hs => ?_
  have hs := row_first hs
  walk_at "g"
  refine s_rngK1 (by decide) (by decide) ?_
  refine f_range (fun i σ H => ∃ v2 v3 v4 v5 v6 v7 v8 v9 v10 v11 v12 v13 v14, σ = [some (.ref a), some (.ref p), v2, v3, v4, v5, v6, v7, v8, v9, v10, v11, v12, v13, v14] ∧ HS H [rowA K p]) ⟨_, _, _, _, _, _, _, _, _, _, _, _, _, rfl, hs⟩ ?_ ?_
  · rintro i σ H hi ⟨v2, v3, v4, v5, v6, v7, v8, v9, v10, v11, v12, v13, v14, rfl, hs⟩
    walk_at "g"
    refine c_taken (by decide) (by decide) fun n H' n0 n1 hs => ?_
    walk_at "g"
    refine s_rngK1 (by omega) (by omega) ?_
    refine w_counts (by omega) (by omega) (fun _ => rfl) (fun _ => rfl) (by decide) (by decide) fun D H' cs hcl g h4 hs => ?_
    walk_at "g"
    refine s_mkK fun s H' hs => ?_
    refine c_sharesInit (t := false) g h4 fun H' hs => ⟨rfl, ?_⟩
    walk_at "g"
    refine c_taken (by decide) (by decide) fun m H' m0 m1 hs => ?_
    walk_at "g"
    refine s_rngK1 (by omega) (by omega) ?_
    have el : (((iv cs).length : Int)).toNat = cs.length := by rw [iv_len]; omega
    have l1 := g.1
    have l8 := g.2.1
    refine f_range (fun (j : Nat) σ H => ∃ v4 v6 v7 v8 v9 v10 v11 v12 v13 v14 ds, σ = [some (.ref a), some (.ref p), some (.int (i : Int)), some (.ref D), v4, some (.ref s), v6, v7, v8, v9, v10, v11, v12, v13, v14] ∧ ds.length = cs.length ∧ Good ds ∧ Upto (4000 + 4000 * j) ds ∧ HS H [rowA K p, pt D (.lst (iv cs)), shR C_Shares s ds]) ⟨_, _, _, _, _, _, _, _, _, _, cs, rfl, rfl, g, Upto.mono (by omega) h4, hs.re⟩ ?_ ?_
    · rintro j σ H hj ⟨v4, v6, v7, v8, v9, v10, v11, v12, v13, v14, ds, rfl, dl, dg, du, hs⟩
      have dl8 := dg.2.1
      walk_at "g"
      refine c_allCounts dl8 fun B H' hs => ?_
      walk_at "g"
      refine c_taken (by decide) (by decide) fun z H' z0 z1 hs => ?_
      walk_at "g"
      refine i_d (fun hz => ?_) (fun hz => ?_)
      · walk_at "g"
        refine c_halve dl8 fun H' hs => ?_
        walk_at "g"
        have hl2 : (halves ds).length = ds.length := by simp [halves]
        refine c_allCounts (by omega) fun N H' hs => ?_
        walk_at "g"
        refine s_lenL ?_
        walk_at "g"
        refine s_rngK1 (by rw [iv_len]; omega) (by rw [iv_len]; omega) ?_
        rw [el]
        have hs := (hs.re : HS H' [pt N (.lst (iv (halves ds))), pt B (.lst (iv ds)), rowA K p, pt D (.lst (iv cs)), shR C_Shares s (halves ds)])
        refine f_range (fun q σ H => ∃ v4, σ = [some (.ref a), some (.ref p), some (.int (i : Int)), some (.ref D), v4, some (.ref s), some (.int (j : Int)), some (.ref B), some (.ref N), v9, v10, v11, v12, v13, v14] ∧ HS H [pt N (.lst (iv (halves ds))), pt B (.lst (iv ds)), rowA K p, pt D (.lst (iv cs)), shR C_Shares s (halves ds)]) ⟨_, rfl, hs⟩ ?_ ?_
        · rintro q σ H hq ⟨v4, rfl, hs⟩
          have h1 : ds[q]? = some (ds.getD q 0) := get_getD (by omega)
          have h2 : (halves ds)[q]? = some ((ds.getD q 0 + 1) / 2) := by rw [halves, List.getElem?_map, h1]; rfl
          have c1 := dg.at_ (show q < ds.length by omega)
          have c2 := du _ (List.mem_of_getElem? h1)
          walk_at "g"
          refine s_ixL (at_iv h2) ?_
          walk_at "g"
          refine i_y (by omega) ?_
          walk_at "g"
          refine s_ixL (at_iv h1) ?_
          walk_at "g"
          refine i_y (by omega) ?_
          walk_at "g"
          refine s_ixL (at_iv h2) ?_
          refine s_mul (mulx64 (by decide) (by omega)) ?_
          walk_at "g"
          refine i_nd (fun n => absurd (by omega) n) fun _ => ?_
          walk_at "g"
          refine s_ixL (at_iv h2) ?_
          refine s_mul (mulx64 (by decide) (by omega)) ?_
          walk_at "g"
          refine s_ixL (at_iv h1) ?_
          walk_at "g"
          refine i_n (by omega) ?_
          walk_at "g"
          exact ⟨_, rfl, hs⟩
        · rintro σ H ⟨v4, rfl, hs⟩
          exact ⟨_, _, _, _, _, _, _, _, _, _, _, rfl, by omega, good_halves dg, Upto.mono (by omega) (upto_halves (by omega) du), hs.re⟩
      · walk_at "g"
        refine s_lenL ?_
        walk_at "g"
        refine c_taken (by rw [iv_len]; omega) (by rw [iv_len]; omega) fun q H' q0 q1 hs => ?_
        rw [iv_len] at q1
        walk_at "g"
        refine c_taken (by decide) (by decide) fun x H' x0 x1 hs => ?_
        walk_at "g"
        have em : q = ((q.toNat : Nat) : Int) := by omega
        have hm : q.toNat < ds.length := by omega
        have hc := get_getD hm
        have c1 := dg.at_ hm
        have c2 := du _ (List.mem_of_getElem? hc)
        refine c_grow q.toNat em dl8 hm x0 (by omega) fun H' hs => ?_
        walk_at "g"
        exact ⟨_, _, _, _, _, _, _, _, _, _, _, rfl, by rw [List.length_set]; exact dl, good_set dg q.toNat (x := ds.getD q.toNat 0 + x) (by omega), upto_set (du.mono (by omega)) q.toNat (by push_cast; omega), hs.re⟩
    · rintro σ H ⟨v4, v6, v7, v8, v9, v10, v11, v12, v13, v14, ds, rfl, dl, dg, du, hs⟩
      have dl8 := dg.2.1
      have q0 := upto_sum (by omega) du
      have w0 : ds.sum < 2 ^ 60 := Int.lt_of_le_of_lt q0 (Int.lt_of_le_of_lt (Int.mul_le_mul (show (4000 + 4000 * (m.toNat : Int)) ≤ 200000 by omega) (show (ds.length : Int) ≤ 8 by omega) (by omega) (by decide)) (by decide))
      have wp := dg.sum_pos
      walk_at "g"
      refine c_whole dl8 fun H' hs => ?_
      walk_at "g"
      refine s_min2 fun z zi zj ze => ?_
      walk_at "g"
      refine s_lrK (by omega) (by omega) fun R1 H' hs => ?_
      walk_at "g"
      refine s_lstN (by walk_at "z") fun R2 H' hs => ?_
      have hs : HS H' (pt R2 (.lst (iv [ds.sum - 1])) :: _) := hs
      refine s_cat (by rw [iv_len, iv_len]; exact small_line (by simp [upTo]; omega)) fun R3 H' hs => ?_
      rw [iv_app2] at hs
      walk_at "g"
      refine s_rngK1 (by decide) (by decide) ?_
      have hs := (hs.re : HS H' [pt R3 (.lst (iv (upTo z.toNat ++ [ds.sum - 1]))), rowA K p, pt D (.lst (iv cs)), shR C_Shares s ds])
      refine c_range (fun E j H => ∃ r : List Int, r.length = j ∧ (∀ x ∈ r, 0 ≤ x ∧ x < ds.sum) ∧ HS H [pt E (.lst (iv r)), pt R3 (.lst (iv (upTo z.toNat ++ [ds.sum - 1]))), rowA K p, pt D (.lst (iv cs)), shR C_Shares s ds]) (fun E H' h => ⟨[], rfl, by simp, h⟩) ?_ ?_
      · rintro E j H hj ⟨r, hrl, hr, hs⟩
        have hj2 : j < 20 := hj
        walk_at "n"
        refine ⟨rfl, ?_⟩
        walk_at "g"
        refine c_taken wp (by omega) fun x H' x0 x1 hs => ?_
        refine s_acc (small_lt (by rw [iv_len]; omega)) fun H' hs => ?_
        rw [← iv_app] at hs
        refine ⟨r ++ [x], by simp [hrl], fun y hy => ?_, hs.re⟩
        rcases List.mem_append.mp hy with q | q
        · exact hr y q
        · have := List.mem_singleton.mp q
          omega
      · rintro E H ⟨r, hrl, hr, hs⟩
        have hrl2 : r.length = 20 := hrl
        refine s_cat (by rw [iv_len, iv_len]; exact small_line (by simp [upTo]; omega)) fun R4 H' hs => ?_
        rw [iv_app2] at hs
        have hin : ∀ x ∈ upTo z.toNat ++ [ds.sum - 1] ++ r, 0 ≤ x ∧ x < ds.sum := by
          intro x hx
          rcases List.mem_append.mp hx with q | q
          · rcases List.mem_append.mp q with q | q
            · have := mem_upTo q
              omega
            · have := List.mem_singleton.mp q
              omega
          · exact hr x q
        generalize upTo z.toNat ++ [ds.sum - 1] ++ r = ws at hs hin
        have hs := (hs.re : HS H' [pt R4 (.lst (iv ws)), rowA K p, pt D (.lst (iv cs)), shR C_Shares s ds])
        walk_at "g"
        refine s_any ?_
        walk_at "g"
        refine s_sortedI fun ys R5 H' hp hw hs => ?_
        have hin2 : ∀ x ∈ ys, 0 ≤ x ∧ x < ds.sum := fun x hx => hin x (hp.mem_iff.mp hx)
        refine s_lsK ?_
        refine f_list (iv ys) (fun j σ H => ∃ v4 v13 v14 ln, σ = [some (.ref a), some (.ref p), some (.int (i : Int)), some (.ref D), v4, some (.ref s), v6, v7, v8, some (.int ds.sum), some (.ref R4), v11, some (.int (ln : Nat)), v13, v14] ∧ (∀ k x, j ≤ k → ys[k]? = some x → ln ≤ signF ds x) ∧
          HS H [pt R5 (.lst (iv ys)), rowA K p, pt D (.lst (iv cs)), shR C_Shares s ds]) ⟨_, _, _, 0, rfl, fun _ _ _ _ => Nat.zero_le _, hs.re⟩ (fun j σ H _ ⟨_, _, _, _, _, _, h⟩ => RdL.sq h) ?_ ?_
        · rintro j x σ H hx ⟨v4, v13, v14, ln, rfl, hln, hs⟩
          obtain ⟨y, hy, rfl⟩ := iv_at hx
          obtain ⟨y0, y1⟩ := hin2 y (List.mem_of_getElem? hy)
          obtain ⟨f1, f2, f3⟩ := filter_sign dg y0 y1
          have hsl := dg.signF_lt y1
          have hte := take_getD ds _ hsl
          have hle := hln j y (Nat.le_refl _) hy
          walk_at "g"
          refine c_signAt dg y0 y1 fun H' hs => ?_
          walk_at "g"
          refine i_y (by omega) ?_
          walk_at "g"
          refine s_lenL ?_
          walk_at "g"
          refine i_nd (fun n => absurd (by rw [iv_len]; omega) n) fun _ => ?_
          walk_at "g"
          refine i_n (by omega) ?_
          walk_at "g"
          refine c_aheadOf (signF ds y) rfl dl8 (by omega) fun H' hs => ?_
          walk_at "g"
          refine i_y (by omega) ?_
          walk_at "g"
          refine c_manyOf (signF ds y) rfl dl8 hsl fun H' hs => ?_
          walk_at "g"
          refine i_nd (fun n => absurd (by omega) n) fun _ => ?_
          walk_at "g"
          exact ⟨_, _, _, signF ds y, rfl, fun k x hk hx => signF_mono ds (pw_at hw (show j < k by omega) hy hx), hs.re⟩
        · rintro σ H ⟨v4, v13, v14, ln, rfl, hln, hs⟩
          walk_at "g"
          refine c_allCounts dl8 fun R6 H' hs => ?_
          walk_at "g"
          refine s_sumV ?_
          walk_at "g"
          refine i_nd (fun n => absurd rfl n) fun _ => ?_
          walk_at "g"
          refine c_aheadOf 0 rfl dl8 (by omega) fun H' hs => ?_
          walk_at "g"
          refine i_nd (fun n => absurd (by simp) n) fun _ => ?_
          walk_at "g"
          refine s_lenL ?_
          walk_at "g"
          refine c_aheadOf ds.length (by rw [iv_len, dl]) dl8 (by omega) fun H' hs => ?_
          rw [List.take_length]
          walk_at "g"
          refine i_nd (fun n => absurd rfl n) fun _ => ?_
          walk_at "g"
          exact ⟨_, _, _, _, _, _, _, _, _, _, _, _, _, rfl, hs.re⟩
  · rintro σ H ⟨v2, v3, v4, v5, v6, v7, v8, v9, v10, v11, v12, v13, v14, rfl, hs⟩
    walk_at "g"
    exact k _

end
/-! ### the end -/
structure FnD (K : PySem.W.Frag) (x qual : Str) (st : Stmt) (f : Addr) : Prop where
  ex : ∃ (oc : Value) (od : Option Addr) (kV doc pm : Value) (an : Option Addr) (cdv ct : Value) (osl : Array (Option Value)),
    K.lookup f = some ⟨oc, od, .func (PySem.W.fnOf x qual (defArgs st) (defBody st) (defScope st) .none kV doc pm an cdv ct), osl⟩ ∧ PySem.W.codeIn K cdv qual = true ∧ PySem.W.keepIn K (.ref f) = true
theorem FnD.of {K : PySem.W.Frag} {x qual : Str} {st : Stmt} {f : Addr} {oc : Value} {od an : Option Addr} {osl : Array (Option Value)} {kV doc pm cdv ct : Value} (l : K.lookup f = some ⟨oc, od, .func (PySem.W.fnOf x qual (defArgs st) (defBody st) (defScope st) .none kV doc pm an cdv ct), osl⟩)
    (c : PySem.W.codeIn K cdv qual = true) (k : PySem.W.keepIn K (.ref f) = true) : FnD K x qual st f := ⟨_, _, _, _, _, _, _, _, _, l, c, k⟩
theorem FnD.fun_ {K : PySem.W.Frag} {x qual : Str} {st : Stmt} {f : Addr} (d : FnD K x qual st f) : ∃ fd, Fun K x qual st f fd := by
  obtain ⟨oc, od, kV, doc, pm, an, cdv, ct, osl, l, c, k⟩ := d.ex
  exact ⟨_, fun_mk l c k⟩
set_option maxHeartbeats 0 in
theorem all_mk {P : Program} {w : World} {K : PySem.W.Frag} {h : Heap} {mg : Str → Option Value} {fa : Addr} {C_Shares f_Shares_ahead_of f_Shares_all_counts f_Shares_climb f_Shares_grow f_Shares_halve f_Shares_init f_Shares_many_of f_Shares_need_sign f_Shares_sign_at f_Shares_whole f_is_within f_l_taken f_law f_need_counts : Addr} {t_MOST_COUNT t_MOST_SIGNS : Tok} (X : K.In h) (G : h.Ns mainGlobals mg) (hfa : mg "law" = some (.ref fa))
    (aC_Shares : PySem.W.nsIn K mainGlobals "Shares" = some (some (.ref C_Shares)))
    (pg_Shares : PySem.W.plainGet K C_Shares Str.empty = true)
    (hd_Shares : PySem.W.hasDictIn K C_Shares = true)
    (po_Shares : PySem.W.plainOver K C_Shares = true)
    (sa_Shares : PySem.W.findIn K (.ref C_Shares) "__setattr__" = some (some (.builtin "object.__setattr__")))
    (xb_isinstance : PySem.W.nsIn K mainGlobals "isinstance" = some none)
    (xb_bool : PySem.W.nsIn K mainGlobals "bool" = some none)
    (xb_int : PySem.W.nsIn K mainGlobals "int" = some none)
    (xn_Shares_signs : PySem.W.findIn K (.ref C_Shares) "signs" = some none)
    (xn_Shares_tree : PySem.W.findIn K (.ref C_Shares) "tree" = some none)
    (xk_MOST_COUNT : PySem.W.nsIn K mainGlobals "MOST_COUNT" = some (some (.int (4000) t_MOST_COUNT)))
    (xb_len : PySem.W.nsIn K mainGlobals "len" = some none)
    (xk_MOST_SIGNS : PySem.W.nsIn K mainGlobals "MOST_SIGNS" = some (some (.int (8) t_MOST_SIGNS)))
    (xb_range : PySem.W.nsIn K mainGlobals "range" = some none)
    (xb_sum : PySem.W.nsIn K mainGlobals "sum" = some none)
    (xb_sorted : PySem.W.nsIn K mainGlobals "sorted" = some none)
    (xb_list : PySem.W.nsIn K mainGlobals "list" = some none)
    (xb_min : PySem.W.nsIn K mainGlobals "min" = some none)
    (a_is_within : PySem.W.nsIn K mainGlobals "is_within" = some (some (.ref f_is_within)))
    (d_is_within : FnD K "is_within" "is_within" s_is_within f_is_within)
    (a_Shares_climb : PySem.W.findIn K (.ref C_Shares) "climb" = some (some (.ref f_Shares_climb)))
    (i_Shares_climb : PySem.W.isFn K (.ref f_Shares_climb) = true)
    (d_Shares_climb : FnD K "climb" "Shares.climb" s_Shares_climb f_Shares_climb)
    (a_Shares_need_sign : PySem.W.findIn K (.ref C_Shares) "need_sign" = some (some (.ref f_Shares_need_sign)))
    (i_Shares_need_sign : PySem.W.isFn K (.ref f_Shares_need_sign) = true)
    (d_Shares_need_sign : FnD K "need_sign" "Shares.need_sign" s_Shares_need_sign f_Shares_need_sign)
    (a_need_counts : PySem.W.nsIn K mainGlobals "need_counts" = some (some (.ref f_need_counts)))
    (d_need_counts : FnD K "need_counts" "need_counts" s_need_counts f_need_counts)
    (a_Shares_ahead_of : PySem.W.findIn K (.ref C_Shares) "ahead_of" = some (some (.ref f_Shares_ahead_of)))
    (i_Shares_ahead_of : PySem.W.isFn K (.ref f_Shares_ahead_of) = true)
    (d_Shares_ahead_of : FnD K "ahead_of" "Shares.ahead_of" s_Shares_ahead_of f_Shares_ahead_of)
    (a_Shares_many_of : PySem.W.findIn K (.ref C_Shares) "many_of" = some (some (.ref f_Shares_many_of)))
    (i_Shares_many_of : PySem.W.isFn K (.ref f_Shares_many_of) = true)
    (d_Shares_many_of : FnD K "many_of" "Shares.many_of" s_Shares_many_of f_Shares_many_of)
    (a_Shares_whole : PySem.W.findIn K (.ref C_Shares) "whole" = some (some (.ref f_Shares_whole)))
    (i_Shares_whole : PySem.W.isFn K (.ref f_Shares_whole) = true)
    (d_Shares_whole : FnD K "whole" "Shares.whole" s_Shares_whole f_Shares_whole)
    (a_Shares_sign_at : PySem.W.findIn K (.ref C_Shares) "sign_at" = some (some (.ref f_Shares_sign_at)))
    (i_Shares_sign_at : PySem.W.isFn K (.ref f_Shares_sign_at) = true)
    (d_Shares_sign_at : FnD K "sign_at" "Shares.sign_at" s_Shares_sign_at f_Shares_sign_at)
    (a_Shares_init : PySem.W.findIn K (.ref C_Shares) "__init__" = some (some (.ref f_Shares_init)))
    (i_Shares_init : PySem.W.isFn K (.ref f_Shares_init) = true)
    (mk_Shares : PySem.W.makesIn K C_Shares = true)
    (kc_Shares : PySem.W.keepIn K (.ref C_Shares) = true)
    (d_Shares_init : FnD K "__init__" "Shares.__init__" s_Shares_init f_Shares_init)
    (a_Shares_grow : PySem.W.findIn K (.ref C_Shares) "grow" = some (some (.ref f_Shares_grow)))
    (i_Shares_grow : PySem.W.isFn K (.ref f_Shares_grow) = true)
    (d_Shares_grow : FnD K "grow" "Shares.grow" s_Shares_grow f_Shares_grow)
    (a_Shares_all_counts : PySem.W.findIn K (.ref C_Shares) "all_counts" = some (some (.ref f_Shares_all_counts)))
    (i_Shares_all_counts : PySem.W.isFn K (.ref f_Shares_all_counts) = true)
    (d_Shares_all_counts : FnD K "all_counts" "Shares.all_counts" s_Shares_all_counts f_Shares_all_counts)
    (a_Shares_halve : PySem.W.findIn K (.ref C_Shares) "halve" = some (some (.ref f_Shares_halve)))
    (i_Shares_halve : PySem.W.isFn K (.ref f_Shares_halve) = true)
    (d_Shares_halve : FnD K "halve" "Shares.halve" s_Shares_halve f_Shares_halve)
    (a_l_taken : PySem.W.nsIn K mainGlobals "_law_taken" = some (some (.ref f_l_taken)))
    (d_l_taken : FnD K "_law_taken" "_law_taken" s_l_taken f_l_taken)
    (a_law : PySem.W.nsIn K mainGlobals "law" = some (some (.ref f_law)))
    (d_law : FnD K "law" "law" s_law f_law) :
    ∃ fd : FuncData, (∀ (s : Shared) (v : Value), BindsTo s fd ⟨[v], []⟩ [("_law_script", v)]) ∧ ∀ base : Heap, K.In base → base.Ns mainGlobals mg → FnOk P w K mg base CX0 9 fa fd ["_law_script"] (spLaw K) := by
  have e := hfa.symm.trans (PySem.W.mg_of X G a_law)
  cases e
  have cl_Shares : Cls K C_Shares := ⟨pg_Shares, hd_Shares, po_Shares, sa_Shares⟩
  have b_isinstance : mg "isinstance" = none := PySem.W.mg_none_of X G xb_isinstance
  have b_bool : mg "bool" = none := PySem.W.mg_none_of X G xb_bool
  have b_int : mg "int" = none := PySem.W.mg_none_of X G xb_int
  have n_Shares_signs : NoAttr K C_Shares "signs" := xn_Shares_signs
  have n_Shares_tree : NoAttr K C_Shares "tree" := xn_Shares_tree
  have k_MOST_COUNT : mg "MOST_COUNT" = some (.int (4000) t_MOST_COUNT) := PySem.W.mg_of X G xk_MOST_COUNT
  have b_len : mg "len" = none := PySem.W.mg_none_of X G xb_len
  have k_MOST_SIGNS : mg "MOST_SIGNS" = some (.int (8) t_MOST_SIGNS) := PySem.W.mg_of X G xk_MOST_SIGNS
  have b_range : mg "range" = none := PySem.W.mg_none_of X G xb_range
  have b_sum : mg "sum" = none := PySem.W.mg_none_of X G xb_sum
  have b_sorted : mg "sorted" = none := PySem.W.mg_none_of X G xb_sorted
  have b_list : mg "list" = none := PySem.W.mg_none_of X G xb_list
  have b_min : mg "min" = none := PySem.W.mg_none_of X G xb_min
  obtain ⟨fd_is_within, F_is_within⟩ := d_is_within.fun_
  have bd_is_within := F_is_within.binds (ps := ["number", "low", "high"]) fun _ _ _ _ _ _ us hl => match us, hl with | [_, _, _], _ => rfl
  obtain ⟨fd_Shares_climb, F_Shares_climb⟩ := d_Shares_climb.fun_
  have bd_Shares_climb := F_Shares_climb.binds (ps := ["self", "sign", "by"]) fun _ _ _ _ _ _ us hl => match us, hl with | [_, _, _], _ => rfl
  obtain ⟨fd_Shares_need_sign, F_Shares_need_sign⟩ := d_Shares_need_sign.fun_
  have bd_Shares_need_sign := F_Shares_need_sign.binds (ps := ["self", "sign", "most"]) fun _ _ _ _ _ _ us hl => match us, hl with | [_, _, _], _ => rfl
  obtain ⟨fd_need_counts, F_need_counts⟩ := d_need_counts.fun_
  have bd_need_counts := F_need_counts.binds (ps := ["counts"]) fun _ _ _ _ _ _ us hl => match us, hl with | [_], _ => rfl
  obtain ⟨fd_Shares_ahead_of, F_Shares_ahead_of⟩ := d_Shares_ahead_of.fun_
  have bd_Shares_ahead_of := F_Shares_ahead_of.binds (ps := ["self", "sign"]) fun _ _ _ _ _ _ us hl => match us, hl with | [_, _], _ => rfl
  obtain ⟨fd_Shares_many_of, F_Shares_many_of⟩ := d_Shares_many_of.fun_
  have bd_Shares_many_of := F_Shares_many_of.binds (ps := ["self", "sign"]) fun _ _ _ _ _ _ us hl => match us, hl with | [_, _], _ => rfl
  obtain ⟨fd_Shares_whole, F_Shares_whole⟩ := d_Shares_whole.fun_
  have bd_Shares_whole := F_Shares_whole.binds (ps := ["self"]) fun _ _ _ _ _ _ us hl => match us, hl with | [_], _ => rfl
  obtain ⟨fd_Shares_sign_at, F_Shares_sign_at⟩ := d_Shares_sign_at.fun_
  have bd_Shares_sign_at := F_Shares_sign_at.binds (ps := ["self", "number"]) fun _ _ _ _ _ _ us hl => match us, hl with | [_, _], _ => rfl
  obtain ⟨fd_Shares_init, F_Shares_init⟩ := d_Shares_init.fun_
  have bd_Shares_init := F_Shares_init.binds (ps := ["self", "counts"]) fun _ _ _ _ _ _ us hl => match us, hl with | [_, _], _ => rfl
  obtain ⟨fd_Shares_grow, F_Shares_grow⟩ := d_Shares_grow.fun_
  have bd_Shares_grow := F_Shares_grow.binds (ps := ["self", "sign", "by"]) fun _ _ _ _ _ _ us hl => match us, hl with | [_, _, _], _ => rfl
  obtain ⟨fd_Shares_all_counts, F_Shares_all_counts⟩ := d_Shares_all_counts.fun_
  have bd_Shares_all_counts := F_Shares_all_counts.binds (ps := ["self"]) fun _ _ _ _ _ _ us hl => match us, hl with | [_], _ => rfl
  obtain ⟨fd_Shares_halve, F_Shares_halve⟩ := d_Shares_halve.fun_
  have bd_Shares_halve := F_Shares_halve.binds (ps := ["self"]) fun _ _ _ _ _ _ us hl => match us, hl with | [_], _ => rfl
  obtain ⟨fd_l_taken, F_l_taken⟩ := d_l_taken.fun_
  have bd_l_taken := F_l_taken.binds (ps := ["_law_row", "_law_many"]) fun _ _ _ _ _ _ us hl => match us, hl with | [_, _], _ => rfl
  obtain ⟨fd_law, F_law⟩ := d_law.fun_
  have bd_law := F_law.binds (ps := ["_law_script"]) fun _ _ _ _ _ _ us hl => match us, hl with | [_], _ => rfl
  refine ⟨fd_law, fun s v => ?_, fun base _ _ => ?_⟩
  · obtain ⟨oc, od, kV, doc, pm, an, cdv, ct, osl, rfl, lk, hcd⟩ := F_law.ex
    exact .of_eq rfl
  have q_is_within : Cal P w K mg base CX0 1 "is_within" ["number", "low", "high"] (spWithin) := ⟨⟨f_is_within, fd_is_within, PySem.W.mg_of X G a_is_within, F_is_within.kp, bd_is_within, ok_is_within F_is_within (b_isinstance := b_isinstance) (b_bool := b_bool) (b_int := b_int)⟩⟩
  have q_Shares_climb : CalM P w K mg base CX0 1 C_Shares "climb" ["self", "sign", "by"] (spClimb C_Shares) := ⟨⟨f_Shares_climb, fd_Shares_climb, ⟨a_Shares_climb, i_Shares_climb, F_Shares_climb.kp⟩, bd_Shares_climb, ok_Shares_climb F_Shares_climb (n_Shares_signs := n_Shares_signs) (cl_Shares := cl_Shares) (n_Shares_tree := n_Shares_tree)⟩⟩
  have q_Shares_need_sign : CalM P w K mg base CX0 2 C_Shares "need_sign" ["self", "sign", "most"] (spNeedSign) := ⟨⟨f_Shares_need_sign, fd_Shares_need_sign, ⟨a_Shares_need_sign, i_Shares_need_sign, F_Shares_need_sign.kp⟩, bd_Shares_need_sign, ok_Shares_need_sign F_Shares_need_sign (q_is_within := q_is_within)⟩⟩
  have q_need_counts : Cal P w K mg base CX0 2 "need_counts" ["counts"] (spNeedCounts K) := ⟨⟨f_need_counts, fd_need_counts, PySem.W.mg_of X G a_need_counts, F_need_counts.kp, bd_need_counts, ok_need_counts F_need_counts (k_MOST_COUNT := k_MOST_COUNT) (b_len := b_len) (k_MOST_SIGNS := k_MOST_SIGNS) (q_is_within := q_is_within)⟩⟩
  have q_Shares_ahead_of : CalM P w K mg base CX0 3 C_Shares "ahead_of" ["self", "sign"] (spAheadOf C_Shares) := ⟨⟨f_Shares_ahead_of, fd_Shares_ahead_of, ⟨a_Shares_ahead_of, i_Shares_ahead_of, F_Shares_ahead_of.kp⟩, bd_Shares_ahead_of, ok_Shares_ahead_of F_Shares_ahead_of (cl_Shares := cl_Shares) (n_Shares_signs := n_Shares_signs) (n_Shares_tree := n_Shares_tree) (q_Shares_need_sign := q_Shares_need_sign)⟩⟩
  have q_Shares_many_of : CalM P w K mg base CX0 4 C_Shares "many_of" ["self", "sign"] (spManyOf C_Shares) := ⟨⟨f_Shares_many_of, fd_Shares_many_of, ⟨a_Shares_many_of, i_Shares_many_of, F_Shares_many_of.kp⟩, bd_Shares_many_of, ok_Shares_many_of F_Shares_many_of (cl_Shares := cl_Shares) (n_Shares_signs := n_Shares_signs) (q_Shares_ahead_of := q_Shares_ahead_of) (q_Shares_need_sign := q_Shares_need_sign)⟩⟩
  have q_Shares_whole : CalM P w K mg base CX0 4 C_Shares "whole" ["self"] (spWhole C_Shares) := ⟨⟨f_Shares_whole, fd_Shares_whole, ⟨a_Shares_whole, i_Shares_whole, F_Shares_whole.kp⟩, bd_Shares_whole, ok_Shares_whole F_Shares_whole (cl_Shares := cl_Shares) (n_Shares_signs := n_Shares_signs) (q_Shares_ahead_of := q_Shares_ahead_of)⟩⟩
  have q_Shares_sign_at : CalM P w K mg base CX0 5 C_Shares "sign_at" ["self", "number"] (spSignAt C_Shares) := ⟨⟨f_Shares_sign_at, fd_Shares_sign_at, ⟨a_Shares_sign_at, i_Shares_sign_at, F_Shares_sign_at.kp⟩, bd_Shares_sign_at, ok_Shares_sign_at F_Shares_sign_at (k_MOST_SIGNS := k_MOST_SIGNS) (cl_Shares := cl_Shares) (n_Shares_signs := n_Shares_signs) (n_Shares_tree := n_Shares_tree) (q_is_within := q_is_within) (q_Shares_whole := q_Shares_whole)⟩⟩
  have q_Shares_init : CalC P w K mg base CX0 3 C_Shares "Shares" ["self", "counts"] (spSharesInit K C_Shares) := ⟨⟨f_Shares_init, fd_Shares_init, ⟨mk_Shares, a_Shares_init, i_Shares_init, kc_Shares⟩, PySem.W.mg_of X G aC_Shares, bd_Shares_init, ok_Shares_init F_Shares_init (b_range := b_range) (b_len := b_len) (cl_Shares := cl_Shares) (n_Shares_signs := n_Shares_signs) (n_Shares_tree := n_Shares_tree) (q_Shares_climb := q_Shares_climb) (q_need_counts := q_need_counts)⟩⟩
  have q_Shares_grow : CalM P w K mg base CX0 3 C_Shares "grow" ["self", "sign", "by"] (spGrow C_Shares) := ⟨⟨f_Shares_grow, fd_Shares_grow, ⟨a_Shares_grow, i_Shares_grow, F_Shares_grow.kp⟩, bd_Shares_grow, ok_Shares_grow F_Shares_grow (cl_Shares := cl_Shares) (k_MOST_COUNT := k_MOST_COUNT) (n_Shares_signs := n_Shares_signs) (q_Shares_climb := q_Shares_climb) (q_is_within := q_is_within) (q_Shares_need_sign := q_Shares_need_sign)⟩⟩
  have q_Shares_all_counts : CalM P w K mg base CX0 5 C_Shares "all_counts" ["self"] (spAllCounts C_Shares) := ⟨⟨f_Shares_all_counts, fd_Shares_all_counts, ⟨a_Shares_all_counts, i_Shares_all_counts, F_Shares_all_counts.kp⟩, bd_Shares_all_counts, ok_Shares_all_counts F_Shares_all_counts (b_range := b_range) (cl_Shares := cl_Shares) (n_Shares_signs := n_Shares_signs) (q_Shares_many_of := q_Shares_many_of)⟩⟩
  have q_Shares_halve : CalM P w K mg base CX0 6 C_Shares "halve" ["self"] (spHalve C_Shares) := ⟨⟨f_Shares_halve, fd_Shares_halve, ⟨a_Shares_halve, i_Shares_halve, F_Shares_halve.kp⟩, bd_Shares_halve, ok_Shares_halve F_Shares_halve (b_range := b_range) (cl_Shares := cl_Shares) (n_Shares_tree := n_Shares_tree) (n_Shares_signs := n_Shares_signs) (q_Shares_climb := q_Shares_climb) (q_Shares_all_counts := q_Shares_all_counts)⟩⟩
  have q_l_taken : Cal P w K mg base CX0 1 "_law_taken" ["_law_row", "_law_many"] (spTaken K) := ⟨⟨f_l_taken, fd_l_taken, PySem.W.mg_of X G a_l_taken, F_l_taken.kp, bd_l_taken, ok_l_taken F_l_taken (b_len := b_len)⟩⟩
  exact ok_law F_law (b_range := b_range) (cl_Shares := cl_Shares) (b_len := b_len) (b_sum := b_sum) (b_sorted := b_sorted) (b_list := b_list) (b_min := b_min) (q_Shares_ahead_of := q_Shares_ahead_of) (q_Shares_all_counts := q_Shares_all_counts) (q_Shares_many_of := q_Shares_many_of) (q_Shares_sign_at := q_Shares_sign_at) (q_l_taken := q_l_taken) (q_Shares_whole := q_Shares_whole) (q_Shares_halve := q_Shares_halve) (q_Shares_grow := q_Shares_grow) (q_Shares_init := q_Shares_init)
theorem walk {l : PySem.W.OpenLaw} {q : Program} {loose : List Str} {XP : (Str → Option Value) → Heap → Prop} {YP : World → Heap → Prop} {d : DefRec} {K : Params → PySem.W.Frag} (hn : l.most = some 63) (hdf : d.params.defaults = [])
    (hY : ∀ (w : World) (h : Heap), YP w h → (K w.params).In h)
    (F : ∀ (w : World) (mg : Str → Option Value) (fa : Addr) (h : Heap), (K w.params).In h → h.Ns mainGlobals mg → mg d.name = some (.ref fa) →
      ∃ fd : FuncData, (∀ (s : Shared) (u : Value), BindsTo s fd ⟨[u], []⟩ [("_law_script", u)]) ∧ ∀ base : Heap, (K w.params).In base → base.Ns mainGlobals mg → FnOk l.prog w (K w.params) mg base CX0 9 fa fd ["_law_script"] (spLaw (K w.params))) :
    PySem.W.WalkO q loose XP YP l.row.toRowW d [] (fun f vs => PySem.call f vs) :=
  L2.walk_of (n := 63) (k := 9) (x := "_law_script") (CX := fun _ => CX0) (sp := fun w => spLaw (K w.params)) hn (by decide) hdf ⟨rfl, by decide, by decide⟩ hY F (fun _ _ a ns hl hO hS => ⟨a, ns, rfl, hS, hO, fun _ => rfl⟩) fun _ _ _ _ _ z => z
end G
local macro_rules | `(tactic| walk_at "fn_is") => `(tactic| (refine' G.FnD.of ?l ?c ?k; (case l => k_is); (case c => k_is); (case k => k_is)))
open PySem PySem.W PyProof.Rows in
set_option maxRecDepth 100000 in
set_option maxHeartbeats 0 in
theorem PySem.Challenge.cw_stretchcode_k04_whole_each_number_in_one_holds : PySem.Challenge.rw_stretchcode_k04_whole_each_number_in_one.Holds := by
  w_on; o_law; k_head; (case hw => w_witness2)
  k_fill
  refine G.walk (l := PySem.Challenge.rw_stretchcode_k04_whole_each_number_in_one) rfl rfl (fun w h Y => PySem.W.kIn_of Y) ?F
  case F =>
    intro w mg fa h KX Gn hmg
    refine' G.all_mk KX Gn hmg ?aC_Shares ?pg_Shares ?hd_Shares ?po_Shares ?sa_Shares ?xb_isinstance ?xb_bool ?xb_int ?xn_Shares_signs ?xn_Shares_tree ?xk_MOST_COUNT ?xb_len ?xk_MOST_SIGNS ?xb_range ?xb_sum ?xb_sorted ?xb_list ?xb_min ?a_is_within ?d_is_within ?a_Shares_climb ?i_Shares_climb ?d_Shares_climb ?a_Shares_need_sign ?i_Shares_need_sign ?d_Shares_need_sign ?a_need_counts ?d_need_counts ?a_Shares_ahead_of ?i_Shares_ahead_of ?d_Shares_ahead_of ?a_Shares_many_of ?i_Shares_many_of ?d_Shares_many_of ?a_Shares_whole ?i_Shares_whole ?d_Shares_whole ?a_Shares_sign_at ?i_Shares_sign_at ?d_Shares_sign_at ?a_Shares_init ?i_Shares_init ?mk_Shares ?kc_Shares ?d_Shares_init ?a_Shares_grow ?i_Shares_grow ?d_Shares_grow ?a_Shares_all_counts ?i_Shares_all_counts ?d_Shares_all_counts ?a_Shares_halve ?i_Shares_halve ?d_Shares_halve ?a_l_taken ?d_l_taken ?a_law ?d_law
    (case aC_Shares => k_is)
    (case pg_Shares => k_is)
    (case hd_Shares => k_is)
    (case po_Shares => k_is)
    (case sa_Shares => k_is)
    (case xb_isinstance => k_is)
    (case xb_bool => k_is)
    (case xb_int => k_is)
    (case xn_Shares_signs => k_is)
    (case xn_Shares_tree => k_is)
    (case xk_MOST_COUNT => k_is)
    (case xb_len => k_is)
    (case xk_MOST_SIGNS => k_is)
    (case xb_range => k_is)
    (case xb_sum => k_is)
    (case xb_sorted => k_is)
    (case xb_list => k_is)
    (case xb_min => k_is)
    (case a_is_within => k_is)
    (case d_is_within => walk_at "fn_is")
    (case a_Shares_climb => k_is)
    (case i_Shares_climb => k_is)
    (case d_Shares_climb => walk_at "fn_is")
    (case a_Shares_need_sign => k_is)
    (case i_Shares_need_sign => k_is)
    (case d_Shares_need_sign => walk_at "fn_is")
    (case a_need_counts => k_is)
    (case d_need_counts => walk_at "fn_is")
    (case a_Shares_ahead_of => k_is)
    (case i_Shares_ahead_of => k_is)
    (case d_Shares_ahead_of => walk_at "fn_is")
    (case a_Shares_many_of => k_is)
    (case i_Shares_many_of => k_is)
    (case d_Shares_many_of => walk_at "fn_is")
    (case a_Shares_whole => k_is)
    (case i_Shares_whole => k_is)
    (case d_Shares_whole => walk_at "fn_is")
    (case a_Shares_sign_at => k_is)
    (case i_Shares_sign_at => k_is)
    (case d_Shares_sign_at => walk_at "fn_is")
    (case a_Shares_init => k_is)
    (case i_Shares_init => k_is)
    (case mk_Shares => k_is)
    (case kc_Shares => k_is)
    (case d_Shares_init => walk_at "fn_is")
    (case a_Shares_grow => k_is)
    (case i_Shares_grow => k_is)
    (case d_Shares_grow => walk_at "fn_is")
    (case a_Shares_all_counts => k_is)
    (case i_Shares_all_counts => k_is)
    (case d_Shares_all_counts => walk_at "fn_is")
    (case a_Shares_halve => k_is)
    (case i_Shares_halve => k_is)
    (case d_Shares_halve => walk_at "fn_is")
    (case a_l_taken => k_is)
    (case d_l_taken => walk_at "fn_is")
    (case a_law => k_is)
    (case d_law => walk_at "fn_is")
