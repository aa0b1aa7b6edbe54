import PyProof.Rows.All
import Wide.All
import OpenK.AllK
import Wide.FinOn
import HandS.ForMost
import HandS.ForExc
import HandS.Wide
import HandS.WideBits
import HandS.IsInst
import HandS.TupAny
import HandS.Zip
import HandS.Conv
import HandS.Flow
import HandS.TupMul
import HandS.Style
import HandS.SetFor
import PyProof.StrBlock2
import HandS.SortInts
import PyProof.ZipIter
import KE.KItemsList
import HandS.Walk
import HandS.Text
import PyProof.Rows.StrDouble
import KE.BitLaws
import HandS.StrMore
import KE.DataCmp
import HandS.Lambda
import HandS.Exc
import HandS.TryOnly
import HandS.ExcOwn
import HandS.ExcIs
import HandS.EndTab
import KE.KNestM
import HandS.NoneIn
import KE.KDflt
import PySem.Challenge.RW_stretchcode_k18_whole_digits_are_never_t
set_option Elab.async false
set_option linter.all false
set_option maxRecDepth 100000
set_option maxHeartbeats 4000000
set_option pp.maxSteps 4000
/-! Parts of the heap: what is owned, what stays. -/
namespace G
open PySem L2

/-- what never changes -/
def Cst : HO → Prop
  | .tup _ => True
  | .frz _ _ => True
  | _ => False
def Keep (H H' : Hp) : Prop := ∀ a o, Cst o → H a = some o → H' a = some o
theorem Keep.refl (H : Hp) : Keep H H := fun _ _ _ h => h
theorem Keep.trans {A B C : Hp} (x : Keep A B) (y : Keep B C) : Keep A C := fun a o c h => y a o c (x a o c h)
theorem Keep.new {H : Hp} {p : Addr} {o : HO} (h : H p = none) : Keep H (upd H p o) := fun a u _ e => by
  rw [upd_ne (ne_of_none e h)]; exact e
theorem Keep.put {H : Hp} {p : Addr} {o u : HO} (h : H p = some o) (n : ¬ Cst o) : Keep H (upd H p u) := fun a v c e => by
  have : a ≠ p := fun z => by subst z; rw [h] at e; cases e; exact n c
  rw [upd_ne this]; exact e

/-- an assertion about a part of the heap -/
structure SA where
  p : Hp → Hp → Prop
  mono : ∀ {H H' own : Hp}, Keep H H' → p H own → p H' own

def Sub (own H : Hp) : Prop := ∀ a o, own a = some o → H a = some o
def Bare (own : Hp) : Prop := ∀ a o, own a = some o → ¬ Cst o
def no : Hp := fun _ => none
def HSx (H : Hp) : (Addr → Prop) → List SA → Prop
  | _, [] => True
  | T, A :: L => ∃ own, Sub own H ∧ Bare own ∧ (∀ a, T a → own a = none) ∧ A.p H own ∧ HSx H (fun a => T a ∨ own a ≠ none) L
/-- the assertions hold of parts that lie apart -/
class HS (H : Hp) (L : outParam (List SA)) : Prop where
  x : HSx H (fun _ => False) L

theorem HSx.weak {H : Hp} : ∀ {L : List SA} {T T' : Addr → Prop}, (∀ a, T' a → T a) → HSx H T L → HSx H T' L
  | [], _, _, _, _ => trivial
  | _ :: _, _, _, w, ⟨own, s, b, d, p, r⟩ => ⟨own, s, b, fun a t => d a (w a t), p, HSx.weak (fun a t => Or.imp (w a) id t) r⟩
theorem HSx.swap {H : Hp} {A B : SA} {L : List SA} {T : Addr → Prop} : HSx H T (A :: B :: L) → HSx H T (B :: A :: L)
  | ⟨o1, s1, b1, d1, p1, o2, s2, b2, d2, p2, r⟩ =>
    ⟨o2, s2, b2, fun a t => d2 a (.inl t), p2, o1, s1, b1, fun a t => Or.elim t (d1 a) (fun n => by
      cases e : o1 a with
      | none => rfl
      | some u => exact absurd (d2 a (.inr (by rw [e]; exact fun z => nomatch z))) n), p1,
      HSx.weak (fun a t => by
        rcases t with (t | t) | t
        · exact .inl (.inl t)
        · exact .inr t
        · exact .inl (.inr t)) r⟩
theorem HSx.cong {H : Hp} {A : SA} {L L' : List SA} (f : ∀ T, HSx H T L → HSx H T L') {T : Addr → Prop} : HSx H T (A :: L) → HSx H T (A :: L')
  | ⟨own, s, b, d, p, r⟩ => ⟨own, s, b, d, p, f _ r⟩
theorem HSx.drop {H : Hp} {A : SA} {L : List SA} {T : Addr → Prop} : HSx H T (A :: L) → HSx H T L
  | ⟨_, _, _, _, _, r⟩ => HSx.weak (fun _ t => .inl t) r
theorem HSx.imp {H : Hp} {A B : SA} {L : List SA} {T : Addr → Prop} (f : ∀ own, A.p H own → B.p H own) : HSx H T (A :: L) → HSx H T (B :: L)
  | ⟨own, s, b, d, p, r⟩ => ⟨own, s, b, d, f own p, r⟩
/-- the heap changes where nothing of T and of these parts lies -/
theorem HSx.move {H H' : Hp} (K : Keep H H') : ∀ {L : List SA} {T : Addr → Prop}, (∀ a o, ¬ T a → ¬ Cst o → H a = some o → H' a = some o) → HSx H T L → HSx H' T L
  | [], _, _, _ => trivial
  | A :: L, T, f, ⟨own, s, b, d, p, r⟩ => ⟨own, fun a o e => f a o (fun t => by rw [d a t] at e; cases e) (b a o e) (s a o e), b, d, A.mono K p,
      HSx.move K (fun a o n c e => f a o (fun t => n (.inl t)) c e) r⟩
theorem HSx.move0 {H H' : Hp} (K : Keep H H') {L : List SA} {T : Addr → Prop} (f : ∀ a o, ¬ T a → ¬ Cst o → H a = some o → H' a = some o) (h : HSx H T L) : HSx H' T L := HSx.move K f h

/-! ### moving -/
/-- A stands in L, the others are L' -/
inductive Pick : List SA → SA → List SA → Prop
  | here {A L} : Pick (A :: L) A L
  | there {A B L L'} : Pick L A L' → Pick (B :: L) A (B :: L')
theorem Pick.x {H : Hp} {L L' : List SA} {A : SA} (k : Pick L A L') : ∀ {T : Addr → Prop}, HSx H T L → HSx H T (A :: L') := by
  induction k with
  | here => exact fun h => h
  | there _ ih => exact fun h => HSx.swap (HSx.cong (fun _ => ih) h)
/-- what an assertion is about -/
class Key (A : SA) (a : outParam Addr) : Prop where
/-- A, about a, stands in L; the others are L' -/
class Own (L : List SA) (a : Addr) (A : outParam SA) (L' : outParam (List SA)) : Prop where
  pk : Pick L A L'
instance (priority := high) ownHere {A : SA} {L : List SA} {a : Addr} [Key A a] : Own (A :: L) a A L := ⟨.here⟩
instance (priority := low) ownThere {A B : SA} {L L' : List SA} {a : Addr} [o : Own L a A L'] : Own (B :: L) a A (B :: L') := ⟨.there o.pk⟩
theorem HS.pk {H : Hp} {L L' : List SA} {A : SA} (h : HS H L) (k : Pick L A L') : HS H (A :: L') := ⟨k.x h.x⟩
theorem HS.pk2 {H : Hp} {L L1 L2 : List SA} {A B : SA} (h : HS H L) (k : Pick L A L1) (k2 : Pick L1 B L2) : HS H (A :: B :: L2) := ⟨HSx.cong (fun _ => k2.x) (k.x h.x)⟩
theorem HS.pk3 {H : Hp} {L L1 L2 L3 : List SA} {A B C : SA} (h : HS H L) (k : Pick L A L1) (k2 : Pick L1 B L2) (k3 : Pick L2 C L3) : HS H (A :: B :: C :: L3) :=
  ⟨HSx.cong (fun _ => HSx.cong (fun _ => k3.x)) (HSx.cong (fun _ => k2.x) (k.x h.x))⟩
theorem HS.pk4 {H : Hp} {L L1 L2 L3 L4 : List SA} {A B C D : SA} (h : HS H L) (k : Pick L A L1) (k2 : Pick L1 B L2) (k3 : Pick L2 C L3) (k4 : Pick L3 D L4) : HS H (A :: B :: C :: D :: L4) :=
  ⟨HSx.cong (fun _ => HSx.cong (fun _ => HSx.cong (fun _ => k4.x))) (HS.pk3 h k k2 k3).x⟩
theorem HS.drop {H : Hp} {A : SA} {L : List SA} (h : HS H (A :: L)) : HS H L := ⟨HSx.drop h.x⟩
theorem HS.imp {H : Hp} {A B : SA} {L : List SA} (f : ∀ own, A.p H own → B.p H own) (h : HS H (A :: L)) : HS H (B :: L) := ⟨HSx.imp f h.x⟩
theorem HS.nil {H : Hp} : HS H [] := ⟨trivial⟩

/-! ### the plain assertions -/
def sg (a : Addr) (o : HO) : Hp := fun b => if b = a then some o else none
theorem sg_at {a : Addr} {o : HO} : sg a o a = some o := if_pos rfl
theorem sg_ne {a b : Addr} {o : HO} (h : b ≠ a) : sg a o b = none := if_neg h
theorem sg_inv {a b : Addr} {o u : HO} (h : sg a o b = some u) : b = a ∧ u = o := by
  unfold sg at h; split at h
  · exact ⟨‹_›, (Option.some.inj h).symm⟩
  · cases h
def pt (a : Addr) (o : HO) : SA := ⟨fun _ own => own = sg a o, fun _ h => h⟩
def obf (a C dx : Addr) (fs : List (Str × V)) : Hp := fun b => if b = a then some (.ins C dx fs) else if b = dx then some (.own a) else none
def ob (a C : Addr) (fs : List (Str × V)) : SA := ⟨fun _ own => ∃ dx, dx ≠ a ∧ own = obf a C dx fs, fun _ h => h⟩
/-- a fact that stays -/
def Stays (f : Hp → Prop) : Prop := ∀ H H', Keep H H' → f H → f H'
def pf (f : Hp → Prop) (m : Stays f) : SA := ⟨fun H own => own = no ∧ f H, fun k h => ⟨h.1, m _ _ k h.2⟩⟩
theorem stays_tp (a : Addr) (xs : List V) : Stays (fun H => H a = some (.tup xs)) := fun _ _ k h => k _ _ trivial h
def tp (a : Addr) (xs : List V) : SA := pf (fun H => H a = some (.tup xs)) (stays_tp a xs)
/-- a list of the module -/
def SqK (K : PySem.W.Frag) (a : Addr) (xs : List V) : Prop := ∃ (o : Obj) (its : Array Value) (n : Nat), K.lookup a = some o ∧ o.cls = .type "list" ∧ o.dict = none ∧ o.data = .seq its n ∧ its.size ≤ sizeLine ∧ Vals xs its.toList
theorem stays_fz (K : PySem.W.Frag) (a : Addr) (xs : List V) : Stays (fun H => (∃ o, H a = some (.frz o (.lst xs))) ∨ SqK K a xs) := fun _ _ k h => h.imp (fun ⟨o, h⟩ => ⟨o, k _ _ trivial h⟩) id
/-- the script -/
def fz (K : PySem.W.Frag) (a : Addr) (xs : List V) : SA := ⟨fun H own => (own = no ∧ ((∃ o, H a = some (.frz o (.lst xs))) ∨ SqK K a xs)) ∨ own = sg a (.lst xs), fun k h => h.imp (fun ⟨e, q⟩ => ⟨e, stays_fz K a xs _ _ k q⟩) id⟩
def pu (f : Prop) : SA := pf (fun _ => f) (fun _ _ _ h => h)
def exA {α : Type} (f : α → SA) : SA := ⟨fun H own => ∃ x, (f x).p H own, fun k ⟨x, h⟩ => ⟨x, (f x).mono k h⟩⟩
def uni (x y : Hp) : Hp := fun a => match x a with | some o => some o | none => y a
def st (A B : SA) : SA := ⟨fun H own => ∃ x y, own = uni x y ∧ (∀ a, x a = none ∨ y a = none) ∧ A.p H x ∧ B.p H y, fun k ⟨x, y, e, d, p, q⟩ => ⟨x, y, e, d, A.mono k p, B.mono k q⟩⟩

theorem uni_l {x y : Hp} {a : Addr} {o : HO} (h : x a = some o) : uni x y a = some o := by unfold uni; rw [h]
theorem uni_r {x y : Hp} {a : Addr} (h : x a = none) : uni x y a = y a := by unfold uni; rw [h]
theorem uni_none {x y : Hp} {a : Addr} (h : uni x y a = none) : x a = none ∧ y a = none := by
  unfold uni at h; cases e : x a with
  | none => rw [e] at h; exact ⟨rfl, h⟩
  | some u => rw [e] at h; cases h

/-- A itself stands in L -/
class PickI (L : List SA) (A : SA) (R : outParam (List SA)) : Prop where
  pk : Pick L A R
instance (priority := high) pickIHere {A : SA} {L : List SA} : PickI (A :: L) A L := ⟨.here⟩
instance (priority := low) pickIThere {A B : SA} {L R : List SA} [o : PickI L A R] : PickI (B :: L) A (B :: R) := ⟨.there o.pk⟩
/-- from these parts to those: turned about, some left out -/
class Re (L L' : List SA) : Prop where
  reX : ∀ {H : Hp} {T : Addr → Prop}, HSx H T L → HSx H T L'
instance (priority := 2000) reRefl {L : List SA} : Re L L := ⟨fun h => h⟩
instance (priority := 1500) reNil {L : List SA} : Re L [] := ⟨fun _ => trivial⟩
instance (priority := 1000) reCons {L L' R : List SA} {A : SA} [o : PickI L A R] [r : Re R L'] : Re L (A :: L') := ⟨fun h => HSx.cong (fun _ => r.reX) (o.pk.x h)⟩
instance (priority := 500) reDrop {L L' : List SA} {B : SA} [r : Re L L'] : Re (B :: L) L' := ⟨fun h => r.reX h.drop⟩
theorem HS.re {H : Hp} {L L' : List SA} [r : Re L L'] (h : HS H L) : HS H L' := ⟨r.reX h.x⟩
instance {a : Addr} {o : HO} : Key (pt a o) a := ⟨⟩
instance {a C : Addr} {fs : List (Str × V)} : Key (ob a C fs) a := ⟨⟩
instance {a : Addr} {xs : List V} : Key (tp a xs) a := ⟨⟩
instance {K : PySem.W.Frag} {a : Addr} {xs : List V} : Key (fz K a xs) a := ⟨⟩
section
variable {H : Hp} {L L' : List SA} {A B : SA} {a p C dx : Addr} {o o' : HO} {fs fs' : List (Str × V)} {f : Hp → Prop} {m : Stays f}
theorem HS.fact (h : HS H (pf f m :: L)) : f H := let ⟨_, _, _, _, q, _⟩ := h.x; q.2
theorem HS.add (h : HS H L) (q : f H) : HS H (pf f m :: L) := by
  refine ⟨no, fun _ _ e => ?_, fun _ _ e => ?_, fun _ _ => rfl, ⟨rfl, q⟩, HSx.weak (fun a t => ?_) h.x⟩
  · cases e
  · cases e
  · rcases t with t | t
    · exact t
    · exact (t rfl).elim
theorem HS.dup (h : HS H (pf f m :: L)) : HS H (pf f m :: pf f m :: L) := h.add h.fact
theorem HS.get (h : HS H (pt a o :: L)) : H a = some o := by
  obtain ⟨own, s, _, _, e, _⟩ := h.x
  have e' : own = sg a o := e
  subst e'; exact s _ _ sg_at
theorem HS.bare (h : HS H (pt a o :: L)) : ¬ Cst o := by
  obtain ⟨own, _, b, _, e, _⟩ := h.x
  have e' : own = sg a o := e
  subst e'; exact b _ _ sg_at
theorem HS.ins (h : HS H (ob a C fs :: L)) : ∃ dx, H a = some (.ins C dx fs) := by
  obtain ⟨own, s, _, _, ⟨dx, _, e⟩, _⟩ := h.x
  subst e; exact ⟨dx, s a _ (if_pos rfl)⟩
/-- a new object -/
theorem HS.new (h : HS H L) (hp : H p = none) (n : ¬ Cst o) : HS (upd H p o) (pt p o :: L) := by
  refine ⟨sg p o, fun b u e => ?_, fun b u e => ?_, fun _ t => False.elim t, rfl, ?_⟩
  · obtain ⟨rfl, rfl⟩ := sg_inv e; exact upd_same
  · obtain ⟨_, rfl⟩ := sg_inv e; exact n
  · have aux : ∀ {L : List SA} {T : Addr → Prop}, HSx H T L → HSx H (fun b => T b ∨ sg p o b ≠ none) L := by
      intro L
      induction L with
      | nil => intro T h; trivial
      | cons A L ih =>
        rintro T ⟨own, s, b, d, q, r⟩
        refine ⟨own, s, b, fun c t => Or.elim t (d c) fun t => ?_, q, HSx.weak ?_ (ih r)⟩
        · cases e : own c with
          | none => rfl
          | some u =>
            have hc : c = p := by
              unfold sg at t; split at t
              · assumption
              · exact absurd rfl t
            rw [hc] at e; rw [s _ _ e] at hp; cases hp
        · rintro c ((t | t) | t)
          · exact .inl (.inl t)
          · exact .inr t
          · exact .inl (.inr t)
    refine HSx.move (Keep.new hp) (fun b u nt _ e => ?_) (aux h.x)
    rw [upd_ne (ne_of_none e hp)]; exact e
/-- a new object that stays -/
theorem HS.newT {xs : List V} (h : HS H L) (hp : H p = none) : HS (upd H p (.tup xs)) (tp p xs :: L) := by
  refine HS.add ⟨HSx.move (Keep.new hp) (fun b u _ _ e => ?_) h.x⟩ upd_same
  rw [upd_ne (ne_of_none e hp)]; exact e
/-- an object is written -/
theorem HS.put (h : HS H (pt a o :: L)) (n : ¬ Cst o') : HS (upd H a o') (pt a o' :: L) := by
  have hg := h.get
  have hb := h.bare
  obtain ⟨own, s, b, d, e, r⟩ := h.x
  have e' : own = sg a o := e
  subst e'
  refine ⟨sg a o', fun b u e => ?_, fun b u e => ?_, fun _ t => False.elim t, rfl, ?_⟩
  · obtain ⟨rfl, rfl⟩ := sg_inv e; exact upd_same
  · obtain ⟨_, rfl⟩ := sg_inv e; exact n
  · refine HSx.move (Keep.put hg hb) (fun c u nt _ e => ?_) (HSx.weak (fun c t => ?_) r)
    · have : c ≠ a := fun z => nt (.inr (by rw [z, sg_at]; exact fun q => nomatch q))
      rw [upd_ne this]; exact e
    · refine Or.imp id (fun t => ?_) t
      have hc : c = a := by
        unfold sg at t; split at t
        · assumption
        · exact absurd rfl t
      rw [hc, sg_at]; exact fun q => nomatch q
theorem obf_inv {b : Addr} {u : HO} (h : obf a C dx fs b = some u) : (b = a ∧ u = .ins C dx fs) ∨ (b = dx ∧ u = .own a) := by
  unfold obf at h; split at h
  · exact .inl ⟨‹_›, (Option.some.inj h).symm⟩
  · split at h
    · exact .inr ⟨‹_›, (Option.some.inj h).symm⟩
    · cases h
theorem obf_at {b : Addr} (h : obf a C dx fs b ≠ none) : b = a ∨ b = dx := by
  cases e : obf a C dx fs b with
  | none => exact absurd e h
  | some u => exact (obf_inv e).imp And.left And.left
theorem obf_a : obf a C dx fs a = some (.ins C dx fs) := if_pos rfl
theorem obf_d (h : dx ≠ a) : obf a C dx fs dx = some (.own a) := by unfold obf; rw [if_neg h, if_pos rfl]
/-- a field is written -/
theorem HS.fld (h : HS H (ob a C fs :: L)) (g : H a = some (.ins C dx fs)) : HS (upd H a (.ins C dx fs')) (ob a C fs' :: L) := by
  obtain ⟨own, s, b, d, ⟨dx', ne, e⟩, r⟩ := h.x
  subst e
  have ed : dx' = dx := by have := s a _ obf_a; rw [g] at this; cases this; rfl
  subst ed
  refine ⟨obf a C dx' fs', fun c u e => ?_, fun c u e => ?_, fun _ t => False.elim t, ⟨dx', ne, rfl⟩, ?_⟩
  · rcases obf_inv e with ⟨rfl, rfl⟩ | ⟨rfl, rfl⟩
    · exact upd_same
    · rw [upd_ne ne]; exact s _ _ (obf_d ne)
  · rcases obf_inv e with ⟨_, rfl⟩ | ⟨_, rfl⟩ <;> exact id
  · refine HSx.move (Keep.put g id) (fun c u nt _ e => ?_) (HSx.weak (fun c t => ?_) r)
    · have : c ≠ a := fun z => nt (.inr (by rw [z, obf_a]; exact fun q => nomatch q))
      rw [upd_ne this]; exact e
    · refine Or.imp id (fun t => ?_) t
      rcases obf_at t with rfl | rfl
      · rw [obf_a]; exact fun q => nomatch q
      · rw [obf_d ne]; exact fun q => nomatch q
theorem HS.st_in (h : HS H (st A B :: L)) : HS H (A :: B :: L) := by
  obtain ⟨own, s, b, d, ⟨x, y, e, dj, pa, pb⟩, r⟩ := h.x
  subst e
  refine ⟨x, fun c u e => s c u (uni_l e), fun c u e => b c u (uni_l e), fun _ t => False.elim t, pa, y, fun c u e => ?_, fun c u e => ?_, fun c t => ?_, pb, HSx.weak ?_ r⟩
  · have hx : x c = none := (dj c).resolve_right fun z => by rw [z] at e; cases e
    exact s c u (by rw [uni_r hx]; exact e)
  · have hx : x c = none := (dj c).resolve_right fun z => by rw [z] at e; cases e
    exact b c u (by rw [uni_r hx]; exact e)
  · exact Or.elim t (fun t => False.elim t) fun t => (dj c).resolve_left t
  · rintro c ((t | t) | t)
    · exact False.elim t
    · exact .inr fun z => t (uni_none z).1
    · exact .inr fun z => t (uni_none z).2
theorem HS.st_out (h : HS H (A :: B :: L)) : HS H (st A B :: L) := by
  obtain ⟨x, sx, bx, _, pa, y, sy, by', dy, pb, r⟩ := h.x
  have dj : ∀ a, x a = none ∨ y a = none := fun a => by
    cases e : x a with
    | none => exact .inl rfl
    | some u => exact .inr (dy a (.inr (by rw [e]; exact fun z => nomatch z)))
  refine ⟨uni x y, fun c u e => ?_, fun c u e => ?_, fun _ t => False.elim t, ⟨x, y, rfl, dj, pa, pb⟩, HSx.weak ?_ r⟩
  · cases q : x c with
    | none => rw [uni_r q] at e; exact sy c u e
    | some v => rw [uni_l q] at e; cases e; exact sx c _ q
  · cases q : x c with
    | none => rw [uni_r q] at e; exact by' c u e
    | some v => rw [uni_l q] at e; cases e; exact bx c _ q
  · rintro c (t | t)
    · exact False.elim t
    · cases q : x c with
      | none => rw [uni_r q] at t; exact .inr t
      | some v => exact .inl (.inr (by rw [q]; exact fun z => nomatch z))
theorem HS.ex_in {α : Type} {g : α → SA} (h : HS H (exA g :: L)) : ∃ x, HS H (g x :: L) := by
  obtain ⟨own, s, b, d, ⟨x, e⟩, r⟩ := h.x
  exact ⟨x, ⟨own, s, b, d, e, r⟩⟩
theorem HS.ex_out {α : Type} {g : α → SA} (x : α) (h : HS H (g x :: L)) : HS H (exA g :: L) := by
  obtain ⟨own, s, b, d, e, r⟩ := h.x
  exact ⟨own, s, b, d, ⟨x, e⟩, r⟩
/-- a new instance -/
theorem HS.make {x : Addr} (h : HS H L) (hx : H x = none) (hd : H dx = none) (ne : dx ≠ x) : HS (upd (upd H dx (.own x)) x (.ins C dx [])) (ob x C [] :: L) := by
  have h1 := h.new (o := .own x) hd id
  have hx' : (upd H dx (.own x)) x = none := by rw [upd_ne ne.symm]; exact hx
  have h2 := h1.new (o := .ins C dx []) hx' id
  obtain ⟨x1, sx, bx, _, pa, y, sy, by', dy, pb, r⟩ := h2.x
  have ex : x1 = sg x (.ins C dx []) := pa
  have ey : y = sg dx (.own x) := pb
  subst ex; subst ey
  refine ⟨obf x C dx [], fun c u e => ?_, fun c u e => ?_, fun _ t => False.elim t, ⟨dx, ne, rfl⟩, HSx.weak ?_ r⟩
  · rcases obf_inv e with ⟨rfl, rfl⟩ | ⟨rfl, rfl⟩
    · exact sx _ _ sg_at
    · exact sy _ _ sg_at
  · rcases obf_inv e with ⟨_, rfl⟩ | ⟨_, rfl⟩ <;> exact id
  · rintro c (t | t)
    · exact False.elim t
    · rcases obf_at t with rfl | rfl
      · exact .inl (.inr (by rw [sg_at]; exact fun q => nomatch q))
      · exact .inr (by rw [sg_at]; exact fun q => nomatch q)
end
end G

/-! Rules for values of any kind, callees in bundles, readings step by step. -/
namespace G
open PySem L2

/-! ### callees -/
structure Cal (P : Program) (w : World) (K : PySem.W.Frag) (mg : Str → Option Value) (base : Heap) (C : CXT) (k : Nat) (x : Str) (ps : List Str) (sp : Sp) : Prop where
  ex : ∃ f fd, mg x = some (.ref f) ∧ PySem.W.keepIn K (.ref f) = true ∧ Binds K fd ps [] ∧ FnOk P w K mg base C k f fd ps sp
structure CalM (P : Program) (w : World) (K : PySem.W.Frag) (mg : Str → Option Value) (base : Heap) (C : CXT) (k : Nat) (a : Addr) (m : Str) (ps : List Str) (sp : Sp) : Prop where
  ex : ∃ f fd, Meth K a m f ∧ Binds K fd ps [] ∧ FnOk P w K mg base C k f fd ps sp
structure CalC (P : Program) (w : World) (K : PySem.W.Frag) (mg : Str → Option Value) (base : Heap) (C : CXT) (k : Nat) (a : Addr) (x : Str) (ps : List Str) (sp : Sp) : Prop where
  ex : ∃ f fd, Mk K a f ∧ mg x = some (.ref a) ∧ Binds K fd ps [] ∧ FnOk P w K mg base C k f fd ps sp
section
variable {X : Cx} {C : CXT} {k : Nat} {a : Addr} {ps : List Str} {sp : Sp} {E : XK} {x m : Str} {p pos apos : Pos} {e o : Expr} {es : List Expr} {ta : TE} {t : TA}
theorem pe_cal (c : Cal X.prog X.w X.K X.mg X.base C k x ps sp) (hr : Room k X.A) (hg : Gl X x) (hx : Passes C X E)
    (ha : PA X (e :: es) t) (hdb : (x == ("__debug__" : Str)) = false := by decide) (he : starEach (e :: es) X.env = (false, eval e X.env) :: starEach es X.env := by rfl) (hpl : (backTo pos (starEach es X.env)).any (·.1) = false := by rfl) :
    PE X (.Call (.Name x p) (e :: es) [] pos) (tCall sp [] E t) := by
  obtain ⟨f, fd, h1, h2, h3, h4⟩ := c.ex
  exact pe_call h4 hr hg h1 h2 h3 .nil hx ha hdb he hpl
theorem pe_cal0 (c : Cal X.prog X.w X.K X.mg X.base C k x ps sp) (hr : Room k X.A) (hg : Gl X x) (hx : Passes C X E) (hdb : (x == ("__debug__" : Str)) = false := by decide) :
    PE X (.Call (.Name x p) [] [] pos) (tCall sp [] E tNil) := by
  obtain ⟨f, fd, h1, h2, h3, h4⟩ := c.ex
  exact pe_call0 h4 hr hg h1 h2 h3 .nil hx hdb
theorem pe_calM {pl : Sem Bool} (he : PE X o ta) (cl : Cls X.K a) (c : CalM X.prog X.w X.K X.mg X.base C k a m ps sp) (hr : Room k X.A) (hx : Passes C X E) (ha : PA X (e :: es) t)
    (hst : starEach (e :: es) X.env = (false, eval e X.env) :: starEach es X.env := by rfl) (hpl : (backTo pos (starEach es X.env)).any (·.1) = false := by rfl)
    (ht : eval (.Call (.Attribute o m apos) (e :: es) [] pos) X.env = (do
      let ov ← eval o X.env
      standAt apos.atName
      let (f, first) ← holding [ov] (getMethod ov m pl)
      callWith pos f first (backTo pos (starEach (e :: es) X.env)) (backToKw pos (keywordEach [] X.env))) := by rfl) :
    PE X (.Call (.Attribute o m apos) (e :: es) [] pos) (tMeth a m sp [] E ta t) := by
  obtain ⟨f, fd, h1, h3, h4⟩ := c.ex
  exact pe_meth he cl h1 h4 hr h3 .nil hx ha hst hpl ht
theorem pe_calM0 {pl : Sem Bool} (he : PE X o ta) (cl : Cls X.K a) (c : CalM X.prog X.w X.K X.mg X.base C k a m ps sp) (hr : Room k X.A) (hx : Passes C X E)
    (ht : eval (.Call (.Attribute o m apos) [] [] pos) X.env = (do
      let ov ← eval o X.env
      standAt apos.atName
      let (f, first) ← holding [ov] (getMethod ov m pl)
      callWith pos f first (backTo pos (starEach [] X.env)) (backToKw pos (keywordEach [] X.env))) := by rfl) :
    PE X (.Call (.Attribute o m apos) [] [] pos) (tMeth a m sp [] E ta tNil) := by
  obtain ⟨f, fd, h1, h3, h4⟩ := c.ex
  exact pe_meth0 he cl h1 h4 hr h3 .nil hx ht
theorem pe_calC (c : CalC X.prog X.w X.K X.mg X.base C k a x ps sp) (hr : Room (k + 1) X.A) (hg : Gl X x) (hx : Passes C X E) (ha : PA X (e :: es) t)
    (hdb : (x == ("__debug__" : Str)) = false := by decide) (he : starEach (e :: es) X.env = (false, eval e X.env) :: starEach es X.env := by rfl) (hpl : (backTo pos (starEach es X.env)).any (·.1) = false := by rfl) :
    PE X (.Call (.Name x p) (e :: es) [] pos) (tMake a sp [] E t) := by
  obtain ⟨f, fd, h1, h2, h3, h4⟩ := c.ex
  exact pe_make h1 h4 hr hg h2 h3 .nil hx ha hdb he hpl

/-! ### either of two rules -/
theorem PE.or {e : Expr} {t u : TE} (h : PE X e t) (h' : PE X e u) : PE X e (fun σ H Q => t σ H Q ∨ u σ H Q) := ⟨fun pins s σ H Q I q => q.elim (h.run pins s σ H Q I) (h'.run pins s σ H Q I)⟩
def tOr2 (t u : TE) : TE := fun σ H Q => t σ H Q ∨ u σ H Q
theorem pe_or2 {e : Expr} {t u : TE} (h : PE X e t) (h' : PE X e u) : PE X e (tOr2 t u) := PE.or h h'
def iOr (t u : TI) : TI := fun σ H R => t σ H R ∨ u σ H R
theorem pi_or {tg e : Expr} {t u : TI} (h : PI X tg e t) (h' : PI X tg e u) : PI X tg e (iOr t u) := ⟨fun pins s σ H R I q => q.elim (h.run pins s σ H R I) (h'.run pins s σ H R I)⟩
/-- a for over a list, a tuple, a text -/
def iAny (K : PySem.W.Frag) (te : TE) : TI := iOr (iList K te) (iOr (iTup K te) (iStr te))
theorem pi_any {tg e : Expr} {te : TE} (h : PE X e te) : PI X tg e (iAny X.K te) := pi_or (pi_list h) (pi_or (pi_tup h) (pi_str h))
end

/-! ### operators -/
section
variable {X : Cx}
def rAddS : R2 := fun x y H Q => ∃ i j, x = .str i ∧ y = .str j ∧ i.length + j.length ≤ sizeLine ∧ Q (.str (i ++ j)) H
def rAddI : R2 := rI0 fun i j => .int (i + j)
def rAdd (K : PySem.W.Frag) : R2 := fun x y H Q => rAddI x y H Q ∨ (rAddS x y H Q ∨ (rCat x y H Q ∨ rCatA K x y H Q))
theorem op_addG : OpR X (binaryOp .Add) (rAdd X.K) := OpR.or (r := rAddI) op_add (OpR.or (r := rAddS) op_add_str (op_cat.or op_catA))
def rSubI : R2 := rI0 fun i j => .int (i - j)
theorem op_subG : OpR X (binaryOp .Sub) rSubI := op_sub
def rMulS : R2 := fun x y H Q => ∃ z n, x = .str z ∧ y = .int n ∧ PySem.MulOk z n ∧ Q (.str (Txt.mul z n)) H
theorem op_mulS : OpR X (binaryOp .Mult) rMulS := by
  intro pins s σ H x y v u Q I rx ry h
  obtain ⟨z, n, rfl, rfl, hz, q⟩ := h
  obtain ⟨t, rfl⟩ := rx
  obtain ⟨t', rfl⟩ := ry
  exact SB.mul hz fun t' k => ⟨.str _, H, I.tok k, ⟨_, rfl⟩, q⟩
def rMulI : R2 := rI CMulX fun i j => .int (i * j)
def rMul : R2 := fun x y H Q => rMulI x y H Q ∨ (rRep x y H Q ∨ rMulS x y H Q)
theorem op_mulG : OpR X (binaryOp .Mult) rMul := OpR.or (r := rMulI) op_mulX (op_rep.or op_mulS)
def rDivI : R2 := rI CDivW fun i j => .int (i / j)
theorem op_divG : OpR X (binaryOp .FloorDiv) rDivI := op_fdivW
def rModI : R2 := rI (fun _ j => 0 < j) fun i j => .int (i % j)
theorem op_modG : OpR X (binaryOp .Mod) rModI := op_mod
def rShlI : R2 := rI CShl fun i j => .int (i * 2 ^ j.toNat)
theorem op_shlG : OpR X (binaryOp .LShift) rShlI := op_shlW
def rShrI : R2 := rI (fun _ j => 0 ≤ j) fun i j => .int (i / 2 ^ j.toNat)
theorem op_shrG : OpR X (binaryOp .RShift) rShrI := op_shr
def rPowI : R2 := rI CPow fun i j => .int (i ^ j.toNat)
theorem op_powG : OpR X (binaryOp .Pow) rPowI := op_pow
def rAndI : R2 := rI0 fun i j => .int (Builtin.bitAnd i j)
theorem op_andG : OpR X (binaryOp .BitAnd) rAndI := op_and
def rEqG (K : PySem.W.Frag) : R2 := fun x y H Q => rEq x y H Q ∨ rEqD K x y H Q
theorem op_eqG (hu : X.A.units + 64 < cLine) : OpR X (compareOp .Eq) (rEqG X.K) := op_eq.or (op_eqD hu)
def rNeG (K : PySem.W.Frag) : R2 := fun x y H Q => rNe x y H Q ∨ rNeD K x y H Q
theorem op_neG (hu : X.A.units + 64 < cLine) : OpR X (compareOp .NotEq) (rNeG X.K) := op_ne.or (op_neD hu)
def rLtI : R2 := rI0 fun i j => .bl (decide (i < j))
def rLtS : R2 := fun x y H Q => ∃ i j, x = .str i ∧ y = .str j ∧ Q (.bl (decide (i.cps.toList < j.cps.toList))) H
def rLtG : R2 := fun x y H Q => rLtI x y H Q ∨ rLtS x y H Q
theorem op_ltG : OpR X (compareOp .Lt) rLtG := OpR.or (r := rLtI) (r' := rLtS) op_lt op_lt_str
def rLeI : R2 := rI0 fun i j => .bl (decide (i ≤ j))
theorem op_leG : OpR X (compareOp .LtE) rLeI := op_le
def rGtI : R2 := rI0 fun i j => .bl (decide (j < i))
theorem op_gtG : OpR X (compareOp .Gt) rGtI := op_gt
def rGeI : R2 := rI0 fun i j => .bl (decide (j ≤ i))
theorem op_geG : OpR X (compareOp .GtE) rGeI := op_ge
def rIsNo : R2 := fun x y H Q => y = .non ∧ Q (.bl (decide (x = .non))) H
theorem op_isG : OpR X (compareOp .Is) rIsNo := op_isN
def rIsNot : R2 := fun x y H Q => y = .non ∧ Q (.bl (!decide (x = .non))) H
theorem op_isNotG : OpR X (compareOp .IsNot) rIsNot := op_notN
def rInC : R2 := fun x y H Q => ∃ (c : Nat) (z : Str), x = .str ⟨#[c]⟩ ∧ y = .str z ∧ Q (.bl (decide (c ∈ z.cps.toList))) H
def rInG (K : PySem.W.Frag) : R2 := fun x y H Q => rInC x y H Q ∨ rIn K false x y H Q
theorem op_inG : OpR X (compareOp .In) (rInG X.K) := OpR.or (r := rInC) op_in_sign op_in_seq
def rNotInC : R2 := fun x y H Q => ∃ (c : Nat) (z : Str), x = .str ⟨#[c]⟩ ∧ y = .str z ∧ Q (.bl (!decide (c ∈ z.cps.toList))) H
def rNotInG (K : PySem.W.Frag) : R2 := fun x y H Q => rNotInC x y H Q ∨ rIn K true x y H Q
theorem op_notInG : OpR X (compareOp .NotIn) (rNotInG X.K) := OpR.or (r := rNotInC) op_notIn_sign op_notIn_seq
def rLenG (K : PySem.W.Frag) : List V → Hp → VK → Prop := fun xs H Q => ∃ x n, xs = [x] ∧ LenV K x H n ∧ Q (.int n) H
theorem call_lenG : CallR X (.builtin "len") (rLenG X.K) := call_len
def rListOf (K : PySem.W.Frag) : List V → Hp → VK → Prop := fun xs H Q => ∃ p ys, xs = [.ref p] ∧ (SqL K H p ys ∨ SqT K H p ys) ∧ ∀ l, H l = none → Q (.ref l) (upd H l (.lst ys))
theorem call_listG : CallR X (.type "list") (rListOf X.K) := call_list_of
def rTupOf (K : PySem.W.Frag) : List V → Hp → VK → Prop := fun xs H Q => ∃ p ys, xs = [.ref p] ∧ ((SqL K H p ys ∧ ∀ l, H l = none → Q (.ref l) (upd H l (.tup ys))) ∨ (SqT K H p ys ∧ Q (.ref p) H))
theorem call_tupG : CallR X (.type "tuple") (rTupOf X.K) := call_tuple_of
def rIntOf : List V → Hp → VK → Prop := fun xs H Q => (∃ i, xs = [.int i] ∧ Q (.int i) H) ∨ ∃ k, xs = [.bl k] ∧ Q (.int (if k then 1 else 0)) H
def rIntS : List V → Hp → VK → Prop := fun xs H Q => ∃ a n, xs = [.str a] ∧ PySem.intText? a = some n ∧ a.length ≤ 640 ∧ Q (.int n) H
def rIntG : List V → Hp → VK → Prop := fun xs H Q => rIntOf xs H Q ∨ rIntS xs H Q
theorem call_intG : CallR X (.type "int") rIntG := CallR.or (r := rIntOf) (r' := rIntS) call_int1 call_int_str
def rStrI : List V → Hp → VK → Prop := fun xs H Q => ∃ i, xs = [.int i] ∧ i.natAbs.log2 < 1920 ∧ Q (.str (toString i)) H
theorem call_strI : CallR X (.type "str") rStrI := call_str_int
def rIsiG (K : PySem.W.Frag) : List V → Hp → VK → Prop := fun xs H Q => rIsi K xs H Q ∨ (rIsiT K xs H Q ∨ rIsiK K xs H Q)
theorem call_isiG : CallR X (.builtin "isinstance") (rIsiG X.K) := call_isi.or (call_isiT.or call_isiK)
def rMin2 : List V → Hp → VK → Prop := fun xs H Q => ∃ i j, xs = [.int i, .int j] ∧ Q (.int (if j < i then j else i)) H
def rMinG (K : PySem.W.Frag) : List V → Hp → VK → Prop := fun xs H Q => rMin2 xs H Q ∨ rMin K xs H Q
theorem call_minG (hc : X.calm = true) : CallR X (.builtin "min") (rMinG X.K) := CallR.or (r := rMin2) (call_min2 hc) (cr_min hc)
def rMax2 : List V → Hp → VK → Prop := fun xs H Q => ∃ i j, xs = [.int i, .int j] ∧ Q (.int (if j > i then j else i)) H
def rMaxG (K : PySem.W.Frag) : List V → Hp → VK → Prop := fun xs H Q => rMax2 xs H Q ∨ rMax K xs H Q
theorem call_maxG (hc : X.calm = true) : CallR X (.builtin "max") (rMaxG X.K) := CallR.or (r := rMax2) (call_max2 hc) (cr_max hc)
/-- subscripts: a list, a tuple, a text -/
def rSlG (K : PySem.W.Frag) : V → Option Int → Option Int → Hp → VK → Prop := fun x lo hi H Q => rSlL K x lo hi H Q ∨ (rSlA K x lo hi H Q ∨ rSlS x lo hi H Q)
theorem sl_any : SlR X (rSlG X.K) := sl_list.or (sl_tupA.or sl_str)
end

/-- a list may be read -/
class RdL (K : PySem.W.Frag) (L : List SA) (p : Addr) (xs : outParam (List V)) : Prop where
  sq : ∀ {H : Hp}, HS H L → SqL K H p xs
instance {K : PySem.W.Frag} {L L' : List SA} {p : Addr} {xs : List V} [o : Own L p (pt p (.lst xs)) L'] : RdL K L p xs := ⟨fun hs => .inl (.inl (hs.pk o.pk).get)⟩
theorem HS.fz_sq {K : PySem.W.Frag} {H : Hp} {L : List SA} {p : Addr} {xs : List V} (h : HS H (fz K p xs :: L)) : SqL K H p xs := by
  obtain ⟨own, s, _, _, q, _⟩ := h.x
  rcases q with ⟨_, q⟩ | q
  · exact q.elim (fun ⟨u, e⟩ => .inl (.inr ⟨u, e⟩)) .inr
  · have q : own = sg p (.lst xs) := q
    subst q
    exact .inl (.inl (s _ _ sg_at))
instance {K : PySem.W.Frag} {L L' : List SA} {p : Addr} {xs : List V} [o : Own L p (fz K p xs) L'] : RdL K L p xs := ⟨fun hs => (hs.pk o.pk).fz_sq⟩
/-- a tuple may be read -/
class RdT (K : PySem.W.Frag) (L : List SA) (p : Addr) (xs : outParam (List V)) : Prop where
  sq : ∀ {H : Hp}, HS H L → SqT K H p xs
instance {K : PySem.W.Frag} {L L' : List SA} {p : Addr} {xs : List V} [o : Own L p (tp p xs) L'] : RdT K L p xs := ⟨fun hs => .inl (.inl (hs.pk o.pk).fact)⟩
/-- a slot's value; the slots behind a store -/
class SlV (σ : L2.St) (n : Nat) (v : outParam V) : Prop where
  e : σ[n]? = some (some v)
instance slv0 {σ : L2.St} {v : V} : SlV (some v :: σ) 0 v := ⟨rfl⟩
instance slv1 {σ : L2.St} {x : Option V} {n : Nat} {v : V} [h : SlV σ n v] : SlV (x :: σ) (n + 1) v := ⟨h.e⟩
class SetV (σ : L2.St) (n : Nat) (v : V) (σ' : outParam L2.St) : Prop where
  e : σ.set n (some v) = σ'
instance setv0 {σ : L2.St} {x : Option V} {v : V} : SetV (x :: σ) 0 v (some v :: σ) := ⟨rfl⟩
instance setv1 {σ σ' : L2.St} {x : Option V} {n : Nat} {v : V} [h : SetV σ n v σ'] : SetV (x :: σ) (n + 1) v (x :: σ') := ⟨congrArg (x :: ·) h.e⟩

/-! ### readings, step by step -/
section
variable {K : PySem.W.Frag} {σ : L2.St} {H : Hp} {Q : VK} {D : Ends} {L L' : List SA} {v x y : V} {i j : Int} {te ta tb tc : TE} {t u : TS} {g : TG} {n : Nat} {p q a C : Addr} {xs ys : List V} {fs : List (Str × V)} {f : Str}
theorem s_seq (h : t { D with nx := u D } σ H) : tSeq t u D σ H := h
theorem s_asg (h : te σ H fun x H1 => g x σ H1 D.nx) : tAsg te g D σ H := h
theorem s_name {N : L2.St → Hp → Prop} (h : N (σ.set n (some v)) H) : gName n v σ H N := h
theorem s_nameV {N : L2.St → Hp → Prop} {σ' : L2.St} [e : SetV σ n v σ'] (h : N σ' H) : gName n v σ H N := by rw [← e.e] at h; exact h
theorem s_varV [e : SlV σ n v] (h : Q v H) : tVar n σ H Q := ⟨v, e.e, h⟩
theorem s_var (e : σ[n]? = some (some v)) (h : Q v H) : tVar n σ H Q := ⟨v, e, h⟩
theorem s_c (h : Q v H) : tC v σ H Q := h
theorem s_op {r : R2} (h : ta σ H fun x H1 => tb σ H1 fun y H2 => r x y H2 Q) : tOp r ta tb σ H Q := h
theorem s_drop (h : te σ H fun _ H1 => D.nx σ H1) : tDrop te D σ H := h
theorem s_ret (h : te σ H D.rt) : tRet te D σ H := h
theorem s_retN (h : D.rt .non H) : tRetN D σ H := h
theorem s_next (h : D.nx σ H) : tNext D σ H := h
theorem s_if {c : TT} (h : c σ H fun b H1 => if b = true then t D σ H1 else u D σ H1) : tIfS c t u D σ H := h
theorem s_ife {c : TT} (h : c σ H fun b H1 => if b = true then ta σ H1 Q else tb σ H1 Q) : tIf c ta tb σ H Q := h
def tstK (x : V) (H : Hp) (Q : Bool → Hp → Prop) : Prop := ∃ k, x = .bl k ∧ Q k H
theorem s_test {Q : Bool → Hp → Prop} (h : te σ H fun x H1 => tstK x H1 Q) : tTest te σ H Q := h
theorem s_tB {Q : Bool → Hp → Prop} (h : te σ H fun x H1 => tstK x H1 Q) : tB te σ H Q := h
theorem s_tst {k : Bool} {Q : Bool → Hp → Prop} (h : Q k H) : tstK (.bl k) H Q := ⟨k, rfl, h⟩
theorem s_not {c : TT} {Q : Bool → Hp → Prop} (h : c σ H fun b H1 => Q (!b) H1) : tNot c σ H Q := h
theorem s_and {c d : TT} {Q : Bool → Hp → Prop} (h : c σ H fun b H1 => if b = true then d σ H1 Q else Q false H1) : tAnd c d σ H Q := h
theorem s_or {c d : TT} {Q : Bool → Hp → Prop} (h : c σ H fun b H1 => if b = true then Q true H1 else d σ H1 Q) : tOr c d σ H Q := h
def andK (tb : TE) (σ : L2.St) (Q : VK) (x : V) (H1 : Hp) : Prop := ∃ c, x = .bl c ∧ if c = true then tb σ H1 Q else Q (.bl false) H1
def orK (tb : TE) (σ : L2.St) (Q : VK) (x : V) (H1 : Hp) : Prop := ∃ c, x = .bl c ∧ if c = true then Q (.bl true) H1 else tb σ H1 Q
theorem s_andV (h : ta σ H fun x H1 => andK tb σ Q x H1) : tAndV ta tb σ H Q := h
theorem s_orV (h : ta σ H fun x H1 => orK tb σ Q x H1) : tOrV ta tb σ H Q := h
theorem s_andK {b : Bool} (h : if b = true then tb σ H Q else Q (.bl false) H) : andK tb σ Q (.bl b) H := ⟨b, rfl, h⟩
theorem s_orK {b : Bool} (h : if b = true then Q (.bl true) H else tb σ H Q) : orK tb σ Q (.bl b) H := ⟨b, rfl, h⟩
def notK (Q : VK) (x : V) (H1 : Hp) : Prop := ∃ c, x = .bl c ∧ Q (.bl (!c)) H1
theorem s_notV (h : ta σ H fun x H1 => notK Q x H1) : tNotV ta σ H Q := h
theorem s_notK {b : Bool} (h : Q (.bl (!b)) H) : notK Q (.bl b) H := ⟨b, rfl, h⟩
theorem s_nil {Q : List V → Hp → Prop} (h : Q [] H) : tNil σ H Q := h
theorem s_cons {tr : TA} {Q : List V → Hp → Prop} (h : ta σ H fun x H1 => tr σ H1 fun xs H2 => Q (x :: xs) H2) : tCons ta tr σ H Q := h
theorem s_cb {r : List V → Hp → VK → Prop} {t : TA} (h : t σ H fun vs H1 => r vs H1 Q) : tCB r t σ H Q := h
theorem s_call {sp : Sp} {E : XK} {t : TA} (h : t σ H fun vs H1 => sp (vs ++ []) H1 Q E) : tCall sp [] E t σ H Q := h
/-- known, unknown tests -/
theorem i_t {A B : Prop} (h : A) : if true = true then A else B := by rw [if_pos rfl]; exact h
theorem i_f {A B : Prop} (h : B) : if false = true then A else B := by rw [if_neg Bool.false_ne_true]; exact h
theorem i_nf {A B : Prop} (h : A) : if (!false) = true then A else B := i_t h
theorem i_nt {A B : Prop} (h : B) : if (!true) = true then A else B := i_f h
theorem i_d {P A B : Prop} {_ : Decidable P} (h1 : P → A) (h2 : ¬ P → B) : if decide P = true then A else B := by
  by_cases h : P
  · rw [if_pos (decide_eq_true h)]; exact h1 h
  · rw [if_neg (by rw [decide_eq_false h]; exact Bool.false_ne_true)]; exact h2 h
theorem i_nd {P A B : Prop} {_ : Decidable P} (h1 : ¬ P → A) (h2 : P → B) : if (!decide P) = true then A else B := by
  by_cases h : P
  · rw [if_neg (by rw [decide_eq_true h]; exact Bool.false_ne_true)]; exact h2 h
  · rw [if_pos (by rw [decide_eq_false h]; rfl)]; exact h1 h
theorem i_b {b : Bool} {A B : Prop} (h1 : b = true → A) (h2 : b = false → B) : if b = true then A else B := by
  cases b with
  | true => exact i_t (h1 rfl)
  | false => exact i_f (h2 rfl)
theorem i_y {P A B : Prop} {_ : Decidable P} (c : P) (h : A) : if decide P = true then A else B := i_d (fun _ => h) (fun n => absurd c n)
theorem i_n {P A B : Prop} {_ : Decidable P} (c : ¬ P) (h : B) : if decide P = true then A else B := i_d (fun n => absurd n c) (fun _ => h)
/-- ints -/
theorem s_add (h : Q (.int (i + j)) H) : rAdd K (.int i) (.int j) H Q := .inl ⟨i, j, rfl, rfl, h⟩
theorem s_addS {z w : Str} (hz : z.length + w.length ≤ sizeLine) (h : Q (.str (z ++ w)) H) : rAdd K (.str z) (.str w) H Q := .inr (.inl ⟨z, w, rfl, rfl, hz, h⟩)
theorem s_sub (h : Q (.int (i - j)) H) : rSubI (.int i) (.int j) H Q := ⟨i, j, rfl, rfl, h⟩
theorem s_mul (hc : CMulX i j) (h : Q (.int (i * j)) H) : rMul (.int i) (.int j) H Q := .inl ⟨i, j, rfl, rfl, hc, h⟩
theorem s_mulS {z : Str} (hz : PySem.MulOk z i) (h : Q (.str (Txt.mul z i)) H) : rMul (.str z) (.int i) H Q := .inr (.inr ⟨z, i, rfl, rfl, hz, h⟩)
theorem s_div (hc : CDivW i j) (h : Q (.int (i / j)) H) : rDivI (.int i) (.int j) H Q := ⟨i, j, rfl, rfl, hc, h⟩
theorem s_mod (hc : 0 < j) (h : Q (.int (i % j)) H) : rModI (.int i) (.int j) H Q := ⟨i, j, rfl, rfl, hc, h⟩
theorem s_shl (hc : CShl i j) (h : Q (.int (i * 2 ^ j.toNat)) H) : rShlI (.int i) (.int j) H Q := ⟨i, j, rfl, rfl, hc, h⟩
theorem s_shr (hc : 0 ≤ j) (h : Q (.int (i / 2 ^ j.toNat)) H) : rShrI (.int i) (.int j) H Q := ⟨i, j, rfl, rfl, hc, h⟩
theorem s_pow (hc : CPow i j) (h : Q (.int (i ^ j.toNat)) H) : rPowI (.int i) (.int j) H Q := ⟨i, j, rfl, rfl, hc, h⟩
theorem s_bitand (h : Q (.int (Builtin.bitAnd i j)) H) : rAndI (.int i) (.int j) H Q := ⟨i, j, rfl, rfl, h⟩
theorem dec_i : decide (V.int i = V.int j) = decide (i = j) := by
  by_cases e : i = j
  · rw [decide_eq_true e, decide_eq_true (by rw [e])]
  · rw [decide_eq_false e, decide_eq_false (by intro q; exact e (V.int.inj q))]
theorem dec_s {z w : Str} : decide (V.str z = V.str w) = decide (z = w) := by
  by_cases e : z = w
  · rw [decide_eq_true e, decide_eq_true (by rw [e])]
  · rw [decide_eq_false e, decide_eq_false (by intro q; exact e (V.str.inj q))]
theorem dec_b {z w : Bool} : decide (V.bl z = V.bl w) = decide (z = w) := by
  by_cases e : z = w
  · rw [decide_eq_true e, decide_eq_true (by rw [e])]
  · rw [decide_eq_false e, decide_eq_false (by intro q; exact e (V.bl.inj q))]
theorem s_eq (h : Q (.bl (decide (i = j))) H) : rEqG K (.int i) (.int j) H Q := .inl ⟨rfl, by rw [dec_i]; exact h⟩
theorem s_eqS {z w : Str} (h : Q (.bl (decide (z = w))) H) : rEqG K (.str z) (.str w) H Q := .inl ⟨rfl, by rw [dec_s]; exact h⟩
theorem s_eqB {z w : Bool} (h : Q (.bl (decide (z = w))) H) : rEqG K (.bl z) (.bl w) H Q := .inl ⟨rfl, by rw [dec_b]; exact h⟩
theorem s_ne (h : Q (.bl (!decide (i = j))) H) : rNeG K (.int i) (.int j) H Q := .inl ⟨rfl, by rw [dec_i]; exact h⟩
theorem s_neS {z w : Str} (h : Q (.bl (!decide (z = w))) H) : rNeG K (.str z) (.str w) H Q := .inl ⟨rfl, by rw [dec_s]; exact h⟩
theorem s_neB {z w : Bool} (h : Q (.bl (!decide (z = w))) H) : rNeG K (.bl z) (.bl w) H Q := .inl ⟨rfl, by rw [dec_b]; exact h⟩
theorem s_lt (h : Q (.bl (decide (i < j))) H) : rLtG (.int i) (.int j) H Q := .inl ⟨i, j, rfl, rfl, h⟩
theorem s_le (h : Q (.bl (decide (i ≤ j))) H) : rLeI (.int i) (.int j) H Q := ⟨i, j, rfl, rfl, h⟩
theorem s_gt (h : Q (.bl (decide (j < i))) H) : rGtI (.int i) (.int j) H Q := ⟨i, j, rfl, rfl, h⟩
theorem s_ge (h : Q (.bl (decide (j ≤ i))) H) : rGeI (.int i) (.int j) H Q := ⟨i, j, rfl, rfl, h⟩
def chK (r' : R2) (y : V) (tc : TE) (σ : L2.St) (Q : VK) (z : V) (H3 : Hp) : Prop := ∃ k, z = .bl k ∧ (if k = true then tc σ H3 fun w' H4 => r' y w' H4 Q else Q (.bl false) H3)
theorem s_chain {r r' : R2} (h : ta σ H fun x H1 => tb σ H1 fun y H2 => r x y H2 fun z H3 => chK r' y tc σ Q z H3) : tChain r r' ta tb tc σ H Q := h
theorem s_chK {r' : R2} {b : Bool} (h : if b = true then tc σ H fun w' H4 => r' y w' H4 Q else Q (.bl false) H) : chK r' y tc σ Q (.bl b) H := ⟨b, rfl, h⟩

/-- a, b = e, f -/
def parK (i j : Nat) (D : Ends) (σ : L2.St) (vs : List V) (H1 : Hp) : Prop := ∃ v w, vs = [v, w] ∧ D.nx ((σ.set i (some v)).set j (some w)) H1
theorem s_par {k : Nat} {ta : TA} (h : ta σ H fun vs H1 => parK n k D σ vs H1) : tPar n k ta D σ H := h
theorem s_parK {k : Nat} {w : V} {σ1 σ2 : L2.St} [e1 : SetV σ n v σ1] [e2 : SetV σ1 k w σ2] (h : D.nx σ2 H) : parK n k D σ [v, w] H := ⟨v, w, rfl, by rw [e1.e, e2.e]; exact h⟩
def parK3 (i j l : Nat) (D : Ends) (σ : L2.St) (vs : List V) (H1 : Hp) : Prop := ∃ u v w, vs = [u, v, w] ∧ D.nx (((σ.set i (some u)).set j (some v)).set l (some w)) H1
theorem s_par3 {k l : Nat} {ta : TA} (h : ta σ H fun vs H1 => parK3 n k l D σ vs H1) : tPar3 n k l ta D σ H := h
theorem s_parK3 {k l : Nat} {w u : V} {σ1 σ2 σ3 : L2.St} [e1 : SetV σ n v σ1] [e2 : SetV σ1 k w σ2] [e3 : SetV σ2 l u σ3] (h : D.nx σ3 H) : parK3 n k l D σ [v, w, u] H := ⟨v, w, u, rfl, by rw [e1.e, e2.e, e3.e]; exact h⟩

/-! ### objects -/
def fldK (K : PySem.W.Frag) (f : Str) (Q : VK) (x : V) (H1 : Hp) : Prop := ∃ a C dx fs v, x = .ref a ∧ H1 a = some (.ins C dx fs) ∧ Cls K C ∧ NoAttr K C f ∧ fs.lookup f = some v ∧ Q v H1
theorem s_fld (h : ta σ H fun x H1 => fldK K f Q x H1) : tFld K ta f σ H Q := h
theorem s_fldK [hs : HS H L] [o : Own L a (ob a C fs) L'] (c : Cls K C) (n : NoAttr K C f) (l : fs.lookup f = some v) (h : Q v H) : fldK K f Q (.ref a) H :=
  let ⟨dx, e⟩ := (hs.pk o.pk).ins
  ⟨a, C, dx, fs, v, rfl, e, c, n, l, h⟩
def putK (K : PySem.W.Frag) (f : Str) (D : Ends) (σ : L2.St) (y x : V) (H2 : Hp) : Prop := ∃ a C dx fs, x = .ref a ∧ H2 a = some (.ins C dx fs) ∧ Cls K C ∧ NoAttr K C f ∧ fs.length < 1000 ∧ D.nx σ (upd H2 a (.ins C dx (putF f y fs)))
theorem s_put {tv : TE} (h : tv σ H fun y H1 => ta σ H1 fun x H2 => putK K f D σ y x H2) : sFld K ta tv f D σ H := h
theorem s_putK {fs' : List (Str × V)} [hs : HS H L] [o : Own L a (ob a C fs) L'] (c : Cls K C) (n : NoAttr K C f) (z : fs.length < 1000) (e : putF f y fs = fs') (h : ∀ H', HS H' (ob a C fs' :: L') → D.nx σ H') : putK K f D σ y (.ref a) H :=
  let ⟨dx, g⟩ := (hs.pk o.pk).ins
  ⟨a, C, dx, fs, rfl, g, c, n, z, h _ (by rw [e]; exact (hs.pk o.pk).fld g)⟩
def mthK (a : Addr) (m : Str) (sp : Sp) (E : XK) (t : TA) (σ : L2.St) (Q : VK) (x : V) (H1 : Hp) : Prop := ∃ b dx fs, x = .ref b ∧ H1 b = some (.ins a dx fs) ∧ fs.lookup m = none ∧ t σ H1 fun vs H2 => sp (x :: (vs ++ [])) H2 Q E
theorem s_mth {m : Str} {sp : Sp} {E : XK} {t : TA} (h : ta σ H fun x H1 => mthK C m sp E t σ Q x H1) : tMeth C m sp [] E ta t σ H Q := h
theorem s_mthK {m : Str} {sp : Sp} {E : XK} {t : TA} [hs : HS H L] [o : Own L a (ob a C fs) L'] (l : fs.lookup m = none) (h : t σ H fun vs H2 => sp (.ref a :: (vs ++ [])) H2 Q E) : mthK C m sp E t σ Q (.ref a) H :=
  let ⟨dx, e⟩ := (hs.pk o.pk).ins
  ⟨a, dx, fs, rfl, e, l, h⟩
/-- a new instance: __init__ is to be met -/
def mkK (C : Addr) (sp : Sp) (E : XK) (Q : VK) (vs : List V) (H1 : Hp) : Prop := ∀ x dx, H1 x = none → H1 dx = none → dx ≠ x → sp (.ref x :: (vs ++ [])) (upd (upd H1 dx (.own x)) x (.ins C dx [])) (fun v H2 => v = .non ∧ Q (.ref x) H2) E
theorem s_make {sp : Sp} {E : XK} {t : TA} (h : t σ H fun vs H1 => mkK C sp E Q vs H1) : tMake C sp [] E t σ H Q := h
theorem s_mkK {sp : Sp} {E : XK} {vs : List V} [hs : HS H L] (h : ∀ x H', HS H' (ob x C [] :: L) → sp (.ref x :: (vs ++ [])) H' (fun v H2 => v = .non ∧ Q (.ref x) H2) E) : mkK C sp E Q vs H :=
  fun x _ hx hd ne => h x _ (hs.make hx hd ne)

/-! ### lists, tuples -/
def newLK (Q : VK) (xs : List V) (H1 : Hp) : Prop := xs.length ≤ sizeLine ∧ ∀ p, H1 p = none → Q (.ref p) (upd H1 p (.lst xs))
def newTK (Q : VK) (xs : List V) (H1 : Hp) : Prop := xs.length ≤ sizeLine ∧ ∀ p, H1 p = none → Q (.ref p) (upd H1 p (.tup xs))
theorem s_lst {t : TA} (h : t σ H fun xs H1 => newLK Q xs H1) : tLst t σ H Q := h
theorem s_tup {t : TA} (h : t σ H fun xs H1 => newTK Q xs H1) : tTup t σ H Q := h
theorem s_new [hs : HS H L] (h : ∀ p H', HS H' (pt p (.lst xs) :: L) → Q (.ref p) H') : ∀ p, H p = none → Q (.ref p) (upd H p (.lst xs)) := fun p hp => h p _ (hs.new hp id)
theorem s_newT [hs : HS H L] (h : ∀ p H', HS H' (tp p xs :: L) → Q (.ref p) H') : ∀ p, H p = none → Q (.ref p) (upd H p (.tup xs)) := fun p hp => h p _ (hs.newT hp)
theorem s_lstN [hs : HS H L] (z : xs.length ≤ sizeLine) (h : ∀ p H', HS H' (pt p (.lst xs) :: L) → Q (.ref p) H') : newLK Q xs H := ⟨z, s_new h⟩
theorem s_tupN [hs : HS H L] (z : xs.length ≤ sizeLine) (h : ∀ p H', HS H' (tp p xs :: L) → Q (.ref p) H') : newTK Q xs H := ⟨z, s_newT h⟩
theorem s_ixL [hs : HS H L] [m : RdL K L p xs] (e : atI xs i = some v) (h : Q v H) : rIx K (.ref p) (.int i) H Q := .inl ⟨p, xs, i, v, rfl, rfl, m.sq hs, e, h⟩
theorem s_ixT [hs : HS H L] [m : RdT K L p xs] (e : atI xs i = some v) (h : Q v H) : rIx K (.ref p) (.int i) H Q := .inr (.inl ⟨p, xs, i, v, rfl, rfl, m.sq hs, e, h⟩)
theorem s_lenL [hs : HS H L] [m : RdL K L p xs] (h : Q (.int xs.length) H) : rLenG K [.ref p] H Q := ⟨_, _, rfl, .inl ⟨xs, m.sq hs, rfl⟩, h⟩
theorem s_lenT [hs : HS H L] [m : RdT K L p xs] (h : Q (.int xs.length) H) : rLenG K [.ref p] H Q := ⟨_, _, rfl, .inr ⟨xs, m.sq hs, rfl⟩, h⟩
theorem s_lenS {z : Str} (l : z.length ≤ sizeLine) (h : Q (.int z.length) H) : rLenG K [.str z] H Q := ⟨_, _, rfl, ⟨l, rfl⟩, h⟩
theorem s_listL [hs : HS H L] [m : RdL K L p xs] (h : ∀ q H', HS H' (pt q (.lst xs) :: L) → Q (.ref q) H') : rListOf K [.ref p] H Q := ⟨p, xs, rfl, .inl (m.sq hs), s_new h⟩
theorem s_listT [hs : HS H L] [m : RdT K L p xs] (h : ∀ q H', HS H' (pt q (.lst xs) :: L) → Q (.ref q) H') : rListOf K [.ref p] H Q := ⟨p, xs, rfl, .inr (m.sq hs), s_new h⟩
theorem s_tupL [hs : HS H L] [m : RdL K L p xs] (h : ∀ q H', HS H' (tp q xs :: L) → Q (.ref q) H') : rTupOf K [.ref p] H Q := ⟨p, xs, rfl, .inl ⟨m.sq hs, s_newT h⟩⟩
theorem s_rep [hs : HS H L] [m : Own L p (pt p (.lst xs)) L'] (h1 : -(2 ^ 63) ≤ i) (h2 : i < 2 ^ 63) (z : xs.length * i.toNat ≤ sizeLine) (h : ∀ q H', HS H' (pt q (.lst (List.replicate i.toNat xs).flatten) :: L) → Q (.ref q) H') :
    rMul (.ref p) (.int i) H Q := .inr (.inl ⟨p, i, xs, rfl, rfl, (hs.pk m.pk).get, h1, h2, z, s_new h⟩)
theorem s_cat {L1 L2 : List SA} [hs : HS H L] [m : Own L p (pt p (.lst xs)) L1] [m' : Own L q (pt q (.lst ys)) L2] (z : xs.length + ys.length ≤ sizeLine) (h : ∀ r H', HS H' (pt r (.lst (xs ++ ys)) :: L) → Q (.ref r) H') :
    rAdd K (.ref p) (.ref q) H Q := .inr (.inr (.inl ⟨p, q, xs, ys, rfl, rfl, (hs.pk m.pk).get, (hs.pk m'.pk).get, z, s_new h⟩))
theorem s_sum {ns : List Int} [hs : HS H L] [m : RdL K L p (ns.map V.int)] (h : Q (.int ns.sum) H) : rSum K [.ref p] H Q := ⟨p, ns, rfl, m.sq hs, h⟩
theorem s_slL {lo hi : Option Int} [hs : HS H L] [m : RdL K L p xs] (h : ∀ q H', HS H' (pt q (.lst (cutV xs lo hi)) :: L) → Q (.ref q) H') : rSlG K (.ref p) lo hi H Q := .inl ⟨p, xs, rfl, m.sq hs, s_new h⟩
theorem s_sl {r : V → Option Int → Option Int → Hp → VK → Prop} {tl th : TO} (h : te σ H fun x H1 => tl σ H1 fun l H2 => th σ H2 fun u H3 => r x l u H3 Q) : tSl r te tl th σ H Q := h
theorem s_noPart {Q : Option Int → Hp → Prop} (h : Q none H) : tNoPart σ H Q := h
def partK (Q : Option Int → Hp → Prop) (x : V) (H1 : Hp) : Prop := ∃ i, x = .int i ∧ Q (some i) H1
theorem s_part {Q : Option Int → Hp → Prop} (h : te σ H fun x H1 => partK Q x H1) : tPart te σ H Q := h
theorem s_partK {Q : Option Int → Hp → Prop} (h : Q (some i) H) : partK Q (.int i) H := ⟨i, rfl, h⟩
/-- o[i] = v -/
theorem s_gsub {to ti : TE} {t : TSet} {N : L2.St → Hp → Prop} (h : to σ H fun o H1 => ti σ H1 fun i H2 => t o i v H2 fun H3 => N σ H3) : gSub to ti t v σ H N := h
theorem s_setL {j : Nat} {N : Hp → Prop} [hs : HS H L] [m : Own L p (pt p (.lst xs)) L'] (e : ixN xs.length i = some j) (h : ∀ H', HS H' (pt p (.lst (xs.set j v)) :: L') → N H') : rSetL (.ref p) (.int i) v H N :=
  ⟨p, xs, i, j, rfl, rfl, (hs.pk m.pk).get, e, h _ ((hs.pk m.pk).put id)⟩
/-- xs.append(v) -/
def bmK (K : PySem.W.Frag) (T : String) (r : V → List V → Hp → VK → Prop) (t : TA) (σ : L2.St) (Q : VK) (x : V) (H1 : Hp) : Prop := tyV K T x H1 ∧ t σ H1 fun vs H2 => r x vs H2 Q
theorem s_bm {T : String} {r : V → List V → Hp → VK → Prop} {t : TA} (h : te σ H fun x H1 => bmK K T r t σ Q x H1) : tBM K T r te t σ H Q := h
theorem s_bmK {r : V → List V → Hp → VK → Prop} {t : TA} [hs : HS H L] [m : RdL K L p xs] (h : t σ H fun vs H2 => r (.ref p) vs H2 Q) : bmK K "list" r t σ Q (.ref p) H := ⟨.inl ⟨rfl, xs, m.sq hs⟩, h⟩
theorem s_app [hs : HS H L] [m : Own L p (pt p (.lst xs)) L'] (z : xs.length < sizeLine) (h : ∀ H', HS H' (pt p (.lst (xs ++ [v])) :: L') → Q .non H') : rAppend (.ref p) [v] H Q :=
  ⟨p, xs, v, rfl, rfl, (hs.pk m.pk).get, z, h _ ((hs.pk m.pk).put id)⟩
theorem s_pop [hs : HS H L] [m : Own L p (pt p (.lst xs)) L'] (e : xs[xs.length - 1]? = some v) (h : ∀ H', HS H' (pt p (.lst xs.dropLast) :: L') → Q v H') : rPop (.ref p) [] H Q :=
  ⟨p, xs, v, rfl, rfl, (hs.pk m.pk).get, e, h _ ((hs.pk m.pk).put id)⟩
/-- isinstance -/
theorem s_isi {x c : V} {t u : Value} {b : Bool} (h1 : ClsV c u) (h2 : TyX K H x t) (h3 : PySem.W.kitOne K t u = some b) (h : Q (.bl b) H) : rIsiG K [x, c] H Q := .inl ⟨x, c, t, u, b, rfl, h1, h2, h3, h⟩
theorem s_int (h : Q (.int i) H) : rIntG [.int i] H Q := .inl (.inl ⟨i, rfl, h⟩)
theorem s_intB {b : Bool} (h : Q (.int (if b then 1 else 0)) H) : rIntG [.bl b] H Q := .inl (.inr ⟨b, rfl, h⟩)
/-- (a, b, ..) = a tuple -/
theorem s_gtup {t : TGs} {N : L2.St → Hp → Prop} [hs : HS H L] [m : RdT K L p xs] (e : xs.length = n) (h : t xs σ H N) : gTup K n t (.ref p) σ H N := ⟨p, xs, rfl, m.sq hs, e, h⟩
theorem s_gnil {N : L2.St → Hp → Prop} (h : N σ H) : gNil [] σ H N := ⟨rfl, h⟩
theorem s_gcons {t : TG} {u : TGs} {N : L2.St → Hp → Prop} (h : t v σ H fun σ' H' => u xs σ' H' N) : gCons t u (v :: xs) σ H N := ⟨v, xs, rfl, h⟩
/-- for -/
def forK (g : TG) (tb : TS) (D : Ends) (σ : L2.St) (J : It) (H1 : Hp) : Prop := ∃ W : Nat → Nat → L2.St → Hp → Prop, (∃ m, W 0 m σ H1) ∧ ∀ i m σ H, W i m σ H →
  (J.stop i H ∧ D.nx σ H) ∨ (J.go i H ∧ ∃ N : L2.St → Hp → Prop, (∀ σ' H', N σ' H' → ∃ m', m' < m ∧ W (i + 1) m' σ' H') ∧ ∀ x H', J.yld i H x H' → g x σ H' fun σ2 H2 => tb { D with nx := N, ct := N, bk := D.nx } σ2 H2)
theorem s_for {wi : TI} {tb : TS} (h : wi σ H fun J H1 => forK g tb D σ J H1) : tFor wi g tb D σ H := h
def rgK1 (R : It → Hp → Prop) (vs : List V) (H1 : Hp) : Prop := ∃ j : Int, vs = [.int j] ∧ -(2 ^ 62) ≤ j ∧ j < 2 ^ 62 ∧ R (Itr 0 j.toNat) H1
theorem s_rng1 {t : TA} {R : It → Hp → Prop} (h : t σ H fun vs H1 => rgK1 R vs H1) : iRng1 t σ H R := h
theorem s_rngK1 {R : It → Hp → Prop} (h1 : -(2 ^ 62) ≤ i) (h2 : i < 2 ^ 62) (h : R (Itr 0 i.toNat) H) : rgK1 R [.int i] H := ⟨i, rfl, h1, h2, h⟩
/-- a for over range(n) -/
theorem f_range {tb : TS} {k : Nat} (Pv : Nat → L2.St → Hp → Prop) (h0 : Pv 0 σ H)
    (hs : ∀ (i : Nat) σ H, i < k → Pv i σ H → g (.int (i : Int)) σ H fun σ2 H2 => tb { D with nx := Pv (i + 1), ct := Pv (i + 1), bk := D.nx } σ2 H2) (hd : ∀ σ H, Pv k σ H → D.nx σ H) : forK g tb D σ (Itr 0 k) H :=
  for_range (lo := 0) Pv h0 (fun i σ H hi p => by rw [Int.zero_add]; exact hs i σ H hi p) hd
def lsK (K : PySem.W.Frag) (R : It → Hp → Prop) (x : V) (H1 : Hp) : Prop := ∃ a, x = .ref a ∧ (∃ xs, SqL K H1 a xs) ∧ R (Itl K a) H1
theorem s_any {R : It → Hp → Prop} (h : te σ H fun x H1 => lsK K R x H1) : iAny K te σ H R := .inl h
theorem s_anyT {R : It → Hp → Prop} (h : te σ H fun x H1 => ∃ a, x = .ref a ∧ (∃ xs, SqT K H1 a xs) ∧ R (Itt K a) H1) : iAny K te σ H R := .inr (.inl h)
theorem s_anyS {R : It → Hp → Prop} (h : te σ H fun x H1 => ∃ z, x = .str z ∧ R (Its z) H1) : iAny K te σ H R := .inr (.inr h)
theorem s_lsK {R : It → Hp → Prop} [hs : HS H L] [m : RdL K L p xs] (h : R (Itl K p) H) : lsK K R (.ref p) H := ⟨p, rfl, ⟨xs, m.sq hs⟩, h⟩
/-- a for over a list -/
theorem f_list {tb : TS} (xs : List V) (Pv : Nat → L2.St → Hp → Prop) (h0 : Pv 0 σ H) (hl : ∀ i σ H, i ≤ xs.length → Pv i σ H → SqL K H p xs)
    (hs : ∀ i x σ H, xs[i]? = some x → Pv i σ H → g x σ H fun σ2 H2 => tb { D with nx := Pv (i + 1), ct := Pv (i + 1), bk := D.nx } σ2 H2) (hd : ∀ σ H, Pv xs.length σ H → D.nx σ H) : forK g tb D σ (Itl K p) H :=
  for_list (xs := xs) Pv h0 hl hs hd
/-- .. by a word with a measure in it -/
def whK (W : Nat → L2.St → Hp → Prop) (m : Nat) (tb : TS) (D : Ends) (σ : L2.St) (H1 : Hp) : Prop := ∃ N : L2.St → Hp → Prop, (∀ σ' H', N σ' H' → ∃ m', m' < m ∧ W m' σ' H') ∧ tb { D with nx := N, ct := N, bk := D.nx } σ H1
theorem s_wh {W : Nat → L2.St → Hp → Prop} {m : Nat} {tb : TS} (h : tb { D with nx := fun σ' H' => ∃ m', m' < m ∧ W m' σ' H', ct := fun σ' H' => ∃ m', m' < m ∧ W m' σ' H', bk := D.nx } σ H) : whK W m tb D σ H := ⟨_, fun _ _ h => h, h⟩
theorem f_while {c : TT} {tb : TS} (W : Nat → L2.St → Hp → Prop) (m0 : Nat) (h0 : W m0 σ H)
    (hs : ∀ m σ H, W m σ H → c σ H fun b H1 => if b = true then whK W m tb D σ H1 else D.nx σ H1) : tWhile c tb D σ H := ⟨W, ⟨m0, h0⟩, hs⟩
/-- list comprehensions -/
def lcK (g : TG) (tt : TT) (te : TE) (vs : List Nat) (σ : L2.St) (Q : VK) (J : It) (H1 : Hp) : Prop := ∀ D, H1 D = none → ∃ W : Nat → Nat → Hp → Prop, (∃ m, W 0 m (upd H1 D (.lst []))) ∧ ∀ i m H, W i m H →
  (J.stop i H ∧ Q (.ref D) H) ∨ (J.go i H ∧ ∃ Nx : Hp → Prop, (∀ H', Nx H' → ∃ m', m' < m ∧ W (i + 1) m' H') ∧ ∀ x H', J.yld i H x H' → g x (wipe σ vs) H' fun σ2 H2 => wipe σ2 vs = wipe σ vs ∧ tt σ2 H2 fun b H3 =>
    if b = true then te σ2 H3 fun y H4 => ∃ acc, H4 D = some (.lst acc) ∧ acc.length < sizeLine ∧ Nx (upd H4 D (.lst (acc ++ [y]))) else Nx H3)
theorem s_lc {wi : TI} {tt : TT} {vs : List Nat} (h : wi σ H fun J H1 => lcK g tt te vs σ Q J H1) : tLc wi g tt te vs σ H Q := h
theorem s_yes {Q : Bool → Hp → Prop} (h : Q true H) : tYes σ H Q := h
/-- what a turn of a comprehension comes to -/
def accK (D : Addr) (N : Hp → Prop) (y : V) (H4 : Hp) : Prop := ∃ acc, H4 D = some (.lst acc) ∧ acc.length < sizeLine ∧ N (upd H4 D (.lst (acc ++ [y])))
theorem s_acc {N : Hp → Prop} [hs : HS H L] [m : Own L p (pt p (.lst xs)) L'] (z : xs.length < sizeLine) (h : ∀ H', HS H' (pt p (.lst (xs ++ [y])) :: L') → N H') : accK p N y H :=
  ⟨xs, (hs.pk m.pk).get, z, h _ ((hs.pk m.pk).put id)⟩
/-- over range(k): Pv by the turn and the heap -/
theorem c_range {tt : TT} {vs : List Nat} {k : Nat} [hs0 : HS H L] (Pv : Addr → Nat → Hp → Prop) (h0 : ∀ D H', HS H' (pt D (.lst []) :: L) → Pv D 0 H')
    (hs : ∀ D (i : Nat) H, i < k → Pv D i H → g (.int (i : Int)) (wipe σ vs) H fun σ2 H2 => wipe σ2 vs = wipe σ vs ∧ tt σ2 H2 fun b H3 => if b = true then te σ2 H3 fun y H4 => accK D (Pv D (i + 1)) y H4 else Pv D (i + 1) H3)
    (hd : ∀ D H, Pv D k H → Q (.ref D) H) : lcK g tt te vs σ Q (Itr 0 k) H := fun D hD =>
  lc_range (lo := 0) (Pv D) (h0 D _ (hs0.new hD id)) (fun i H hi p => by rw [Int.zero_add]; exact hs D i H hi p) (hd D)
theorem c_list {tt : TT} {vs : List Nat} (xs : List V) [hs0 : HS H L] (Pv : Addr → Nat → Hp → Prop) (h0 : ∀ D H', HS H' (pt D (.lst []) :: L) → Pv D 0 H') (hl : ∀ D i H, i ≤ xs.length → Pv D i H → SqL K H p xs)
    (hs : ∀ D i x H, xs[i]? = some x → Pv D i H → g x (wipe σ vs) H fun σ2 H2 => wipe σ2 vs = wipe σ vs ∧ tt σ2 H2 fun b H3 => if b = true then te σ2 H3 fun y H4 => accK D (Pv D (i + 1)) y H4 else Pv D (i + 1) H3)
    (hd : ∀ D H, Pv D xs.length H → Q (.ref D) H) : lcK g tt te vs σ Q (Itl K p) H := fun D hD =>
  lc_list (xs := xs) (Pv D) (h0 D _ (hs0.new hD id)) (hl D) (hs D) (hd D)
end

/-! ### the same with the written part named -/
section
variable {X : Cx} {K : PySem.W.Frag}
theorem op_addK (h : X.K = K) : OpR X (binaryOp .Add) (rAdd K) := h ▸ op_addG
theorem op_eqK (h : X.K = K) (hu : X.A.units + 64 < cLine) : OpR X (compareOp .Eq) (rEqG K) := h ▸ op_eqG hu
theorem op_neK (h : X.K = K) (hu : X.A.units + 64 < cLine) : OpR X (compareOp .NotEq) (rNeG K) := h ▸ op_neG hu
theorem op_inK (h : X.K = K) : OpR X (compareOp .In) (rInG K) := h ▸ op_inG
theorem op_notInK (h : X.K = K) : OpR X (compareOp .NotIn) (rNotInG K) := h ▸ op_notInG
theorem call_lenK (h : X.K = K) : CallR X (.builtin "len") (rLenG K) := h ▸ call_lenG
theorem call_listK (h : X.K = K) : CallR X (.type "list") (rListOf K) := h ▸ call_listG
theorem call_tupK (h : X.K = K) : CallR X (.type "tuple") (rTupOf K) := h ▸ call_tupG
theorem call_isiK' (h : X.K = K) : CallR X (.builtin "isinstance") (rIsiG K) := h ▸ call_isiG
theorem call_minK (h : X.K = K) (hc : X.calm = true) : CallR X (.builtin "min") (rMinG K) := h ▸ call_minG hc
theorem call_maxK (h : X.K = K) (hc : X.calm = true) : CallR X (.builtin "max") (rMaxG K) := h ▸ call_maxG hc
theorem call_sumK (h : X.K = K) (hc : X.calm = true) : CallR X (.builtin "sum") (rSum K) := h ▸ cr_sum hc
theorem call_sortedK (h : X.K = K) : CallR X (.builtin "sorted") (rSorted K) := h ▸ cr_sorted
theorem sl_anyK (h : X.K = K) : SlR X (rSlG K) := h ▸ sl_any
theorem ix_seqK (h : X.K = K) : IxR X (rIx K) := h ▸ ix_seq
theorem pe_fldK (h : X.K = K) {e : Expr} {f : Str} {pos : Pos} {ta : TE} (he : PE X e ta) (hb : attributeBase e f X.env (eval e X.env) = eval e X.env) : PE X (.Attribute e f pos) (tFld K ta f) := h ▸ pe_fld he hb
theorem ps_fldK (h : X.K = K) {o value : Expr} {f : Str} {pos pos' : Pos} {ta tv : TE} (ha : PE X o ta) (hv : PE X value tv) (hs : swapsWith value (some (.Attribute o f pos')) pos.line X.env = pure false) : PS X (.Assign [.Attribute o f pos'] value pos) (sFld K ta tv f) := h ▸ ps_fld ha hv hs
theorem pi_anyK (h : X.K = K) {tg e : Expr} {te : TE} (he : PE X e te) : PI X tg e (iAny K te) := h ▸ pi_any he
theorem pg_tupK (h : X.K = K) {pos : Pos} {es : List Expr} {k : Nat} {t : TGs} {n : Nat} (hc : X.calm = true) (hp : PGs X es t)
    (hn : (assignEach es X.env).length = n := by rfl) (hst : (assignEach es X.env).findIdx? (·.1) = none := by rfl) : PG X (.Tuple es k pos) (gTup K n t) := h ▸ pg_tup hc hp hn hst
open PySem PySem.Spec PyProof.Rows in
theorem pe_bmK {T name id : String} {r : V → List V → Hp → VK → Prop} {o e : Expr} {es : List Expr} {to : TE} {t : TA} {apos cpos : Pos} (h : X.K = K) (pa : PlainAttrs T) (slot : Slot T name id) (hty : typeOf (.builtin id) = pure (.type "method_descriptor")) (hm : MtR X id r) (ho : PE X o to) (ha : PA X (e :: es) t)
    (hbase : attributeBase o name X.env (eval o X.env) = eval o X.env := by rfl)
    (hfew : ((backTo cpos (starEach (e :: es) X.env)).all (fun x => !x.1) && (backToKw cpos (keywordEach [] X.env)).all (fun x => x.1.isSome)
      && decide ((e :: es).length + ([] : List Keyword).length + (if ([] : List Keyword).isEmpty then 0 else 1) < 30)) = true := by rfl)
    (hline : (apos.endLine == cpos.line) = true := by rfl) (hs : starEach (e :: es) X.env = (false, eval e X.env) :: starEach es X.env := by rfl) (hplain : (backTo cpos (starEach es X.env)).any (·.1) = false := by rfl) :
    PE X (.Call (.Attribute o name apos) (e :: es) [] cpos) (tBM K T r to t) := h ▸ pe_bm pa slot hty hm ho ha hbase hfew hline hs hplain
end
end G

/-! Sums of counts in a tree, as plain functions. -/
namespace G
open PySem L2
/-- the lowest digit in twos of 1 .. 8 -/
def lb (i : Nat) : Nat := if i % 2 = 1 then 1 else if i % 4 = 2 then 2 else if i % 8 = 4 then 4 else 8
def treeOf (cs : List Int) : List Int := (List.range (cs.length + 1)).map fun i => ((cs.take i).drop (i - lb i)).sum
theorem treeOf_len (cs : List Int) : (treeOf cs).length = cs.length + 1 := by simp [treeOf]
theorem sum_drop_take (cs : List Int) (i j : Nat) (h : j ≤ i) : ((cs.take i).drop j).sum = (cs.take i).sum - (cs.take j).sum := by
  have e : (cs.take i).take j ++ (cs.take i).drop j = cs.take i := List.take_append_drop _ _
  have e2 : (cs.take i).take j = cs.take j := by rw [List.take_take]; congr 1; omega
  have := congrArg List.sum e
  rw [List.sum_append, e2] at this
  omega
theorem treeOf_at (cs : List Int) (i : Nat) (h : i ≤ cs.length) : (treeOf cs)[i]? = some ((cs.take i).sum - (cs.take (i - lb i)).sum) := by
  unfold treeOf
  rw [List.getElem?_map, List.getElem?_range (by omega), Option.map_some, sum_drop_take _ _ _ (Nat.sub_le _ _)]
theorem and_neg : ∀ i : Nat, 1 ≤ i → i ≤ 8 → Builtin.bitAnd (i : Int) (0 - (i : Int)) = (lb i : Int) := by
  intro i h1 h2
  have : i = 1 ∨ i = 2 ∨ i = 3 ∨ i = 4 ∨ i = 5 ∨ i = 6 ∨ i = 7 ∨ i = 8 := by omega
  rcases this with rfl | rfl | rfl | rfl | rfl | rfl | rfl | rfl <;> decide +kernel
theorem and_dec : ∀ i : Nat, 1 ≤ i → i ≤ 8 → Builtin.bitAnd (i : Int) ((i : Int) - 1) = ((i - lb i : Nat) : Int) := by
  intro i h1 h2
  have : i = 1 ∨ i = 2 ∨ i = 3 ∨ i = 4 ∨ i = 5 ∨ i = 6 ∨ i = 7 ∨ i = 8 := by omega
  rcases this with rfl | rfl | rfl | rfl | rfl | rfl | rfl | rfl <;> decide +kernel
theorem lb_pos (i : Nat) : 1 ≤ lb i := by unfold lb; split <;> (try split) <;> (try split) <;> omega
theorem lb_le (i : Nat) (h : 1 ≤ i) (h8 : i ≤ 8) : lb i ≤ i := by unfold lb; split <;> (try split) <;> (try split) <;> omega
/-- the climbing -/
def climbF (n : Nat) (b : Int) : Nat → Nat → List Int → List Int
  | 0, _, T => T
  | m + 1, i, T => if i ≤ n then climbF n b m (i + lb i) (T.set i (T.getD i 0 + b)) else T
theorem climb_is (cs : List Int) (s : Nat) (b : Int) (hn : cs.length ≤ 8) (hs : s < cs.length) : climbF cs.length b 8 (s + 1) (treeOf cs) = treeOf (cs.set s (cs.getD s 0 + b)) := by
  match cs, hn with
  | [], _ => simp at hs
  | [a], _ => 
    have : s = 0 := by simp at hs; omega
    subst this; simp [climbF, treeOf, lb, List.range_succ]
  | [a, c], _ =>
    have : s = 0 ∨ s = 1 := by simp at hs; omega
    rcases this with rfl | rfl <;> simp [climbF, treeOf, lb, List.range_succ] <;> omega
  | [a, c, d], _ =>
    have : s = 0 ∨ s = 1 ∨ s = 2 := by simp at hs; omega
    rcases this with rfl | rfl | rfl <;> simp [climbF, treeOf, lb, List.range_succ] <;> omega
  | [a, c, d, e], _ =>
    have : s = 0 ∨ s = 1 ∨ s = 2 ∨ s = 3 := by simp at hs; omega
    rcases this with rfl | rfl | rfl | rfl <;> simp [climbF, treeOf, lb, List.range_succ] <;> omega
  | [a, c, d, e, f], _ =>
    have : s = 0 ∨ s = 1 ∨ s = 2 ∨ s = 3 ∨ s = 4 := by simp at hs; omega
    rcases this with rfl | rfl | rfl | rfl | rfl <;> simp [climbF, treeOf, lb, List.range_succ] <;> omega
  | [a, c, d, e, f, g], _ =>
    have : s = 0 ∨ s = 1 ∨ s = 2 ∨ s = 3 ∨ s = 4 ∨ s = 5 := by simp at hs; omega
    rcases this with rfl | rfl | rfl | rfl | rfl | rfl <;> simp [climbF, treeOf, lb, List.range_succ] <;> omega
  | [a, c, d, e, f, g, h], _ =>
    have : s = 0 ∨ s = 1 ∨ s = 2 ∨ s = 3 ∨ s = 4 ∨ s = 5 ∨ s = 6 := by simp at hs; omega
    rcases this with rfl | rfl | rfl | rfl | rfl | rfl | rfl <;> simp [climbF, treeOf, lb, List.range_succ] <;> omega
  | [a, c, d, e, f, g, h, i], _ =>
    have : s = 0 ∨ s = 1 ∨ s = 2 ∨ s = 3 ∨ s = 4 ∨ s = 5 ∨ s = 6 ∨ s = 7 := by simp at hs; omega
    rcases this with rfl | rfl | rfl | rfl | rfl | rfl | rfl | rfl <;> simp [climbF, treeOf, lb, List.range_succ] <;> omega
  | _ :: _ :: _ :: _ :: _ :: _ :: _ :: _ :: _ :: _, h => simp at h
/-- the sign in whose share x is -/
def signF : List Int → Int → Nat
  | [], _ => 0
  | c :: r, x => if x < c then 0 else signF r (x - c) + 1
theorem signF_is : ∀ (cs : List Int) (x : Int) (i : Nat), (∀ c ∈ cs, 0 ≤ c) → i < cs.length → (cs.take i).sum ≤ x → x < (cs.take (i + 1)).sum → i = signF cs x
  | [], x, i, _, h, _, _ => by simp at h
  | c :: r, x, 0, _, _, h0, h1 => by
    simp at h1
    simp [signF, h1]
  | c :: r, x, i + 1, hp, h, h0, h1 => by
    simp only [List.take_succ_cons, List.sum_cons] at h0 h1
    have hr : ∀ y ∈ r, 0 ≤ y := fun y hy => hp y (List.mem_cons_of_mem _ hy)
    have hs : 0 ≤ (r.take i).sum := by
      have : ∀ l : List Int, (∀ y ∈ l, 0 ≤ y) → 0 ≤ l.sum := by
        intro l; induction l with
        | nil => intro _; simp
        | cons a l ih => intro q; have := ih (fun y hy => q y (List.mem_cons_of_mem _ hy)); have := q a List.mem_cons_self; simp only [List.sum_cons]; omega
      exact this _ fun y hy => hr y (List.mem_of_mem_take hy)
    have ih := signF_is r (x - c) i hr (by simpa using h) (by omega) (by omega)
    have hc : ¬ x < c := by omega
    simp only [signF, if_neg hc]
    omega
theorem signF_lt : ∀ (cs : List Int) (x : Int), x < cs.sum → signF cs x < cs.length ∨ cs = []
  | [], _, _ => .inr rfl
  | c :: r, x, h => by
    left
    simp only [signF]
    split
    · simp
    · simp only [List.sum_cons] at h
      rcases signF_lt r (x - c) (by omega) with q | q
      · simp only [List.length_cons]; omega
      · subst q; simp at h; omega
theorem take_mono (cs : List Int) (hp : ∀ c ∈ cs, 0 ≤ c) : ∀ {i j : Nat}, i ≤ j → (cs.take i).sum ≤ (cs.take j).sum := by
  have nn : ∀ l : List Int, (∀ y ∈ l, 0 ≤ y) → 0 ≤ l.sum := by
    intro l; induction l with
    | nil => intro _; simp
    | cons a l ih => intro q; have := ih (fun y hy => q y (List.mem_cons_of_mem _ hy)); have := q a List.mem_cons_self; simp only [List.sum_cons]; omega
  intro i j h
  have e := sum_drop_take cs j i h
  have := nn ((cs.take j).drop i) fun y hy => hp y (List.mem_of_mem_take (List.mem_of_mem_drop hy))
  omega
theorem sum_nn : ∀ l : List Int, (∀ y ∈ l, 0 ≤ y) → 0 ≤ l.sum
  | [], _ => by simp
  | a :: l, q => by have := sum_nn l (fun y hy => q y (List.mem_cons_of_mem _ hy)); have := q a List.mem_cons_self; simp only [List.sum_cons]; omega
theorem take_getD (cs : List Int) (s : Nat) (h : s < cs.length) : (cs.take (s + 1)).sum = (cs.take s).sum + cs.getD s 0 := by
  rw [List.take_add_one, List.sum_append]
  simp [List.getElem?_eq_getElem h, List.getD_eq_getElem?_getD]
end G

/-! What stands in the heap for the program's objects; the promises of the first defs. -/
namespace G
open PySem L2
def SqB (K : PySem.W.Frag) : Bool → Hp → Addr → List V → Prop
  | false, H, p, xs => SqL K H p xs
  | true, H, p, xs => SqT K H p xs
/-- a list (false) or a tuple (true) may be read -/
class RdB (K : PySem.W.Frag) (b : Bool) (L : List SA) (p : Addr) (xs : List V) : Prop where
  sq : ∀ {H : Hp}, HS H L → SqB K b H p xs
instance (priority := high) {K : PySem.W.Frag} {L : List SA} {p : Addr} {xs : List V} [o : RdL K L p xs] : RdB K false L p xs := ⟨fun hs => o.sq hs⟩
instance (priority := high) {K : PySem.W.Frag} {L : List SA} {p : Addr} {xs : List V} [o : RdT K L p xs] : RdB K true L p xs := ⟨fun hs => o.sq hs⟩
theorem RdB.there {K : PySem.W.Frag} {b : Bool} {L : List SA} {A : SA} {p : Addr} {xs : List V} (r : RdB K b L p xs) : RdB K b (A :: L) p xs := ⟨fun hs => r.sq hs.drop⟩
section
variable {K : PySem.W.Frag} {σ : L2.St} {H : Hp} {Q : VK} {D : Ends} {L L' : List SA} {v x y : V} {i j : Int} {te ta tb tc : TE} {t u : TS} {g : TG} {n : Nat} {p q a C : Addr} {xs ys : List V} {fs : List (Str × V)} {f : Str} {b : Bool}
theorem s_lenB (h1 : SqB K b H p xs) (h : Q (.int xs.length) H) : rLenG K [.ref p] H Q := by
  cases b with
  | false => exact ⟨_, _, rfl, .inl ⟨xs, h1, rfl⟩, h⟩
  | true => exact ⟨_, _, rfl, .inr ⟨xs, h1, rfl⟩, h⟩
theorem s_ixB (h1 : SqB K b H p xs) (e : atI xs i = some v) (h : Q v H) : rIx K (.ref p) (.int i) H Q := by
  cases b with
  | false => exact .inl ⟨p, xs, i, v, rfl, rfl, h1, e, h⟩
  | true => exact .inr (.inl ⟨p, xs, i, v, rfl, rfl, h1, e, h⟩)
/-- a comprehension over a list or a tuple -/
theorem c_any {tt : TT} {vs : List Nat} {k : Nat} {σ0 : L2.St} (xs : List V) [hv : SlV σ0 k (.ref p)] (h1 : SqB K b H p xs) [hs0 : HS H L] (Pv : Addr → Nat → Hp → Prop) (h0 : ∀ D H', HS H' (pt D (.lst []) :: L) → Pv D 0 H') (hl : ∀ D i H, i ≤ xs.length → Pv D i H → SqB K b H p xs)
    (hs : ∀ D i x H, xs[i]? = some x → Pv D i H → g x (wipe σ vs) H fun σ2 H2 => wipe σ2 vs = wipe σ vs ∧ tt σ2 H2 fun b H3 => if b = true then te σ2 H3 fun y H4 => accK D (Pv D (i + 1)) y H4 else Pv D (i + 1) H3)
    (hd : ∀ D H, Pv D xs.length H → Q (.ref D) H) : iAny K (tVar k) σ0 H (fun J H1 => lcK g tt te vs σ Q J H1) := by
  cases b with
  | false => exact .inl ⟨_, hv.e, p, rfl, ⟨xs, h1⟩, fun D hD => lc_list (xs := xs) (Pv D) (h0 D _ (hs0.new hD id)) (hl D) (hs D) (hd D)⟩
  | true => exact .inr (.inl ⟨_, hv.e, p, rfl, ⟨xs, h1⟩, fun D hD => lc_tup (xs := xs) (Pv D) (h0 D _ (hs0.new hD id)) (hl D) (hs D) (hd D)⟩)
/-- a comprehension over a list that another expression gives -/
theorem s_lsI {R : It → Hp → Prop} (h1 : SqL K H p xs) (h : R (Itl K p) H) : lsK K R (.ref p) H := ⟨p, rfl, ⟨xs, h1⟩, h⟩
end

/-! ### shares -/
def iv (ns : List Int) : List V := ns.map V.int
/-- a table at p of the class at C: its counts -/
def shR (C p : Addr) (cs : List Int) : SA := exA fun l => st (ob p C [("signs", .int cs.length), ("tree", .ref l)]) (pt l (.lst (iv (treeOf cs))))
instance {C p : Addr} {cs : List Int} : Key (shR C p cs) p := ⟨⟩
theorem HS.sh_in {H : Hp} {L : List SA} {C p : Addr} {cs : List Int} (h : HS H (shR C p cs :: L)) : ∃ l, HS H (ob p C [("signs", .int cs.length), ("tree", .ref l)] :: pt l (.lst (iv (treeOf cs))) :: L) :=
  let ⟨l, h⟩ := h.ex_in
  ⟨l, h.st_in⟩
theorem HS.sh_out {H : Hp} {L : List SA} {C p l : Addr} {cs : List Int} (h : HS H (ob p C [("signs", .int cs.length), ("tree", .ref l)] :: pt l (.lst (iv (treeOf cs))) :: L)) : HS H (shR C p cs :: L) := (h.st_out).ex_out l
/-- counts of shares -/
def Good (cs : List Int) : Prop := 1 ≤ cs.length ∧ cs.length ≤ 8 ∧ ∀ c ∈ cs, 1 ≤ c
theorem Good.nn {cs : List Int} (h : Good cs) : ∀ c ∈ cs, 0 ≤ c := fun c hc => by have := h.2.2 c hc; omega

def spWithin : Sp := fun vs H Q _ => ∃ x lo hi, vs = [x, .int lo, .int hi] ∧ ((∃ i, x = .int i ∧ Q (.bl (decide (lo ≤ i ∧ i ≤ hi))) H) ∨ ∃ b, x = .bl b ∧ Q (.bl false) H)
def spNeedCounts (K : PySem.W.Frag) : Sp := fun vs H Q _ => ∃ p b cs L, vs = [.ref p] ∧ HS H L ∧ RdB K b L p (iv cs) ∧ Good cs ∧ (∀ c ∈ cs, c ≤ 4000) ∧ ∀ H', HS H' L → Q .non H'
def spClimb (C : Addr) : Sp := fun vs H Q _ => ∃ p s b cs L, vs = [.ref p, .int (s : Nat), .int b] ∧ HS H (shR C p cs :: L) ∧ cs.length ≤ 8 ∧ s < cs.length ∧ ∀ H', HS H' (shR C p (cs.set s (cs.getD s 0 + b)) :: L) → Q .non H'
def spSharesInit (K : PySem.W.Frag) (C : Addr) : Sp := fun vs H Q _ => ∃ p q b cs L, vs = [.ref p, .ref q] ∧ HS H (ob p C [] :: L) ∧ RdB K b L q (iv cs) ∧ Good cs ∧ (∀ c ∈ cs, c ≤ 4000) ∧ ∀ H', HS H' (shR C p cs :: L) → Q .non H'
def spNeedSign : Sp := fun vs H Q _ => ∃ p s m, vs = [.ref p, .int s, .int m] ∧ 0 ≤ s ∧ s ≤ m ∧ Q .non H
def spAheadOf (C : Addr) : Sp := fun vs H Q _ => ∃ p s cs L, vs = [.ref p, .int (s : Nat)] ∧ HS H (shR C p cs :: L) ∧ cs.length ≤ 8 ∧ s ≤ cs.length ∧ ∀ H', HS H' (shR C p cs :: L) → Q (.int (cs.take s).sum) H'
def spManyOf (C : Addr) : Sp := fun vs H Q _ => ∃ p s cs L, vs = [.ref p, .int (s : Nat)] ∧ HS H (shR C p cs :: L) ∧ cs.length ≤ 8 ∧ s < cs.length ∧ ∀ H', HS H' (shR C p cs :: L) → Q (.int (cs.getD s 0)) H'
def spWhole (C : Addr) : Sp := fun vs H Q _ => ∃ p cs L, vs = [.ref p] ∧ HS H (shR C p cs :: L) ∧ cs.length ≤ 8 ∧ ∀ H', HS H' (shR C p cs :: L) → Q (.int cs.sum) H'
def spSignAt (C : Addr) : Sp := fun vs H Q _ => ∃ p x cs L, vs = [.ref p, .int x] ∧ HS H (shR C p cs :: L) ∧ Good cs ∧ 0 ≤ x ∧ x < cs.sum ∧ ∀ H', HS H' (shR C p cs :: L) → Q (.int (signF cs x : Nat)) H'
def spGrow (C : Addr) : Sp := fun vs H Q _ => ∃ p s b cs L, vs = [.ref p, .int (s : Nat), .int b] ∧ HS H (shR C p cs :: L) ∧ cs.length ≤ 8 ∧ s < cs.length ∧ 0 ≤ b ∧ b ≤ 4000 ∧ ∀ H', HS H' (shR C p (cs.set s (cs.getD s 0 + b)) :: L) → Q .non H'
def halves (cs : List Int) : List Int := cs.map fun c => (c + 1) / 2
def spHalve (C : Addr) : Sp := fun vs H Q _ => ∃ p cs L, vs = [.ref p] ∧ HS H (shR C p cs :: L) ∧ cs.length ≤ 8 ∧ ∀ H', HS H' (shR C p (halves cs) :: L) → Q .non H'
def spAllCounts (C : Addr) : Sp := fun vs H Q _ => ∃ p cs L, vs = [.ref p] ∧ HS H (shR C p cs :: L) ∧ cs.length ≤ 8 ∧ ∀ r H', HS H' (pt r (.lst (iv cs)) :: shR C p cs :: L) → Q (.ref r) H'
section
variable {K : PySem.W.Frag} {H : Hp} {Q : VK} {E : XK} {L F : List SA} {p q C : Addr} {i j b lo hi : Int} {cs : List Int}
theorem c_within (k : Q (.bl (decide (lo ≤ i ∧ i ≤ hi))) H) : spWithin [.int i, .int lo, .int hi] H Q E := ⟨_, _, _, rfl, .inl ⟨i, rfl, k⟩⟩
theorem c_withinB {z : Bool} (k : Q (.bl false) H) : spWithin [.bl z, .int lo, .int hi] H Q E := ⟨_, _, _, rfl, .inr ⟨z, rfl, k⟩⟩
theorem c_climb (s : Nat) (e : i = (s : Nat)) [hs : HS H L] [o : Own L p (shR C p cs) F] (h8 : cs.length ≤ 8) (hl : s < cs.length) (k : ∀ H', HS H' (shR C p (cs.set s (cs.getD s 0 + b)) :: F) → Q .non H') : spClimb C [.ref p, .int i, .int b] H Q E :=
  ⟨p, s, b, cs, F, by rw [e], hs.pk o.pk, h8, hl, k⟩
theorem c_needSign (h0 : 0 ≤ i) (h1 : i ≤ j) (k : Q .non H) : spNeedSign [.ref p, .int i, .int j] H Q E := ⟨p, i, j, rfl, h0, h1, k⟩
theorem c_aheadOf (s : Nat) (e : i = (s : Nat)) [hs : HS H L] [o : Own L p (shR C p cs) F] (h8 : cs.length ≤ 8) (hl : s ≤ cs.length) (k : ∀ H', HS H' (shR C p cs :: F) → Q (.int (cs.take s).sum) H') : spAheadOf C [.ref p, .int i] H Q E :=
  ⟨p, s, cs, F, by rw [e], hs.pk o.pk, h8, hl, k⟩
theorem c_manyOf (s : Nat) (e : i = (s : Nat)) [hs : HS H L] [o : Own L p (shR C p cs) F] (h8 : cs.length ≤ 8) (hl : s < cs.length) (k : ∀ H', HS H' (shR C p cs :: F) → Q (.int (cs.getD s 0)) H') : spManyOf C [.ref p, .int i] H Q E :=
  ⟨p, s, cs, F, by rw [e], hs.pk o.pk, h8, hl, k⟩
theorem c_whole [hs : HS H L] [o : Own L p (shR C p cs) F] (h8 : cs.length ≤ 8) (k : ∀ H', HS H' (shR C p cs :: F) → Q (.int cs.sum) H') : spWhole C [.ref p] H Q E :=
  ⟨p, cs, F, rfl, hs.pk o.pk, h8, k⟩
theorem c_signAt [hs : HS H L] [o : Own L p (shR C p cs) F] (g : Good cs) (h0 : 0 ≤ i) (h1 : i < cs.sum) (k : ∀ H', HS H' (shR C p cs :: F) → Q (.int (signF cs i : Nat)) H') : spSignAt C [.ref p, .int i] H Q E :=
  ⟨p, i, cs, F, rfl, hs.pk o.pk, g, h0, h1, k⟩
theorem c_grow (s : Nat) (e : i = (s : Nat)) [hs : HS H L] [o : Own L p (shR C p cs) F] (h8 : cs.length ≤ 8) (hl : s < cs.length) (h0 : 0 ≤ b) (h1 : b ≤ 4000) (k : ∀ H', HS H' (shR C p (cs.set s (cs.getD s 0 + b)) :: F) → Q .non H') : spGrow C [.ref p, .int i, .int b] H Q E :=
  ⟨p, s, b, cs, F, by rw [e], hs.pk o.pk, h8, hl, h0, h1, k⟩
theorem c_halve [hs : HS H L] [o : Own L p (shR C p cs) F] (h8 : cs.length ≤ 8) (k : ∀ H', HS H' (shR C p (halves cs) :: F) → Q .non H') : spHalve C [.ref p] H Q E :=
  ⟨p, cs, F, rfl, hs.pk o.pk, h8, k⟩
theorem c_allCounts [hs : HS H L] [o : Own L p (shR C p cs) F] (h8 : cs.length ≤ 8) (k : ∀ r H', HS H' (pt r (.lst (iv cs)) :: shR C p cs :: F) → Q (.ref r) H') : spAllCounts C [.ref p] H Q E :=
  ⟨p, cs, F, rfl, hs.pk o.pk, h8, k⟩
theorem c_needCounts {t : Bool} [hs : HS H L] [r : RdB K t L p (iv cs)] (g : Good cs) (h : ∀ c ∈ cs, c ≤ 4000) (k : ∀ H', HS H' L → Q .non H') : spNeedCounts K [.ref p] H Q E := ⟨p, t, cs, L, rfl, hs, r, g, h, k⟩
theorem c_sharesInit {t : Bool} [hs : HS H L] [o : Own L p (ob p C []) F] [r : RdB K t F q (iv cs)] (g : Good cs) (h : ∀ c ∈ cs, c ≤ 4000) (k : ∀ H', HS H' (shR C p cs :: F) → Q .non H') : spSharesInit K C [.ref p, .ref q] H Q E :=
  ⟨p, q, t, cs, F, rfl, hs.pk o.pk, r, g, h, k⟩
end
theorem nn_of {i : Nat} {n : Int} (h : (i : Int) < n) : i < n.toNat := by omega
theorem at_iv {cs : List Int} {i : Nat} {c : Int} (h : cs[i]? = some c) : atI (iv cs) (i : Int) = some (.int c) := by
  apply atI_nat; simp [iv, h]
theorem iv_len (cs : List Int) : (iv cs).length = cs.length := by simp [iv]
theorem iv_at {cs : List Int} {i : Nat} {x : V} (h : (iv cs)[i]? = some x) : ∃ c, cs[i]? = some c ∧ x = .int c := by
  simp only [iv, List.getElem?_map] at h
  cases e : cs[i]? with
  | none => rw [e] at h; cases h
  | some c => rw [e] at h; exact ⟨c, rfl, (Option.some.inj h).symm⟩
theorem iv_snoc {cs : List Int} {i : Nat} {c : Int} (h : cs[i]? = some c) : iv (cs.take i) ++ [V.int c] = iv (cs.take (i + 1)) := by
  rw [List.take_add_one, h]; simp [iv]
theorem iv_app (cs : List Int) (c : Int) : iv (cs ++ [c]) = iv cs ++ [.int c] := by simp [iv]
theorem get_getD {cs : List Int} {i : Nat} (h : i < cs.length) : cs[i]? = some (cs.getD i 0) := by rw [List.getD_eq_getElem?_getD, List.getElem?_eq_getElem h]; rfl
theorem iv_set (cs : List Int) (i : Nat) (c : Int) : (iv cs).set i (.int c) = iv (cs.set i c) := by simp [iv, List.map_set]
theorem ixN_nat {n i : Nat} (h : i < n) : ixN n (i : Int) = some i := by
  unfold ixN; rw [if_pos (by omega), if_pos (by omega)]; simp
theorem fill_step {cs : List Int} {n i : Nat} (hn : cs.length = n) (hi : i < n) : (cs.take i ++ List.replicate (n - i) (0 : Int)).set i ((cs.take i ++ List.replicate (n - i) 0).getD i 0 + cs.getD i 0) = cs.take (i + 1) ++ List.replicate (n - (i + 1)) 0 := by
  subst hn
  have hl : (cs.take i ++ List.replicate (cs.length - i) (0 : Int)).length = cs.length := by simp; omega
  have hc : cs[i]? = some (cs.getD i 0) := by rw [List.getD_eq_getElem?_getD, List.getElem?_eq_getElem hi]; rfl
  have hz : (cs.take i ++ List.replicate (cs.length - i) (0 : Int)).getD i 0 = 0 := by
    rw [List.getD_eq_getElem?_getD, List.getElem?_append_right (by simp; omega)]
    rw [List.getElem?_replicate]; split <;> rfl
  rw [hz, Int.zero_add]
  apply List.ext_getElem?
  intro j
  rw [List.getElem?_set]
  split
  · subst_vars
    rw [if_pos (by rw [hl]; exact hi), List.getElem?_append_left (by simp; omega), List.getElem?_take_of_lt (by omega), hc]
  · rename_i hne
    by_cases hj : j < i
    · rw [List.getElem?_append_left (by simp; omega), List.getElem?_append_left (by simp; omega), List.getElem?_take_of_lt hj, List.getElem?_take_of_lt (by omega)]
    · rw [List.getElem?_append_right (by simp; omega), List.getElem?_append_right (by simp; omega), List.getElem?_replicate, List.getElem?_replicate]
      simp only [List.length_take]
      split <;> split <;> first | rfl | omega
section
variable {K : PySem.W.Frag} {H : Hp} {Q : VK} {L : List SA} {p : Addr} {cs : List Int} {i : Int}
theorem cut_take (cs : List Int) (i : Nat) : cutV (iv cs) none (some (i : Int)) = iv (cs.take i) := by
  unfold cutV
  rw [HT.sIx_none, HT.sIx_nat]
  simp only [List.drop_zero, Nat.sub_zero, iv, List.length_map]
  rw [← List.map_take]
  congr 1
  rw [← List.take_eq_take_min]
/-- xs[:i] -/
theorem s_slTake (n : Nat) (e : i = (n : Int)) [hs : HS H L] [m : RdL K L p (iv cs)] (h : ∀ q H', HS H' (pt q (.lst (iv (cs.take n))) :: L) → Q (.ref q) H') : rSlG K (.ref p) none (some i) H Q := by
  refine s_slL fun q H' hs => ?_
  rw [e, cut_take] at hs
  exact h q H' hs
theorem s_sumV [hs : HS H L] [m : RdL K L p (iv cs)] (h : Q (.int cs.sum) H) : rSum K [.ref p] H Q := ⟨p, cs, rfl, m.sq hs, h⟩
theorem at_iv' {n : Nat} {c : Int} (e : i = (n : Int)) (h : cs[n]? = some c) : atI (iv cs) i = some (.int c) := by rw [e]; exact at_iv h
theorem pick2 {a b r : Int} (h0 : 0 ≤ r) (h1 : r < 2) : ∃ z, atI [V.int a, V.int b] r = some (.int z) ∧ (z = a ∨ z = b) := by
  have : r = 0 ∨ r = 1 := by omega
  rcases this with rfl | rfl
  · exact ⟨a, rfl, .inl rfl⟩
  · exact ⟨b, rfl, .inr rfl⟩
end
theorem small_line {n : Nat} (h : n ≤ 100000) : n ≤ sizeLine := Nat.le_trans h (by decide)
theorem small_lt {n : Nat} (h : n < 100000) : n < sizeLine := Nat.lt_of_lt_of_le h (by decide)
end G

/-! The law's own drawing. -/
namespace G
open PySem L2
def Row0 (i m : Int) : Prop := 0 ≤ i ∧ 0 ≤ m ∧ m < 2147483648
/-- the law's row at p, whatever was drawn -/
def rowA (K : PySem.W.Frag) (p : Addr) : SA := exA fun a : Addr => exA fun zs : List Int => exA fun i : Int => exA fun m : Int => exA fun c : Int =>
  st (pu (Row0 i m)) (st (fz K a (iv zs)) (pt p (.lst [.ref a, .int i, .int m, .int c])))
instance {K : PySem.W.Frag} {p : Addr} : Key (rowA K p) p := ⟨⟩
theorem HS.pu_in {H : Hp} {L : List SA} {f : Prop} (h : HS H (pu f :: L)) : f ∧ HS H L := ⟨h.fact, h.drop⟩
theorem HS.pu_out {H : Hp} {L : List SA} {f : Prop} (q : f) (h : HS H L) : HS H (pu f :: L) := h.add q
theorem HS.row_in {K : PySem.W.Frag} {H : Hp} {L : List SA} {p : Addr} (h : HS H (rowA K p :: L)) : ∃ a zs i m c, Row0 i m ∧ HS H (pt p (.lst [.ref a, .int i, .int m, .int c]) :: fz K a (iv zs) :: L) := by
  obtain ⟨a, h⟩ := h.ex_in
  obtain ⟨zs, h⟩ := h.ex_in
  obtain ⟨i, h⟩ := h.ex_in
  obtain ⟨m, h⟩ := h.ex_in
  obtain ⟨c, h⟩ := h.ex_in
  obtain ⟨q, h⟩ := h.st_in.pu_in
  exact ⟨a, zs, i, m, c, q, h.st_in.re⟩
theorem HS.row_out {K : PySem.W.Frag} {H : Hp} {L : List SA} {p a : Addr} {zs : List Int} {i m c : Int} (q : Row0 i m) (h : HS H (pt p (.lst [.ref a, .int i, .int m, .int c]) :: fz K a (iv zs) :: L)) : HS H (rowA K p :: L) := by
  refine HS.ex_out a (HS.ex_out zs (HS.ex_out i (HS.ex_out m (HS.ex_out c (HS.st_out (HS.pu_out q (HS.st_out ?_)))))))
  exact h.re
def spTaken (K : PySem.W.Frag) : Sp := fun vs H Q _ => ∃ p n L, vs = [.ref p, .int n] ∧ HS H (rowA K p :: L) ∧ 0 < n ∧ n < 2 ^ 64 ∧ ∀ r H', 0 ≤ r → r < n → HS H' (rowA K p :: L) → Q (.int r) H'
theorem c_taken {K : PySem.W.Frag} {H : Hp} {Q : VK} {E : XK} {L F : List SA} {p : Addr} {n : Int} [hs : HS H L] [o : Own L p (rowA K p) F] (h0 : 0 < n) (h1 : n < 2 ^ 64) (k : ∀ r H', 0 ≤ r → r < n → HS H' (rowA K p :: F) → Q (.int r) H') : spTaken K [.ref p, .int n] H Q E :=
  ⟨p, n, F, rfl, hs.pk o.pk, h0, h1, k⟩
theorem div64 {i n : Int} (h0 : 0 < n) (h1 : n < 2 ^ 64) : CDivW i n := wide_div (b := 64) h0 (by omega) (by decide) (by decide)
theorem mulx64 {i j : Int} (hi : i.natAbs < 2 ^ 64) (hj : j.natAbs < 2 ^ 64) : CMulX i j := mulx_ok hi hj (by decide)
end G

/-! The law's own comparison. -/
namespace G
open PySem L2
def flat (x : V) : Prop := x = .non ∨ (∃ b, x = .bl b) ∨ (∃ i, x = .int i) ∨ ∃ z, x = .str z
/-- x and y are the same, of the same kinds, less than n deep -/
def DtN (K : PySem.W.Frag) : Nat → List SA → V → V → Prop
  | 0, _, _, _ => False
  | n + 1, L, x, y => (x = y ∧ flat x) ∨ ∃ p q xs ys, x = .ref p ∧ y = .ref q ∧ ((RdL K L p xs ∧ RdL K L q ys) ∨ (RdT K L p xs ∧ RdT K L q ys)) ∧ xs.length = ys.length ∧ xs.length ≤ 100000 ∧ ∀ (k : Nat) a b, xs[k]? = some a → ys[k]? = some b → DtN K n L a b
theorem RdL.there {K : PySem.W.Frag} {L : List SA} {A : SA} {p : Addr} {xs : List V} (r : RdL K L p xs) : RdL K (A :: L) p xs := ⟨fun hs => r.sq hs.drop⟩
theorem RdT.there {K : PySem.W.Frag} {L : List SA} {A : SA} {p : Addr} {xs : List V} (r : RdT K L p xs) : RdT K (A :: L) p xs := ⟨fun hs => r.sq hs.drop⟩
theorem DtN.there {K : PySem.W.Frag} : ∀ {n : Nat} {L : List SA} {A : SA} {x y : V}, DtN K n L x y → DtN K n (A :: L) x y
  | 0, _, _, _, _, h => h
  | n + 1, L, A, x, y, h => by
    rcases h with h | ⟨p, q, xs, ys, e1, e2, r, hl, hz, h⟩
    · exact .inl h
    · refine .inr ⟨p, q, xs, ys, e1, e2, ?_, hl, hz, fun k a b h1 h2 => (h k a b h1 h2).there⟩
      rcases r with ⟨r1, r2⟩ | ⟨r1, r2⟩
      · exact .inl ⟨r1.there, r2.there⟩
      · exact .inr ⟨r1.there, r2.there⟩
theorem ty_list {K : PySem.W.Frag} {H : Hp} {p : Addr} {xs : List V} (h : SqL K H p xs) : TyX K H (.ref p) (.type "list") := by
  rcases h with (h | ⟨o, h⟩) | ⟨o, its, n, h1, h2, _⟩
  · exact .base (.lst h)
  · exact .base (.frz h)
  · exact .kList h1 h2
theorem ty_tup {K : PySem.W.Frag} {H : Hp} {p : Addr} {xs : List V} (h : SqT K H p xs) : TyX K H (.ref p) (.type "tuple") := by
  rcases h with (h | ⟨o, h⟩) | ⟨o, its, n, h1, h2, _⟩
  · exact .base (.tup h)
  · exact .fTuple h
  · exact .kTuple h1 h2
theorem kit2 {K : PySem.W.Frag} {a b c : String} {r s : Bool} (h1 : kitB a b = some r) (h2 : kitB a c = some s) : PySem.W.kitAny K (.type a) [.type b, .type c] = some (r || s) := by
  refine kitAny_cons (kit_ty h1) (fun e => ?_) (fun e => by rw [e]; rfl)
  subst e
  exact kitAny_cons (kit_ty h2) (fun e => by subst e; exact kitAny_nil) (fun e => by subst e; rfl)
section
variable {K : PySem.W.Frag} {H : Hp} {Q : VK} {L : List SA} {x : V} {tp_ : Addr}
theorem s_isiT {b c a : String} {r s : Bool} (hs : HS H (tp tp_ [.ty b, .ty c] :: L)) (h2 : TyX K H x (.type a)) (h3 : kitB a b = some r) (h4 : kitB a c = some s) (h : Q (.bl (r || s)) H) : rIsiG K [x, .ref tp_] H Q :=
  .inr (.inl ⟨x, tp_, [.ty b, .ty c], .type a, [.type b, .type c], r || s, rfl, hs.fact, .cons (.ty _) (.cons (.ty _) .nil), h2, kit2 h3 h4, h⟩)
/-- isinstance of a value whose type is known by its name -/
theorem s_isiN {b a : String} {r : Bool} (h2 : TyX K H x (.type a)) (h3 : kitB a b = some r) (h : Q (.bl r) H) : rIsiG K [x, .ty b] H Q := s_isi (.ty _) h2 (kit_ty h3) h
theorem s_isN (h : Q (.bl (decide (x = .non))) H) : rIsNo x .non H Q := ⟨rfl, h⟩
theorem s_isNot (h : Q (.bl (!decide (x = .non))) H) : rIsNot x .non H Q := ⟨rfl, h⟩
/-- two empty lists are equal -/
theorem s_eqNil {p q : Addr} {L1 L2 : List SA} [hs : HS H L] [o1 : Own L p (pt p (.lst [])) L1] [o2 : Own L q (pt q (.lst [])) L2] (h : Q (.bl true) H) : rEqG K (.ref p) (.ref q) H Q :=
  .inr ⟨_, _, .lst (.inl (.inl (hs.pk o1.pk).get)) .nil, .lst (.inl (.inl (hs.pk o2.pk).get)) .nil, rfl, rfl, h⟩
theorem s_neNil {p q : Addr} {L1 L2 : List SA} [hs : HS H L] [o1 : Own L p (pt p (.lst [])) L1] [o2 : Own L q (pt q (.lst [])) L2] (h : Q (.bl false) H) : rNeG K (.ref p) (.ref q) H Q :=
  .inr ⟨_, _, .lst (.inl (.inl (hs.pk o1.pk).get)) .nil, .lst (.inl (.inl (hs.pk o2.pk).get)) .nil, rfl, rfl, h⟩
end
def spAlike (K : PySem.W.Frag) (n : Nat) : Sp := fun vs H Q _ => ∃ x y L, vs = [x, y] ∧ HS H L ∧ DtN K n L x y ∧ ∀ H', HS H' L → Q (.bl true) H'
theorem c_alike {K : PySem.W.Frag} {H : Hp} {Q : VK} {E : XK} {L : List SA} {x y : V} {n : Nat} [hs : HS H L] (d : DtN K n L x y) (k : ∀ H', HS H' L → Q (.bl true) H') : spAlike K n [x, y] H Q E := ⟨x, y, L, rfl, hs, d, k⟩
theorem DtN.int {K : PySem.W.Frag} {n : Nat} {L : List SA} {i j : Int} (e : i = j) : DtN K (n + 1) L (.int i) (.int j) := .inl ⟨by rw [e], .inr (.inr (.inl ⟨i, rfl⟩))⟩
theorem DtN.str {K : PySem.W.Frag} {n : Nat} {L : List SA} {i j : Str} (e : i = j) : DtN K (n + 1) L (.str i) (.str j) := .inl ⟨by rw [e], .inr (.inr (.inr ⟨i, rfl⟩))⟩
/-- two tuples, two lists -/
theorem DtN.tup {K : PySem.W.Frag} {n : Nat} {L : List SA} {p q : Addr} {xs ys : List V} [r1 : RdT K L p xs] [r2 : RdT K L q ys] (hl : xs.length = ys.length) (hz : xs.length ≤ 100000) (h : ∀ (k : Nat) a b, xs[k]? = some a → ys[k]? = some b → DtN K n L a b) : DtN K (n + 1) L (.ref p) (.ref q) :=
  .inr ⟨p, q, xs, ys, rfl, rfl, .inr ⟨r1, r2⟩, hl, hz, h⟩
theorem DtN.lst {K : PySem.W.Frag} {n : Nat} {L : List SA} {p q : Addr} {xs ys : List V} [r1 : RdL K L p xs] [r2 : RdL K L q ys] (hl : xs.length = ys.length) (hz : xs.length ≤ 100000) (h : ∀ (k : Nat) a b, xs[k]? = some a → ys[k]? = some b → DtN K n L a b) : DtN K (n + 1) L (.ref p) (.ref q) :=
  .inr ⟨p, q, xs, ys, rfl, rfl, .inl ⟨r1, r2⟩, hl, hz, h⟩
/-- two lists of the same ints -/
theorem DtN.iv {K : PySem.W.Frag} {n : Nat} {L : List SA} {p q : Addr} {cs : List Int} [r1 : RdL K L p (iv cs)] [r2 : RdL K L q (iv cs)] (hz : cs.length ≤ 100000) : DtN K (n + 2) L (.ref p) (.ref q) :=
  .lst rfl (by rw [iv_len]; exact hz) fun k a b h1 h2 => by
    obtain ⟨c, h3, rfl⟩ := iv_at h1
    obtain ⟨d, h4, rfl⟩ := iv_at h2
    rw [h3] at h4; cases h4
    exact .int rfl
/-- a list of ints is itself -/
theorem dp_iv {K : PySem.W.Frag} {H : Hp} {p : Addr} {cs : List Int} (h : SqL K H p (iv cs)) : Dp K H (.ref p) (.list (cs.map .int)) := by
  refine .lst h ?_
  have : ∀ l : List Int, DpAll K H (l.map V.int) (l.map PyData.int) := by
    intro l; induction l with
    | nil => exact .nil
    | cons a l ih => exact .cons (.int a) ih
  exact this cs
theorem iv_canLay : ∀ cs : List Int, PyData.canLayAll0 (cs.map .int) = true
  | [] => by simp [PyData.canLayAll0]
  | c :: r => by simp [PyData.canLayAll0, PyData.canLay0, iv_canLay r]
theorem iv_depth : ∀ cs : List Int, PyData.depthAll (cs.map .int) = 0
  | [] => by simp [PyData.depthAll]
  | c :: r => by simp [PyData.depthAll, PyData.depth, iv_depth r]
theorem shaped_iv {cs : List Int} (h : cs.length ≤ 100000) : SeqAt.shaped (.list (cs.map .int)) = true := by
  unfold SeqAt.shaped
  have e : (PyData.list (cs.map .int)).depth = 1 := by simp [PyData.depth, iv_depth]
  rw [e]
  simp [PyData.canLay0, iv_canLay]
theorem eqv_iv : ∀ (as bs : List Int), PyData.eqvAll (as.map .int) (bs.map .int) = decide (as = bs)
  | [], [] => by simp [PyData.eqvAll]
  | [], _ :: _ => by simp [PyData.eqvAll]
  | _ :: _, [] => by simp [PyData.eqvAll]
  | a :: as, b :: bs => by
    simp only [List.map_cons, PyData.eqvAll, PyData.eqv, eqv_iv as bs]
    by_cases h : a = b <;> by_cases h2 : as = bs <;> simp [h, h2]
section
variable {K : PySem.W.Frag} {H : Hp} {Q : VK} {L : List SA} {p q : Addr} {as bs : List Int}
/-- lists of ints compared -/
theorem s_eqIv [hs : HS H L] [m1 : RdL K L p (iv as)] [m2 : RdL K L q (iv bs)] (z1 : as.length ≤ 100000) (z2 : bs.length ≤ 100000) (h : Q (.bl (decide (as = bs))) H) : rEqG K (.ref p) (.ref q) H Q :=
  .inr ⟨_, _, dp_iv (m1.sq hs), dp_iv (m2.sq hs), shaped_iv z1, shaped_iv z2, by simp only [PyData.eqv, eqv_iv]; exact h⟩
theorem s_neIv [hs : HS H L] [m1 : RdL K L p (iv as)] [m2 : RdL K L q (iv bs)] (z1 : as.length ≤ 100000) (z2 : bs.length ≤ 100000) (h : Q (.bl (!decide (as = bs))) H) : rNeG K (.ref p) (.ref q) H Q :=
  .inr ⟨_, _, dp_iv (m1.sq hs), dp_iv (m2.sq hs), shaped_iv z1, shaped_iv z2, by simp only [PyData.eqv, eqv_iv]; exact h⟩
end
end G

/-! Piles. -/
namespace G
open PySem L2
def uponF (cs : List Int) (s : Nat) (n : Int) : Int := n / cs.getD s 0 * cs.sum + (cs.take s).sum + n % cs.getD s 0
def offS (cs : List Int) (n : Int) : Nat := signF cs (n % cs.sum)
def offN (cs : List Int) (n : Int) : Int := n / cs.sum * cs.getD (offS cs n) 0 + n % cs.sum - (cs.take (offS cs n)).sum
def spNeedNumber : Sp := fun vs H Q _ => ∃ n, vs = [.int n] ∧ 0 ≤ n ∧ n ≤ 2 ^ 1200 ∧ Q .non H
def spUpon (C : Addr) : Sp := fun vs H Q _ => ∃ n p s cs L, vs = [.int n, .ref p, .int (s : Nat)] ∧ HS H (shR C p cs :: L) ∧ Good cs ∧ cs.sum < 2 ^ 64 ∧ s < cs.length ∧ 0 ≤ n ∧ n < 2 ^ 100000 ∧ ∀ H', HS H' (shR C p cs :: L) → Q (.int (uponF cs s n)) H'
def spOff (C : Addr) : Sp := fun vs H Q _ => ∃ n p cs L, vs = [.int n, .ref p] ∧ HS H (shR C p cs :: L) ∧ Good cs ∧ cs.sum < 2 ^ 64 ∧ 0 ≤ n ∧ n < 2 ^ 100000 ∧ ∀ r H', HS H' (tp r [.int (offS cs n : Nat), .int (offN cs n)] :: shR C p cs :: L) → Q (.ref r) H'
def spPushed (K : PySem.W.Frag) : Sp := fun vs H Q _ => ∃ n q s b cs L, vs = [.int n, .ref q, .int (s : Nat)] ∧ HS H L ∧ RdB K b L q (iv cs) ∧ Good cs ∧ (∀ c ∈ cs, c ≤ 4000) ∧ s < cs.length ∧ 0 ≤ n ∧ n ≤ 2 ^ 1200 ∧ ∀ H', HS H' L → Q (.int (uponF cs s n)) H'
def spPopped (K : PySem.W.Frag) : Sp := fun vs H Q _ => ∃ n q b cs L, vs = [.int n, .ref q] ∧ HS H L ∧ RdB K b L q (iv cs) ∧ Good cs ∧ (∀ c ∈ cs, c ≤ 4000) ∧ 0 ≤ n ∧ n ≤ 2 ^ 1200 ∧ ∀ r H', HS H' (tp r [.int (offS cs n : Nat), .int (offN cs n)] :: L) → Q (.ref r) H'
section
variable {K : PySem.W.Frag} {H : Hp} {Q : VK} {E : XK} {L F : List SA} {p q C : Addr} {i n b lo hi : Int} {cs : List Int}
theorem c_needNumber (h0 : 0 ≤ n) (h1 : n ≤ 2 ^ 1200) (k : Q .non H) : spNeedNumber [.int n] H Q E := ⟨n, rfl, h0, h1, k⟩
theorem c_upon (s : Nat) (e : i = (s : Nat)) [hs : HS H L] [o : Own L p (shR C p cs) F] (g : Good cs) (hz : cs.sum < 2 ^ 64) (hl : s < cs.length) (h0 : 0 ≤ n) (h1 : n < 2 ^ 100000) (k : ∀ H', HS H' (shR C p cs :: F) → Q (.int (uponF cs s n)) H') : spUpon C [.int n, .ref p, .int i] H Q E :=
  ⟨n, p, s, cs, F, by rw [e], hs.pk o.pk, g, hz, hl, h0, h1, k⟩
theorem c_off [hs : HS H L] [o : Own L p (shR C p cs) F] (g : Good cs) (hz : cs.sum < 2 ^ 64) (h0 : 0 ≤ n) (h1 : n < 2 ^ 100000) (k : ∀ r H', HS H' (tp r [.int (offS cs n : Nat), .int (offN cs n)] :: shR C p cs :: F) → Q (.ref r) H') : spOff C [.int n, .ref p] H Q E :=
  ⟨n, p, cs, F, rfl, hs.pk o.pk, g, hz, h0, h1, k⟩
theorem c_pushed (s : Nat) (e : i = (s : Nat)) {t : Bool} [hs : HS H L] [r : RdB K t L q (iv cs)] (g : Good cs) (h : ∀ c ∈ cs, c ≤ 4000) (hl : s < cs.length) (h0 : 0 ≤ n) (h1 : n ≤ 2 ^ 1200) (k : ∀ H', HS H' L → Q (.int (uponF cs s n)) H') : spPushed K [.int n, .ref q, .int i] H Q E :=
  ⟨n, q, s, t, cs, L, by rw [e], hs, r, g, h, hl, h0, h1, k⟩
theorem c_popped {t : Bool} [hs : HS H L] [r : RdB K t L q (iv cs)] (g : Good cs) (h : ∀ c ∈ cs, c ≤ 4000) (h0 : 0 ≤ n) (h1 : n ≤ 2 ^ 1200) (k : ∀ r H', HS H' (tp r [.int (offS cs n : Nat), .int (offN cs n)] :: L) → Q (.ref r) H') : spPopped K [.int n, .ref q] H Q E :=
  ⟨n, q, t, cs, L, rfl, hs, r, g, h, h0, h1, k⟩
end
theorem pow1200 : (2 : Int) ^ 1200 < 2 ^ 100000 := by
  have : (2 : Nat) ^ 1200 < 2 ^ 100000 := Nat.pow_lt_pow_right (by decide) (by decide)
  exact_mod_cast this
theorem natAbs_lt {n : Int} {k : Nat} (h0 : 0 ≤ n) (h1 : n < 2 ^ k) : n.natAbs < 2 ^ k := by
  have e : (n.natAbs : Int) = n := Int.natAbs_of_nonneg h0
  have : ((n.natAbs : Nat) : Int) < ((2 ^ k : Nat) : Int) := by rw [e]; push_cast; exact h1
  exact_mod_cast this
theorem Good.sum_le {cs : List Int} (h : ∀ c ∈ cs, c ≤ 4000) : cs.sum ≤ 4000 * cs.length := by
  induction cs with
  | nil => simp
  | cons c r ih => have := ih fun x hx => h x (List.mem_cons_of_mem _ hx); have := h c List.mem_cons_self; simp only [List.sum_cons, List.length_cons]; omega
theorem Good.at_ {cs : List Int} (g : Good cs) {s : Nat} (h : s < cs.length) : 1 ≤ cs.getD s 0 := g.2.2 _ (List.mem_of_getElem? (get_getD h))
theorem Good.sum_pos {cs : List Int} (g : Good cs) : 0 < cs.sum := by
  obtain ⟨h1, _, h3⟩ := g
  cases cs with
  | nil => simp at h1
  | cons c r =>
    have := h3 c List.mem_cons_self
    have := sum_nn r fun y hy => by have := h3 y (List.mem_cons_of_mem _ hy); omega
    simp only [List.sum_cons]; omega
theorem Good.at_le {cs : List Int} (g : Good cs) {s : Nat} (h : s < cs.length) : cs.getD s 0 ≤ cs.sum := by
  have h1 := take_getD cs s h
  have h2 := take_mono cs g.nn (Nat.zero_le s)
  have h3 := take_mono cs g.nn (show s + 1 ≤ cs.length from h)
  rw [List.take_length] at h3
  simp at h2
  omega
theorem Good.signF_lt {cs : List Int} (g : Good cs) {x : Int} (h : x < cs.sum) : signF cs x < cs.length := by
  rcases G.signF_lt cs x h with q | q
  · exact q
  · subst q; have := g.1; simp at this
theorem div_le_self' {n c : Int} (h0 : 0 ≤ n) (hc : 1 ≤ c) : 0 ≤ n / c ∧ n / c ≤ n := ⟨Int.ediv_nonneg h0 (by omega), Int.ediv_le_self c h0⟩
end G

namespace G
open PySem L2
def spLaw (K : PySem.W.Frag) : Sp := fun vs H Q _ => ∃ (a : Addr) (ns : List Int), vs = [.ref a] ∧ SqL K H a (ns.map V.int) ∧ Only H ∧ ∀ H', Q (.bl true) H'
theorem law_sq {K : PySem.W.Frag} {H : Hp} {a : Addr} {xs : List V} (h : SqL K H a xs) : HS H [fz K a xs] := by
  rcases h with (h | ⟨q, h⟩) | h
  · refine ⟨sg a (.lst xs), fun b u z => ?_, fun b u z => ?_, fun _ t => t.elim, .inr rfl, trivial⟩
    · obtain ⟨rfl, rfl⟩ := sg_inv z; exact h
    · obtain ⟨_, rfl⟩ := sg_inv z; exact id
  · exact ⟨no, fun _ _ z => (by cases z), fun _ _ z => (by cases z), fun _ t => t.elim, .inl ⟨rfl, .inl ⟨q, h⟩⟩, trivial⟩
  · exact ⟨no, fun _ _ z => (by cases z), fun _ _ z => (by cases z), fun _ t => t.elim, .inl ⟨rfl, .inr h⟩, trivial⟩
theorem law_in {K : PySem.W.Frag} {H : Hp} {a : Addr} {ns : List Int} (h : SqL K H a (ns.map V.int)) (o : Only H) : HS H [fz K a (iv ns)] := law_sq h
theorem row_first {K : PySem.W.Frag} {H : Hp} {L : List SA} {p a : Addr} {ns : List Int} (h : HS H (pt p (.lst [.ref a, .int 0, .int 0, .int 0]) :: fz K a (iv ns) :: L)) : HS H (rowA K p :: L) :=
  HS.row_out ⟨by decide, by decide, by decide⟩ h
def spGreat (K : PySem.W.Frag) : Sp := fun vs H Q _ => ∃ p L, vs = [.ref p] ∧ HS H (rowA K p :: L) ∧ ∀ r H', 0 ≤ r → r < 2 ^ 1100 → HS H' (rowA K p :: L) → Q (.int r) H'
theorem c_great {K : PySem.W.Frag} {H : Hp} {Q : VK} {E : XK} {L F : List SA} {p : Addr} [hs : HS H L] [o : Own L p (rowA K p) F] (k : ∀ r H', 0 ≤ r → r < 2 ^ 1100 → HS H' (rowA K p :: F) → Q (.int r) H') : spGreat K [.ref p] H Q E :=
  ⟨p, F, rfl, hs.pk o.pk, k⟩
theorem pow_1100_1200 : (2 : Int) ^ 1100 ≤ 2 ^ 1200 := by
  have : (2 : Nat) ^ 1100 ≤ 2 ^ 1200 := Nat.pow_le_pow_right (by decide) (by decide)
  exact_mod_cast this
theorem pow64_1100 : (2 : Int) ^ 64 ≤ 2 ^ 1100 := by
  have : (2 : Nat) ^ 64 ≤ 2 ^ 1100 := Nat.pow_le_pow_right (by decide) (by decide)
  exact_mod_cast this
/-- the first of those that are in the share -/
theorem filter_sign {cs : List Int} {x : Int} (g : Good cs) (h0 : 0 ≤ x) (h1 : x < cs.sum) :
    (cs.take (signF cs x)).sum ≤ x ∧ x < (cs.take (signF cs x + 1)).sum ∧ ∀ j : Nat, j < cs.length → (cs.take j).sum ≤ x → x < (cs.take (j + 1)).sum → j = signF cs x := by
  have ex : ∀ n : Nat, n ≤ cs.length → (x < (cs.take n).sum) → ∃ j, j < n ∧ (cs.take j).sum ≤ x ∧ x < (cs.take (j + 1)).sum := by
    intro n
    induction n with
    | zero => intro _ h; simp at h; omega
    | succ n ih =>
      intro hn h
      by_cases q : x < (cs.take n).sum
      · obtain ⟨j, a, b⟩ := ih (by omega) q
        exact ⟨j, by omega, b⟩
      · exact ⟨n, by omega, by omega, h⟩
  obtain ⟨j, a, b, c⟩ := ex cs.length (Nat.le_refl _) (by rw [List.take_length]; exact h1)
  have e := signF_is cs x j g.nn a b c
  subst e
  exact ⟨b, c, fun i hi b c => signF_is cs x i g.nn hi b c⟩
/-- a method of a table -/
theorem s_mthSh {σ : L2.St} {H : Hp} {Q : VK} {L L' : List SA} {a C : Addr} {cs : List Int} {m : Str} {sp : Sp} {E : XK} {t : TA} [hs : HS H L] [o : Own L a (shR C a cs) L'] (l : (m == "signs") = false ∧ (m == "tree") = false) (h : t σ H fun vs H2 => sp (.ref a :: (vs ++ [])) H2 Q E) : mthK C m sp E t σ Q (.ref a) H := by
  obtain ⟨z, h2⟩ := (hs.pk o.pk).sh_in
  obtain ⟨dx, e⟩ := h2.ins
  exact ⟨a, dx, _, rfl, e, by simp only [List.lookup, l.1, l.2], h⟩
/-- what comes behind an if, once -/
theorem s_ifR {c : TT} {t u : TS} {D : Ends} {σ : L2.St} {H : Hp} (M : L2.St → Hp → Prop) (rest : ∀ σ' H', M σ' H' → D.nx σ' H') (h : ∀ N : L2.St → Hp → Prop, (∀ σ' H', M σ' H' → N σ' H') → c σ H fun b H1 => if b = true then t { D with nx := N } σ H1 else u { D with nx := N } σ H1) : tIfS c t u D σ H := h D.nx rest
/-- the same word, no instance by itself -/
def HSp (H : Hp) (L : List SA) : Prop := HS H L
theorem HS.to {H : Hp} {L L' : List SA} (h : HS H L) (r : Re L L') : HSp H L' := by haveI := r; exact h.re
theorem HS.dupT {H : Hp} {L : List SA} {t : Addr} {xs : List V} (h : HS H (tp t xs :: L)) : HS H (tp t xs :: tp t xs :: L) := HS.dup h
end G

namespace G
open PySem L2
local macro_rules | `(tactic| walk_at "s") => `(tactic| (first
  | with_reducible refine s_varV ?_
  | with_reducible refine s_seq ?_
  | with_reducible refine s_wh ?_
  | with_reducible refine s_asg ?_
  | with_reducible refine s_nameV ?_
  | with_reducible refine s_op ?_
  | with_reducible refine s_c ?_
  | with_reducible refine s_cons ?_
  | with_reducible refine s_nil ?_
  | with_reducible refine s_test ?_
  | with_reducible refine s_tst ?_
  | with_reducible refine s_if ?_
  | with_reducible refine s_add ?_
  | with_reducible refine s_sub ?_
  | with_reducible refine s_eq ?_
  | with_reducible refine s_ne ?_
  | with_reducible refine s_lt ?_
  | with_reducible refine s_le ?_
  | with_reducible refine s_gt ?_
  | with_reducible refine s_ge ?_
  | with_reducible refine s_bitand ?_
  | with_reducible refine s_drop ?_
  | with_reducible refine s_ret ?_
  | with_reducible refine s_retN ?_
  | with_reducible refine s_next ?_
  | with_reducible refine s_cb ?_
  | with_reducible refine s_call ?_
  | with_reducible refine s_mth ?_
  | with_reducible refine s_fld ?_
  | with_reducible refine s_put ?_
  | with_reducible refine s_for ?_
  | with_reducible refine s_rng1 ?_
  | with_reducible refine s_rng2 ?_
  | with_reducible refine s_rng3 ?_
  | with_reducible refine s_join ?_
  | with_reducible refine s_idx ?_
  | with_reducible refine s_starts ?_
  | with_reducible refine s_sstK ?_
  | with_reducible refine s_idK ?_
  | with_reducible refine s_joK ?_
  | with_reducible refine s_m1 ?_
  | with_reducible refine s_callS ?_
  | with_reducible refine s_mthS ?_
  | with_reducible refine s_try ?_
  | with_reducible refine s_m1K ?_
  | with_reducible refine s_rev ?_
  | with_reducible refine s_not ?_
  | with_reducible refine s_and ?_
  | with_reducible refine s_or ?_
  | with_reducible refine s_tB ?_
  | with_reducible refine s_andV ?_
  | with_reducible refine s_orV ?_
  | with_reducible refine s_notV ?_
  | with_reducible refine s_andK ?_
  | with_reducible refine s_orK ?_
  | with_reducible refine s_notK ?_
  | with_reducible refine s_chain ?_
  | with_reducible refine s_chain3 ?_
  | with_reducible refine s_chK3 ?_
  | with_reducible refine s_chK4 ?_
  | with_reducible refine s_lstRg ?_
  | with_reducible refine s_lstZip ?_
  | with_reducible refine s_zipA ?_
  | with_reducible refine s_un ?_
  | with_reducible refine s_neg ?_
  | with_reducible refine s_dget ?_
  | with_reducible refine s_dget2 ?_
  | with_reducible refine s_dg2T ?_
  | with_reducible refine s_dput ?_
  | with_reducible refine s_dnotin ?_
  | with_reducible refine s_pnil ?_
  | with_reducible refine s_pcons ?_
  | with_reducible refine s_rg1 ?_
  | with_reducible refine s_rg1K ?_
  | with_reducible refine s_chK ?_
  | with_reducible refine s_ife ?_
  | with_reducible refine s_par ?_
  | with_reducible refine s_parK ?_
  | with_reducible refine s_par3 ?_
  | with_reducible refine s_parK3 ?_
  | with_reducible refine s_lst ?_
  | with_reducible refine s_tup ?_
  | with_reducible refine s_lc ?_
  | with_reducible refine s_yes ?_
  | with_reducible refine s_make ?_
  | with_reducible refine s_gsub ?_
  | with_reducible refine s_sl ?_
  | with_reducible refine s_noPart ?_
  | with_reducible refine s_part ?_
  | with_reducible refine s_partK ?_
  | with_reducible refine s_bm ?_
  | with_reducible refine s_bm0 ?_
  | with_reducible refine s_gnil ?_
  | with_reducible refine s_gcons ?_
  | with_reducible refine s_int ?_
  | with_reducible refine s_intB ?_
  | with_reducible refine i_t ?_
  | with_reducible refine i_f ?_
  | with_reducible refine i_nf ?_
  | with_reducible refine i_nt ?_
  | with_reducible refine s_eqS ?_
  | with_reducible refine s_neS ?_
  | with_reducible refine s_eqB ?_
  | with_reducible refine s_neB ?_))
local macro_rules | `(tactic| walk_at "f") => `(tactic| (((with_reducible refine' s_fldK ?c ?n ?l ?k); (case c => assumption); (case n => assumption); (case l => exact rfl))))
local macro_rules | `(tactic| walk_at "m") => `(tactic| (first | ((with_reducible refine' s_mthK ?l ?k); (case l => exact rfl)) | ((with_reducible refine' s_mthSh ?l ?k); (case l => exact ⟨rfl, rfl⟩)) | ((with_reducible refine' s_mthMo ?l ?k); (case l => exact fun _ _ => rfl)) | ((with_reducible refine' s_mthEx ?l ?k); (case l => exact fun _ _ _ _ => rfl)) | ((with_reducible refine' s_mthWr ?l ?k); (case l => exact fun _ _ _ _ _ _ _ _ _ => rfl)) | ((with_reducible refine' s_mthWd ?l ?k); (case l => exact fun _ _ => rfl)) | ((with_reducible refine' s_mthRd ?l ?k); (case l => exact fun _ _ _ _ _ _ _ _ _ => rfl))))
local macro_rules | `(tactic| walk_at "v") => `(tactic| (((with_reducible refine' s_var ?e ?k); (case e => exact rfl))))
local macro_rules | `(tactic| walk_at "n") => `(tactic| (with_reducible refine s_name ?_))
local macro_rules | `(tactic| walk_at "g") => `(tactic| (repeat (first | walk_at "s" | walk_at "f" | walk_at "m" | walk_at "v" | walk_at "n")))
local macro_rules | `(tactic| walk_at "p") => `(tactic| (((with_reducible refine' s_putK ?c ?n ?z ?e ?k); (case c => assumption); (case n => assumption); (case z => exact (Nat.le_of_ble_eq_true rfl)); (case e => (simp (config := { decide := true }) only [putF, if_true, if_false]; rfl)))))
local macro_rules | `(tactic| walk_at "z") => `(tactic| (first | exact Nat.zero_le _ | exact small_line (by simp) | decide))
local macro_rules | `(tactic| walk_at "e") => `(tactic| (first | (refine i_y rfl ?_; walk_at "g") | (refine i_n (by decide +kernel) ?_; walk_at "g") | (refine i_nd (fun n => absurd rfl n) (fun _ => ?_); walk_at "g") | (refine i_nd (fun _ => ?_) (fun q => absurd q (by decide +kernel)); walk_at "g")))
local macro_rules | `(tactic| walk_at "b") => `(tactic| (repeat (first | with_reducible refine s_seq ?_ | with_reducible refine s_next ?_ | with_reducible refine s_add ?_ | with_reducible refine s_nil ?_ | with_reducible refine s_cons ?_ | with_reducible refine s_parK ?_ | with_reducible refine s_parK3 ?_ | with_reducible refine s_drop ?_ | with_reducible refine s_gnil ?_ | with_reducible refine s_gcons ?_ | with_reducible refine s_nameV ?_ | walk_at "n" | walk_at "v")))

/-- 1 + taken(row, m) -/
abbrev t_tk (K : PySem.W.Frag) (r : Nat) (m : TE) : TE := tCall (spTaken K) [] E0 (tCons (tVar r) (tCons m tNil))
abbrev t_pick (K : PySem.W.Frag) (r : Nat) (a b : TE) : TE := tOp (rIx K) (tLst (tCons a (tCons b tNil))) (t_tk K r (tC (.int 2)))
section
variable {K : PySem.W.Frag} {σ : L2.St} {H : Hp} {Q : VK} {L F : List SA} {p : Addr} {i n a b : Int} {r j : Nat}
/-- taken(row, [a, b][taken(row, 2)]) -/
theorem w_pick [hs : HS H L] [o : Own L p (rowA K p) F] (hv : σ[r]? = some (some (.ref p))) (k : ∀ z H', z = a ∨ z = b → HS H' (rowA K p :: F) → Q (.int z) H') : t_pick K r (tC (.int a)) (tC (.int b)) σ H Q := by
  have v : SlV σ r (.ref p) := ⟨hv⟩
  have hs1 : HS H (rowA K p :: F) := hs.pk o.pk
  walk_at "g"
  refine s_lstN (by walk_at "z") fun q H' hs => ?_
  walk_at "g"
  refine c_taken (by decide) (by decide) fun x H' r0 r1 hs => ?_
  obtain ⟨z, hz, hz2⟩ := pick2 (a := a) (b := b) r0 r1
  refine s_ixL hz ?_
  exact k z _ hz2 hs.re
theorem w_takePick [hs : HS H L] [o : Own L p (rowA K p) F] (hv : σ[r]? = some (some (.ref p))) (ha : 0 < a ∧ a < 2 ^ 64) (hb : 0 < b ∧ b < 2 ^ 64) (k : ∀ z H', 0 ≤ z → z < max a b → HS H' (rowA K p :: F) → Q (.int z) H') : t_tk K r (t_pick K r (tC (.int a)) (tC (.int b))) σ H Q := by
  have v : SlV σ r (.ref p) := ⟨hv⟩
  have hs1 : HS H (rowA K p :: F) := hs.pk o.pk
  refine s_call ?_
  refine s_cons ?_
  refine s_varV ?_
  refine s_cons ?_
  refine w_pick hv fun z H' hz hs => ?_
  walk_at "g"
  have hz3 : 0 < z ∧ z < 2 ^ 64 ∧ z ≤ max a b := by rcases hz with rfl | rfl <;> omega
  refine c_taken hz3.1 hz3.2.1 fun x H' x0 x1 hs => ?_
  exact k _ _ x0 (by omega) hs
/-- [1 + taken(row, [a, b][taken(row, 2)]) for sign in range(n)] -/
theorem w_counts [hs : HS H L] [o : Own L p (rowA K p) F] {vs : List Nat} (n1 : 1 ≤ n) (n8 : n ≤ 8) (hw : ∀ x, wipe ((wipe σ vs).set j (some x)) vs = wipe σ vs) (hv : ∀ x, ((wipe σ vs).set j (some x))[r]? = some (some (.ref p)))
    (ha : 0 < a ∧ a ≤ 4000) (hb : 0 < b ∧ b ≤ 4000) (k : ∀ D H' cs, cs.length = n.toNat → Good cs → (∀ c ∈ cs, c ≤ 4000) → HS H' (pt D (.lst (iv cs)) :: rowA K p :: F) → Q (.ref D) H') :
    lcK (gName j) tYes (tOp (rAdd K) (tC (.int 1)) (t_tk K r (t_pick K r (tC (.int a)) (tC (.int b))))) vs σ Q (Itr 0 n.toNat) H := by
  have hs1 : HS H (rowA K p :: F) := hs.pk o.pk
  refine c_range (fun D i H => ∃ cs : List Int, cs.length = i ∧ (∀ c ∈ cs, 1 ≤ c ∧ c ≤ 4000) ∧ HS H (pt D (.lst (iv cs)) :: rowA K p :: F)) (fun D H' h => ⟨[], rfl, by simp, h⟩) ?_ ?_
  · rintro D i H hi ⟨cs, hl, hc, hs⟩
    refine ⟨hw _, ?_⟩
    refine s_yes (i_t ?_)
    refine s_op (s_c ?_)
    refine w_takePick (hv _) (by omega) (by omega) fun z H' z0 z1 hs => ?_
    refine s_add ?_
    have hs := (hs.re : HS H' (pt D (.lst (iv cs)) :: rowA K p :: F))
    refine s_acc (small_lt (by rw [iv_len]; omega)) fun H' hs => ?_
    refine ⟨cs ++ [1 + z], by simp [hl], ?_, by rw [iv_app]; exact hs⟩
    intro c hc'
    rcases List.mem_append.mp hc' with q | q
    · exact hc c q
    · have := List.mem_singleton.mp q
      omega
  · rintro D H ⟨cs, hl, hc, hs⟩
    exact k D H cs hl ⟨by omega, by omega, fun c q => (hc c q).1⟩ (fun c q => (hc c q).2) hs
end
end G

namespace G
open PySem L2
theorem call_sortedIK {X : Cx} {K : PySem.W.Frag} (h : X.K = K) : CallR X (.builtin "sorted") (rSortedI K) := h ▸ cr_sortedI
def chK4 (r'' : R2) (w : V) (td : TE) (σ : L2.St) (Q : VK) (z2 : V) (H5 : Hp) : Prop := ∃ k, z2 = .bl k ∧ (if k = true then td σ H5 fun w2 H6 => r'' w w2 H6 Q else Q (.bl false) H5)
def chK3 (r' r'' : R2) (y : V) (tc td : TE) (σ : L2.St) (Q : VK) (z : V) (H3 : Hp) : Prop := ∃ k, z = .bl k ∧ (if k = true then tc σ H3 fun w H4 => r' y w H4 fun z2 H5 => chK4 r'' w td σ Q z2 H5 else Q (.bl false) H3)
def tChain3 (r r' r'' : R2) (ta tb tc td : TE) : TE := fun σ H Q => ta σ H fun x H1 => tb σ H1 fun y H2 => r x y H2 fun z H3 => chK3 r' r'' y tc td σ Q z H3
section
open PySem PySem.Spec PyProof.Rows
variable {X : Cx} {a b c d : Expr} {pos : Pos} {ta tb tc td : TE}
theorem pt_chain3 {op op' op'' : CmpOp} {r r' r'' : R2} (ho : OpR X (compareOp op) r) (ho' : OpR X (compareOp op') r') (ho'' : OpR X (compareOp op'') r'') (ha : PE X a ta) (hb : PE X b tb) (hc : PE X c tc) (hd : PE X d td)
    (hm : lastMarks [op, op', op''] [b, c, d] = false := by with_unfolding_all rfl) : PT X (.Compare a [op, op', op''] [b, c, d] pos) (tTest (tChain3 r r' r'' ta tb tc td)) := by
  refine ⟨fun pins s σ H Q I h => ?_⟩
  refine isTrue_chain (thn (ha.run pins s σ H _ I h) fun v s1 ⟨x, H1, I1, r1, q1⟩ => test_link (thn (hb.run pins s1 σ H1 _ I1 q1) fun u s2 ⟨y, H2, I2, r2, q2⟩ =>
    thn (ho pins s2 σ H2 x y v u _ I2 r1 r2 q2) fun d s3 ⟨z, H3, I3, r3, k, e, q3⟩ => ?_)) hm
  subst e
  cases r3
  refine wpAny_truthy_bool ?_
  cases k with
  | false =>
    obtain ⟨k', e', q'⟩ := q3
    cases e'
    exact ite_ff ⟨H3, I3, q'⟩
  | true =>
    refine ite_tt (test_link (thn (hc.run pins s3 σ H3 _ I3 q3) fun w' s4 ⟨z', H4, I4, r4, q4⟩ => thn (ho' pins s4 σ H4 y z' u w' _ I4 r2 r4 q4) fun d2 s5 ⟨z2, H5, I5, r5, k2, e2, q5⟩ => ?_))
    subst e2
    cases r5
    refine wpAny_truthy_bool ?_
    cases k2 with
    | false =>
      obtain ⟨k', e', q'⟩ := q5
      cases e'
      exact ite_ff ⟨H5, I5, q'⟩
    | true =>
      refine ite_tt (test_last (thn (hd.run pins s5 σ H5 _ I5 q5) fun w2 s6 ⟨z6, H6, I6, r6, q6⟩ => thn (ho'' pins s6 σ H6 z' z6 w' w2 _ I6 r4 r6 q6) fun d3 s7 ⟨z7, H7, I7, r7, k7, e7, q7⟩ => ?_))
      subst e7
      cases r7
      exact wpAny_truthy_bool ⟨H7, I7, q7⟩
end
section
variable {σ : L2.St} {H : Hp} {Q : VK} {y w : V} {ta tb tc td : TE}
theorem s_chain3 {r r' r'' : R2} (h : ta σ H fun x H1 => tb σ H1 fun y H2 => r x y H2 fun z H3 => chK3 r' r'' y tc td σ Q z H3) : tChain3 r r' r'' ta tb tc td σ H Q := h
theorem s_chK3 {r' r'' : R2} {b : Bool} (h : if b = true then tc σ H fun w H4 => r' y w H4 fun z2 H5 => chK4 r'' w td σ Q z2 H5 else Q (.bl false) H) : chK3 r' r'' y tc td σ Q (.bl b) H := ⟨b, rfl, h⟩
theorem s_chK4 {r'' : R2} {b : Bool} (h : if b = true then td σ H fun w2 H6 => r'' w w2 H6 Q else Q (.bl false) H) : chK4 r'' w td σ Q (.bl b) H := ⟨b, rfl, h⟩
end
end G

namespace G
open PySem L2
def spStands (K : PySem.W.Frag) (C : Addr) : Sp := fun vs H Q _ => ∃ p s o cs L, vs = [.ref p, .ref s, .ref o] ∧ HS H (rowA K p :: shR C s cs :: pt o (.lst (iv cs)) :: L) ∧ Good cs ∧ cs.sum < 2 ^ 60 ∧ ∀ H', HS H' (rowA K p :: shR C s cs :: pt o (.lst (iv cs)) :: L) → Q (.bl true) H'
theorem c_stands {K : PySem.W.Frag} {C : Addr} {H : Hp} {Q : VK} {E : XK} {L F1 F2 F3 : List SA} {p s o : Addr} {cs : List Int} [hs : HS H L] [o1 : Own L p (rowA K p) F1] [o2 : Own F1 s (shR C s cs) F2] [o3 : Own F2 o (pt o (.lst (iv cs))) F3] (g : Good cs) (hz : cs.sum < 2 ^ 60)
    (k : ∀ H', HS H' (rowA K p :: shR C s cs :: pt o (.lst (iv cs)) :: F3) → Q (.bl true) H') : spStands K C [.ref p, .ref s, .ref o] H Q E := ⟨p, s, o, cs, F3, rfl, hs.pk3 o1.pk o2.pk o3.pk, g, hz, k⟩
/-- all counts no greater than B -/
def Upto (B : Int) (cs : List Int) : Prop := ∀ c ∈ cs, c ≤ B
theorem upto_sum {B : Int} (h0 : 0 ≤ B) {cs : List Int} (h : Upto B cs) : cs.sum ≤ B * cs.length := by
  induction cs with
  | nil => simp
  | cons c r ih =>
    have := ih fun x hx => h x (List.mem_cons_of_mem _ hx)
    have := h c List.mem_cons_self
    simp only [List.sum_cons, List.length_cons]
    push_cast
    rw [Int.mul_add]
    omega
theorem good_set {cs : List Int} (g : Good cs) (s : Nat) {x : Int} (hx : 1 ≤ x) : Good (cs.set s x) := ⟨by rw [List.length_set]; exact g.1, by rw [List.length_set]; exact g.2.1, fun c hc => by
  rcases List.mem_or_eq_of_mem_set hc with q | q
  · exact g.2.2 c q
  · omega⟩
theorem upto_set {B : Int} {cs : List Int} (g : Upto B cs) (s : Nat) {x : Int} (hx : x ≤ B) : Upto B (cs.set s x) := fun c hc => by
  rcases List.mem_or_eq_of_mem_set hc with q | q
  · exact g c q
  · omega
theorem good_halves {cs : List Int} (g : Good cs) : Good (halves cs) := ⟨by rw [halves, List.length_map]; exact g.1, by rw [halves, List.length_map]; exact g.2.1, fun c hc => by
  obtain ⟨x, hx, rfl⟩ := List.mem_map.mp hc
  have := g.2.2 x hx
  omega⟩
theorem upto_halves {B : Int} {cs : List Int} (hB : 1 ≤ B) (g : Upto B cs) : Upto B (halves cs) := fun c hc => by
  obtain ⟨x, hx, rfl⟩ := List.mem_map.mp hc
  have := g x hx
  omega
theorem Upto.mono {B B' : Int} (h : B ≤ B') {cs : List Int} (g : Upto B cs) : Upto B' cs := fun c hc => Int.le_trans (g c hc) h
/-- the sides under way -/
def Sides (C : Addr) (B : Int) (ts : List V) (F : List SA) : Prop := (ts = [] ∧ F = []) ∨
  (∃ t s o cs, ts = [.ref t] ∧ F = [tp t [.ref s, .ref o], shR C s cs, pt o (.lst (iv cs))] ∧ Good cs ∧ Upto B cs) ∨
  (∃ t s o cs t' s' o' cs', ts = [.ref t, .ref t'] ∧ F = [tp t' [.ref s', .ref o'], shR C s' cs', pt o' (.lst (iv cs')), tp t [.ref s, .ref o], shR C s cs, pt o (.lst (iv cs))] ∧ Good cs ∧ Upto B cs ∧ Good cs' ∧ Upto B cs')
theorem Sides.add {C : Addr} {B : Int} {ts : List V} {F : List SA} (h : Sides C B ts F) (hl : ts.length < 2) {t s o : Addr} {cs : List Int} (g : Good cs) (u : Upto B cs) : Sides C B (ts ++ [.ref t]) (tp t [.ref s, .ref o] :: shR C s cs :: pt o (.lst (iv cs)) :: F) := by
  rcases h with ⟨rfl, rfl⟩ | ⟨t0, s0, o0, cs0, rfl, rfl, g0, u0⟩ | ⟨t0, s0, o0, cs0, t1, s1, o1, cs1, rfl, _⟩
  · exact .inr (.inl ⟨t, s, o, cs, rfl, rfl, g, u⟩)
  · exact .inr (.inr ⟨t0, s0, o0, cs0, t, s, o, cs, rfl, rfl, g0, u0, g, u⟩)
  · simp at hl
/-- the law's halving, so far -/
def halfTo (cs : List Int) (j : Nat) : List Int := (halves cs).take j ++ cs.drop j
theorem halfTo_len (cs : List Int) (j : Nat) (h : j ≤ cs.length) : (halfTo cs j).length = cs.length := by simp [halfTo, halves]; omega
theorem halfTo_at (cs : List Int) (j : Nat) (h : j < cs.length) : (halfTo cs j)[j]? = some (cs.getD j 0) := by
  unfold halfTo
  rw [List.getElem?_append_right (by simp [halves]; omega)]
  simp only [halves, List.length_take, List.length_map, List.getElem?_drop]
  rw [show j + (j - min j cs.length) = j by omega]
  exact get_getD h
theorem halfTo_set (cs : List Int) (j : Nat) (h : j < cs.length) : (halfTo cs j).set j (cs.getD j 0 - cs.getD j 0 / 2) = halfTo cs (j + 1) := by
  apply List.ext_getElem?
  intro i
  have hl := halfTo_len cs j (by omega)
  rw [List.getElem?_set]
  by_cases e : j = i
  · subst e
    rw [if_pos rfl, if_pos (by omega)]
    unfold halfTo
    rw [List.getElem?_append_left (by simp [halves]; omega), List.getElem?_take_of_lt (by omega)]
    simp only [halves, List.getElem?_map, get_getD h, Option.map_some]
    congr 1
    omega
  · rw [if_neg e]
    unfold halfTo
    by_cases q : i < j
    · rw [List.getElem?_append_left (by simp [halves]; omega), List.getElem?_append_left (by simp [halves]; omega), List.getElem?_take_of_lt q, List.getElem?_take_of_lt (by omega)]
    · rw [List.getElem?_append_right (by simp [halves]; omega), List.getElem?_append_right (by simp [halves]; omega)]
      simp only [halves, List.length_take, List.length_map, List.getElem?_drop]
      congr 1
      omega
/-- the sign of a border's number, of that below the next -/
theorem signF_begin {cs : List Int} (g : Good cs) {j : Nat} (h : j < cs.length) : signF cs (cs.take j).sum = j ∧ signF cs ((cs.take j).sum + cs.getD j 0 - 1) = j := by
  have e := take_getD cs j h
  have c1 := g.at_ h
  exact ⟨(signF_is cs _ j g.nn h (by omega) (by omega)).symm, (signF_is cs _ j g.nn h (by omega) (by omega)).symm⟩
theorem take_le {cs : List Int} (g : Good cs) {j : Nat} (h : j ≤ cs.length) : 0 ≤ (cs.take j).sum ∧ (cs.take j).sum ≤ cs.sum := by
  have h2 := take_mono cs g.nn (Nat.zero_le j)
  have h3 := take_mono cs g.nn h
  rw [List.take_length] at h3
  simp at h2
  exact ⟨h2, h3⟩
end G

/-! list(zip(a, b)) of two lists. -/
namespace ZL
open PySem PySem.Calls PyProof.Rows PyProof.V PySem.Spec
/-- a zip whose last pair was handed out and lives -/
abbrev Zo (h : Heap) (z TI TO a : Addr) (f : Bool) : Prop :=
  h.get? z = some { cls := .type "zip", dict := none, data := .fields #[rawInt a, .bool f, .bool false, .ref TI, .ref TO], slots := #[] }
section
variable {prog : Program} {w : World} {A : Around} {E : Value → Shared → Prop} {s : Shared}
theorem free_no {z TI TO a : Addr} {f : Bool} {oa : Obj} {Q : Bool → Shared → Prop} (hz : Zo s.heap z TI TO a f) (ha : s.heap.get? a = some oa)
    (h : ∀ h', Zo h' z TI TO a true → Heap.SameBut z s.heap h' → Q false { s with heap := h' }) : wpAny (model prog w) A (Builtin.SmallTypes.ownedTupleIsFree (.ref z)) Q E s := by
  unfold Builtin.SmallTypes.ownedTupleIsFree
  refine wpAny_bind (wpAny_field hz rfl (x := rawInt a) rfl ?_)
  show wpAny _ _ (loadIfAlive a >>= _) _ _ _
  refine wpAny_bind (PySem.W.kdx_alive ha ?_)
  cases f with
  | false =>
    show wpAny _ _ (field (.ref z) 1 >>= _) _ _ _
    refine wpAny_bind (wpAny_field hz rfl (x := .bool false) rfl ?_)
    rw [if_pos (by decide)]
    refine wpAny_bind (wpAny_setField_rec hz (by simp) fun h' hz' hs' => ?_)
    exact wpAny_pure (h h' hz' hs')
  | true =>
    show wpAny _ _ (field (.ref z) 1 >>= _) _ _ _
    refine wpAny_bind (wpAny_field hz rfl (x := .bool true) rfl ?_)
    rw [if_neg (by decide)]
    refine wpAny_bind (wpAny_pure (wpAny_pure ?_))
    exact h s.heap hz ⟨rfl, fun _ _ => rfl⟩
theorem out_item {z TI TO i1 i2 l1 l2 a : Addr} {f : Bool} {oa : Obj} {k1 k2 : Nat} {xs ys : Array Value} {x y : Value} {Q : Value → Shared → Prop} (D : ZipApart z TI TO i1 i2 l1 l2)
    (hz : Zo s.heap z TI TO a f) (ha : s.heap.get? a = some oa) (hTI : IsPair s.heap TI (.ref i1) (.ref i2))
    (h1 : s.heap.IsListIter i1 l1 k1) (h2 : s.heap.IsListIter i2 l2 k2) (hl1 : s.heap.IsList l1 xs) (hl2 : s.heap.IsList l2 ys) (hx : xs[k1]? = some x) (hy : ys[k2]? = some y)
    (hQ : ∀ h', Zo h' z TI TO a true → h'.IsListIter i1 l1 (k1 + 1) → h'.IsListIter i2 l2 (k2 + 1) → IsPair h' s.heap.objs.size x y → h'.objs.size = s.heap.objs.size + 1 →
      (∀ c o, c ≠ z → c ≠ i1 → c ≠ i2 → s.heap.get? c = some o → h'.get? c = some o) → Q (.ref s.heap.objs.size) { s with heap := h' }) :
    wpAny (model prog w) A (Builtin.«zip.__next__» ⟨[.ref z], []⟩) (fun fin s' => ∃ v, fin = .done (.ret v) ∧ Q v s') E s := by
  show wpAny _ _ (field (.ref z) 2 >>= _) _ _ _
  refine wpAny_bind (wpAny_field hz rfl (x := .bool false) rfl ?_)
  show wpAny _ _ (field (.ref z) 3 >>= _) _ _ _
  refine wpAny_bind (wpAny_field hz rfl (x := .ref TI) rfl ?_)
  refine wpAny_bind (wpAny_seqItems hTI rfl ?_)
  show wpAny _ _ (Builtin.SmallTypes.ownedTupleIsFree (.ref z) >>= _) _ _ _
  refine wpAny_bind (free_no hz ha fun h₁ hz₁ hs₁ => ?_)
  rw [if_neg Bool.false_ne_true]
  refine wpAny_bind ?_
  rw [← Array.forIn_toList]
  simp only [List.forIn_cons, List.forIn_nil]
  refine wpAny_bind (wpAny_bind (wpAny_holding ?_))
  show wpAny _ _ (Builtin.SmallTypes.nextOf (.ref i1) >>= _) _ _ _
  refine wpAny_bind (wpAny_nextOf_list_item (h1.extBut hs₁.extBut D.i1z) (hl1.extBut hs₁.extBut D.l1z) hx fun h₂ h1₂ hs₂ => wpAny_pure (wpAny_pure ?_))
  refine wpAny_bind (wpAny_bind (wpAny_holding ?_))
  show wpAny _ _ (Builtin.SmallTypes.nextOf (.ref i2) >>= _) _ _ _
  refine wpAny_bind (wpAny_nextOf_list_item ((h2.extBut hs₁.extBut D.i2z).extBut hs₂.extBut D.i12.symm) ((hl2.extBut hs₁.extBut D.l2z).extBut hs₂.extBut D.l2i1) hy fun h₃ h2₃ hs₃ => wpAny_pure (wpAny_pure (wpAny_pure ?_)))
  have hsz : h₃.objs.size = s.heap.objs.size := by rw [hs₃.1, hs₂.1, hs₁.1]
  have hz₃ : Zo h₃ z TI TO a true := hs₃.extBut _ _ D.i2z.symm (hs₂.extBut _ _ D.i1z.symm hz₁)
  have hk₃ : ∀ c o, c ≠ z → c ≠ i1 → c ≠ i2 → s.heap.get? c = some o → h₃.get? c = some o := fun c o c1 c3 c4 e => hs₃.extBut _ _ c4 (hs₂.extBut _ _ c3 (hs₁.extBut _ _ c1 e))
  have h1₃ : h₃.IsListIter i1 l1 (k1 + 1) := h1₂.extBut hs₃.extBut D.i12
  refine wpAny_bind (wpAny_newTuple ?_ (show 2 ≤ sizeLine by decide))
  refine wpAny_pure ⟨_, rfl, ?_⟩
  show Q (.ref h₃.objs.size) _
  have up : ∀ c o, h₃.get? c = some o → (h₃.push { cls := .type "tuple", data := .seq #[x, y] }).get? c = some o := fun c o e => Heap.get?_push_of_some _ e
  have hT : IsPair (h₃.push { cls := .type "tuple", data := .seq #[x, y] }) h₃.objs.size x y := Heap.get?_push_size _ rfl
  have q := hQ (h₃.push { cls := .type "tuple", data := .seq #[x, y] }) (up _ _ hz₃) (h1₃.at fun o e => up _ o e) (h2₃.at fun o e => up _ o e) (by rw [← hsz]; exact hT) (by rw [Heap.size_push, hsz]) fun c o c1 c2 c3 e => up c o (hk₃ c o c1 c2 c3 e)
  rw [hsz]
  exact q
theorem out_end {z TI TO i1 i2 l1 l2 a : Addr} {f : Bool} {oa : Obj} {k1 k2 : Nat} {xs ys : Array Value} {Q : Fin → Shared → Prop} (hh : A.handled = none) (D : ZipApart z TI TO i1 i2 l1 l2)
    (hz : Zo s.heap z TI TO a f) (ha : s.heap.get? a = some oa) (hTI : IsPair s.heap TI (.ref i1) (.ref i2))
    (h1 : s.heap.IsListIter i1 l1 k1) (h2 : s.heap.IsListIter i2 l2 k2) (hl1 : s.heap.IsList l1 xs) (hl2 : s.heap.IsList l2 ys) (hx : xs[k1]? = none)
    (hE : ∀ h' e, (∀ c o, c ≠ z → c ≠ i1 → c ≠ i2 → s.heap.get? c = some o → h'.get? c = some o) → (∃ o, h'.get? e = some o ∧ o.cls = .type "StopIteration") → E (.ref e) { s with heap := h' }) :
    wpAny (model prog w) A (Builtin.«zip.__next__» ⟨[.ref z], []⟩) Q E s := by
  show wpAny _ _ (field (.ref z) 2 >>= _) _ _ _
  refine wpAny_bind (wpAny_field hz rfl (x := .bool false) rfl ?_)
  show wpAny _ _ (field (.ref z) 3 >>= _) _ _ _
  refine wpAny_bind (wpAny_field hz rfl (x := .ref TI) rfl ?_)
  refine wpAny_bind (wpAny_seqItems hTI rfl ?_)
  show wpAny _ _ (Builtin.SmallTypes.ownedTupleIsFree (.ref z) >>= _) _ _ _
  refine wpAny_bind (free_no hz ha fun h₁ hz₁ hs₁ => ?_)
  rw [if_neg Bool.false_ne_true]
  refine wpAny_bind ?_
  rw [← Array.forIn_toList]
  simp only [List.forIn_cons, List.forIn_nil]
  refine wpAny_bind (wpAny_bind (wpAny_holding ?_))
  show wpAny _ _ (Builtin.SmallTypes.nextOf (.ref i1) >>= _) _ _ _
  refine wpAny_bind (wpAny_nextOf_list_end hh (h1.extBut hs₁.extBut D.i1z) (hl1.extBut hs₁.extBut D.l1z) hx fun h₂ e hs₂ he => ?_)
  exact hE h₂ e (fun c o c1 c3 _ x => hs₂ _ _ c3 (hs₁.extBut _ _ c1 x)) he
theorem next_item {z TI TO i1 i2 l1 l2 a : Addr} {f : Bool} {oa : Obj} {k1 k2 : Nat} {xs ys : Array Value} {x y : Value} {Q : Option Value → Shared → Prop} (D : ZipApart z TI TO i1 i2 l1 l2)
    (hz : Zo s.heap z TI TO a f) (ha : s.heap.get? a = some oa) (hTI : IsPair s.heap TI (.ref i1) (.ref i2))
    (h1 : s.heap.IsListIter i1 l1 k1) (h2 : s.heap.IsListIter i2 l2 k2) (hl1 : s.heap.IsList l1 xs) (hl2 : s.heap.IsList l2 ys) (hx : xs[k1]? = some x) (hy : ys[k2]? = some y)
    (hQ : ∀ h', Zo h' z TI TO a true → h'.IsListIter i1 l1 (k1 + 1) → h'.IsListIter i2 l2 (k2 + 1) → IsPair h' s.heap.objs.size x y → h'.objs.size = s.heap.objs.size + 1 →
      (∀ c o, c ≠ z → c ≠ i1 → c ≠ i2 → s.heap.get? c = some o → h'.get? c = some o) → Q (some (.ref s.heap.objs.size)) { s with heap := h' }) :
    wpAny (model prog w) A (pyNext (.ref z)) Q E s := by
  have hT : s.TypeIs (.ref z) "zip" := ⟨_, hz, rfl⟩
  unfold pyNext
  exact wpAny_bind (wpAny_attempt (wpAny_callSpecial?_slot (name := Str.ofString "__next__") hT PySem.F.slot_zip_next
    (wpAny_call_entry PySem.F.slot_zip_next hT PySem.F.entry_zip_next
      (out_item D hz ha hTI h1 h2 hl1 hl2 hx hy fun h' a1 a2 a3 a4 a5 a6 => wpAny_pure (hQ h' a1 a2 a3 a4 a5 a6)) (PySem.F.args_zip_next_1 _))))
theorem next_end {z TI TO i1 i2 l1 l2 a : Addr} {f : Bool} {oa : Obj} {k1 k2 : Nat} {xs ys : Array Value} {Q : Option Value → Shared → Prop} (hh : A.handled = none) (D : ZipApart z TI TO i1 i2 l1 l2)
    (hz : Zo s.heap z TI TO a f) (ha : s.heap.get? a = some oa) (hTI : IsPair s.heap TI (.ref i1) (.ref i2))
    (h1 : s.heap.IsListIter i1 l1 k1) (h2 : s.heap.IsListIter i2 l2 k2) (hl1 : s.heap.IsList l1 xs) (hl2 : s.heap.IsList l2 ys) (hx : xs[k1]? = none)
    (hQ : ∀ h', (∀ c o, c ≠ z → c ≠ i1 → c ≠ i2 → s.heap.get? c = some o → h'.get? c = some o) → Q none { s with heap := h' }) : wpAny (model prog w) A (pyNext (.ref z)) Q E s := by
  have hT : s.TypeIs (.ref z) "zip" := ⟨_, hz, rfl⟩
  unfold pyNext
  refine wpAny_bind (wpAny_attempt (wpAny_callSpecial?_slot (name := Str.ofString "__next__") hT PySem.F.slot_zip_next
    (wpAny_call_entry PySem.F.slot_zip_next hT PySem.F.entry_zip_next (out_end hh D hz ha hTI h1 h2 hl1 hl2 hx fun h' e hk he => ?_) (PySem.F.args_zip_next_1 _))))
  obtain ⟨o, ho, hc⟩ := he
  refine wpAny_bind (wpAny_isInstance (T := "StopIteration") (b := true) ⟨o, ho, hc⟩ isSubtype_stop ?_)
  exact wpAny_pure (hQ _ hk)
/-- a zip at its i-th pair, fresh or under way -/
structure Zs (h : Heap) (z TI TO i1 i2 l1 l2 S : Addr) (i : Nat) : Prop where
  ob : IsZip h z TI TO .none ∨ ∃ a f oa, Zo h z TI TO a f ∧ h.get? a = some oa ∧ a ≠ z ∧ a ≠ i1 ∧ a ≠ i2 ∧ a ≠ S
  ti : IsPair h TI (.ref i1) (.ref i2)
  to : ∃ x y, IsPair h TO x y
  a1 : h.IsListIter i1 l1 i
  a2 : h.IsListIter i2 l2 i
theorem Zs.keep {h h' : Heap} {z TI TO i1 i2 l1 l2 S : Addr} {i : Nat} (x : Zs h z TI TO i1 i2 l1 l2 S i) (nz : z ≠ S) (n1 : TI ≠ S) (n2 : TO ≠ S) (n3 : i1 ≠ S) (n4 : i2 ≠ S) (hk : ∀ b o, b ≠ S → h.get? b = some o → h'.get? b = some o) : Zs h' z TI TO i1 i2 l1 l2 S i := by
  obtain ⟨ob, ti, ⟨u, v, to⟩, a1, a2⟩ := x
  refine ⟨?_, hk _ _ n1 ti, ⟨u, v, hk _ _ n2 to⟩, a1.at fun o e => hk _ o n3 e, a2.at fun o e => hk _ o n4 e⟩
  rcases ob with ob | ⟨a, f, oa, ob, ha, p1, p2, p3, p4⟩
  · exact .inl (hk _ _ nz ob)
  · exact .inr ⟨a, f, oa, hk _ _ nz ob, hk _ _ p4 ha, p1, p2, p3, p4⟩
theorem zs_item {z TI TO i1 i2 l1 l2 S : Addr} {i : Nat} {xs ys : Array Value} {x y : Value} {Q : Option Value → Shared → Prop} (D : ZipApart z TI TO i1 i2 l1 l2) (hS : S < s.heap.objs.size)
    (st : Zs s.heap z TI TO i1 i2 l1 l2 S i) (hl1 : s.heap.IsList l1 xs) (hl2 : s.heap.IsList l2 ys) (hx : xs[i]? = some x) (hy : ys[i]? = some y)
    (hQ : ∀ h', Zs h' z TI TO i1 i2 l1 l2 S (i + 1) → IsPair h' s.heap.objs.size x y → h'.objs.size = s.heap.objs.size + 1 →
      (∀ c o, c ≠ z → c ≠ TO → c ≠ i1 → c ≠ i2 → s.heap.get? c = some o → h'.get? c = some o) → Q (some (.ref s.heap.objs.size)) { s with heap := h' }) :
    wpAny (model prog w) A (pyNext (.ref z)) Q E s := by
  obtain ⟨ob, ti, ⟨u, v, to⟩, a1, a2⟩ := st
  have li1 : i1 < s.heap.objs.size := by obtain ⟨_, e, _⟩ := a1; exact Heap.lt_size e
  have li2 : i2 < s.heap.objs.size := by obtain ⟨_, e, _⟩ := a2; exact Heap.lt_size e
  rcases ob with ob | ⟨a, f, oa, ob, ha, p1, p2, p3, p4⟩
  · have lz : z < s.heap.objs.size := Heap.lt_size ob
    refine wpAny_pyNext_zip_item D ob ti to a1 a2 hl1 hl2 hx hy fun h' b1 b2 b3 b4 b5 b6 b7 => hQ h' ⟨.inr ⟨_, false, _, b1, b5, Nat.ne_of_gt lz, Nat.ne_of_gt li1, Nat.ne_of_gt li2, Nat.ne_of_gt hS⟩, b7 _ _ D.TIz D.TITO D.TIi1 D.TIi2 ti, ⟨_, _, b2⟩, b3, b4⟩ b5 b6 b7
  · refine next_item D ob ha ti a1 a2 hl1 hl2 hx hy fun h' b1 b3 b4 b5 b6 b7 => hQ h' ⟨.inr ⟨a, true, oa, b1, b7 _ _ p1 p2 p3 ha, p1, p2, p3, p4⟩, b7 _ _ D.TIz D.TIi1 D.TIi2 ti, ⟨u, v, b7 _ _ D.TOz D.TOi1 D.TOi2 to⟩, b3, b4⟩ b5 b6 fun c o c1 c2 c3 c4 e => b7 c o c1 c3 c4 e
theorem zs_end {z TI TO i1 i2 l1 l2 S : Addr} {i : Nat} {xs ys : Array Value} {Q : Option Value → Shared → Prop} (hh : A.handled = none) (D : ZipApart z TI TO i1 i2 l1 l2)
    (st : Zs s.heap z TI TO i1 i2 l1 l2 S i) (hl1 : s.heap.IsList l1 xs) (hl2 : s.heap.IsList l2 ys) (hx : xs[i]? = none)
    (hQ : ∀ h', (∀ c o, c ≠ z → c ≠ TO → c ≠ i1 → c ≠ i2 → s.heap.get? c = some o → h'.get? c = some o) → Q none { s with heap := h' }) : wpAny (model prog w) A (pyNext (.ref z)) Q E s := by
  obtain ⟨ob, ti, ⟨u, v, to⟩, a1, a2⟩ := st
  rcases ob with ob | ⟨a, f, oa, ob, ha, p1, p2, p3, p4⟩
  · exact wpAny_pyNext_zip_end hh D ob ti to a1 a2 hl1 hl2 (.inl hx) hQ
  · exact next_end hh D ob ha ti a1 a2 hl1 hl2 hx fun h' hk => hQ h' fun c o c1 _ c3 c4 e => hk c o c1 c3 c4 e
/-- the pairs made so far: at rising places above lo -/
structure Zp (xs ys : Array Value) (lo : Addr) (h : Heap) (as : List Addr) : Prop where
  rise : as.Pairwise (· < ·)
  above : ∀ a ∈ as, lo < a
  pairs : ∀ (j : Nat) (a : Addr), as[j]? = some a → ∃ x y, xs[j]? = some x ∧ ys[j]? = some y ∧ IsPair h a x y
theorem Zp.there {xs ys : Array Value} {lo : Addr} {h : Heap} {as : List Addr} (g : Zp xs ys lo h as) {a : Addr} (ha : a ∈ as) : a < h.objs.size := by
  obtain ⟨j, hj⟩ := List.mem_iff_getElem?.mp ha
  obtain ⟨_, _, _, _, e⟩ := g.pairs j a hj
  exact Heap.lt_size e
end
section
variable {prog : Program} {w : World} {A : Around} {E : Value → Shared → Prop} {s : Shared} {R : Result → Shared → Prop}
theorem zl_loop {S z TI TO i1 i2 l1 l2 : Addr} {xs ys : Array Value} (hh : A.handled = none) (D : ZipApart z TI TO i1 i2 l1 l2) (hl : xs.size = ys.size) (hn : xs.size ≤ sizeLine) (lz : z < S) (lT : TI < S) (lO : TO < S) (la : i1 < S) (lb : i2 < S) (n1 : l1 ≠ S) (n2 : l2 ≠ S) (res : Value) {h₁ : Heap}
    (hR : ∀ h' tk acc c as, (∀ b o, b ≠ S → b ≠ z → b ≠ TO → b ≠ i1 → b ≠ i2 → h₁.get? b = some o → h'.get? b = some o) → h'.get? S = some { cls := .type "list", dict := none, data := .seq acc c, slots := #[] } → as.length = xs.size → Zp xs ys S h' as →
      acc.toList = as.map Value.ref → R (.ok (.ret res)) { s with heap := h', toks := tk }) :
    ∀ (k i : Nat) (h : Heap) (tk c : Nat) (acc : Array Value) (as : List Addr), xs.size - i = k → i ≤ xs.size → Zs h z TI TO i1 i2 l1 l2 S i → h.IsList l1 xs → h.IsList l2 ys → (∀ b o, b ≠ S → b ≠ z → b ≠ TO → b ≠ i1 → b ≠ i2 → h₁.get? b = some o → h.get? b = some o) →
      h.get? S = some { cls := .type "list", dict := none, data := .seq acc c, slots := #[] } → acc.toList = as.map Value.ref → as.length = i → Zp xs ys S h as →
      codeAny (model prog w) A (.builtin "list.extend.loop" ⟨[.ref S, .ref z, res], []⟩) R { s with heap := h, toks := tk } := by
  intro k
  induction k with
  | zero =>
    intro i h tk c acc as hk hi st q1 q2 hkeep hS hacc hal hG
    have hin : i = xs.size := by omega
    refine codeAny_builtin PySem.F.entry_extend_loop ?_
    rw [Around.under_plainId PySem.F.plain_extend_loop _]
    show wpAny _ A.in1 (pyNext (.ref z) >>= _) _ _ _
    refine wpAny_bind (zs_end (s := { s with heap := h, toks := tk }) (A := A.in1) hh D st q1 q2 (Array.getElem?_eq_none (by omega)) fun h' he => ?_)
    refine wpAny_pure (hR h' tk acc c as (fun b o p1 p2 p3 p4 p5 e => he b o p2 p3 p4 p5 (hkeep b o p1 p2 p3 p4 p5 e)) (he S _ (Nat.ne_of_gt lz) (Nat.ne_of_gt lO) (Nat.ne_of_gt la) (Nat.ne_of_gt lb) hS) (by omega) ⟨hG.rise, hG.above, fun j a hj => ?_⟩ hacc)
    obtain ⟨x, y, e1, e2, e3⟩ := hG.pairs j a hj
    have ha := hG.above a (List.mem_of_getElem? hj)
    exact ⟨x, y, e1, e2, he a _ (Nat.ne_of_gt (Nat.lt_trans lz ha)) (Nat.ne_of_gt (Nat.lt_trans lO ha)) (Nat.ne_of_gt (Nat.lt_trans la ha)) (Nat.ne_of_gt (Nat.lt_trans lb ha)) e3⟩
  | succ k ih =>
    intro i h tk c acc as hk hi st q1 q2 hkeep hS hacc hal hG
    have hlt : i < xs.size := by omega
    obtain ⟨x, hx⟩ : ∃ x, xs[i]? = some x := ⟨xs[i], Array.getElem?_eq_getElem hlt⟩
    obtain ⟨y, hy⟩ : ∃ y, ys[i]? = some y := ⟨ys[i]'(by omega), Array.getElem?_eq_getElem (by omega)⟩
    have hsz : acc.size = i := by rw [← Array.length_toList, hacc, List.length_map, hal]
    have hSl : S < h.objs.size := Heap.lt_size hS
    refine codeAny_builtin PySem.F.entry_extend_loop ?_
    rw [Around.under_plainId PySem.F.plain_extend_loop _]
    show wpAny _ A.in1 (pyNext (.ref z) >>= _) _ _ _
    refine wpAny_bind (zs_item (s := { s with heap := h, toks := tk }) (S := S) D hSl st q1 q2 hx hy fun h' st' ht hz hkp => ?_)
    dsimp only at ht hz hkp ⊢
    have hS' := hkp S _ (Nat.ne_of_gt lz) (Nat.ne_of_gt lO) (Nat.ne_of_gt la) (Nat.ne_of_gt lb) hS
    have up : ∀ b o, b ≠ S → h'.get? b = some o → (h'.update S (Obj.mapSeq (·.push (Value.ref h.objs.size)))).get? b = some o := fun b o hb e => (Heap.get?_update_other _ _ (Ne.symm hb)).trans e
    show wpAny _ A.in1 (updateSeq S (·.push (Value.ref h.objs.size)) >>= _) _ _ _
    refine wpAny_bind ?_
    refine wpAny_updateSeq hS' rfl (wpAny_pure ⟨plainId_quiet PySem.F.plain_extend_loop _, ih (i + 1) _ tk _ (acc.push (Value.ref h.objs.size)) (as ++ [h.objs.size]) (by omega) hlt
      (st'.keep (Nat.ne_of_lt lz) (Nat.ne_of_lt lT) (Nat.ne_of_lt lO) (Nat.ne_of_lt la) (Nat.ne_of_lt lb) up) (q1.at fun o e => up _ o n1 (hkp _ o D.l1z D.l1TO D.l1i1 D.l1i2 e)) (q2.at fun o e => up _ o n2 (hkp _ o D.l2z D.l2TO D.l2i1 D.l2i2 e))
      (fun b o p1 p2 p3 p4 p5 e => up b o p1 (hkp b o p2 p3 p4 p5 (hkeep b o p1 p2 p3 p4 p5 e))) (Heap.get?_update_self _ hS' rfl) (by rw [Array.toList_push, hacc, List.map_append]; rfl) (by rw [List.length_append, hal]; rfl) ⟨?_, ?_, ?_⟩⟩) (by rw [hsz]; omega) (by show (acc.push (Value.ref h.objs.size)).size ≤ sizeLine + 1; rw [Array.size_push, hsz]; omega)
    · refine List.pairwise_append.mpr ⟨hG.rise, List.pairwise_singleton _ _, fun a ha b hb => ?_⟩
      rw [List.mem_singleton.mp hb]
      exact hG.there ha
    · intro a ha
      rcases List.mem_append.mp ha with ha | ha
      · exact hG.above a ha
      · rw [List.mem_singleton.mp ha]; exact hSl
    · intro j b hj
      rcases Nat.lt_trichotomy j as.length with g1 | g1 | g1
      · rw [List.getElem?_append_left g1] at hj
        obtain ⟨x', y', e1, e2, e3⟩ := hG.pairs j b hj
        have ha := hG.above b (List.mem_of_getElem? hj)
        exact ⟨x', y', e1, e2, up b _ (Nat.ne_of_gt ha) (hkp b _ (Nat.ne_of_gt (Nat.lt_trans lz ha)) (Nat.ne_of_gt (Nat.lt_trans lO ha)) (Nat.ne_of_gt (Nat.lt_trans la ha)) (Nat.ne_of_gt (Nat.lt_trans lb ha)) e3)⟩
      · subst g1
        have hb : h.objs.size = b := by simpa using hj
        subst hb
        exact ⟨x, y, by rw [hal]; exact hx, by rw [hal]; exact hy, up _ _ (Nat.ne_of_gt hSl) ht⟩
      · have hnone : (as ++ [h.objs.size])[j]? = none := List.getElem?_eq_none (by rw [List.length_append, List.length_singleton]; omega)
        rw [hnone] at hj; cases hj
theorem zip_no_len : typeLookup (.type "zip") "__len__" = pure none := by rw [typeLookup_type, builtinLookup_eq_fast]; kernel_rfl
theorem zip_no_hint : typeLookup (.type "zip") "__length_hint__" = pure none := by rw [typeLookup_type, builtinLookup_eq_fast]; kernel_rfl
theorem zl_extend {S z TI TO i1 i2 l1 l2 : Addr} {xs ys : Array Value} (hh : A.handled = none) (D : ZipApart z TI TO i1 i2 l1 l2) (hl : xs.size = ys.size) (hn : xs.size ≤ sizeLine) (lz : z < S) (lT : TI < S) (lO : TO < S) (la : i1 < S) (lb : i2 < S) (n1 : l1 ≠ S) (n2 : l2 ≠ S) (res : Value) (c₀ : Nat)
    (hz : IsZip s.heap z TI TO .none) (st : Zs s.heap z TI TO i1 i2 l1 l2 S 0) (q1 : s.heap.IsList l1 xs) (q2 : s.heap.IsList l2 ys) (hS : s.heap.get? S = some { cls := .type "list", data := .seq #[] c₀ })
    (hR : ∀ h' tk acc c as, (∀ b o, b ≠ S → b ≠ z → b ≠ TO → b ≠ i1 → b ≠ i2 → s.heap.get? b = some o → h'.get? b = some o) → h'.get? S = some { cls := .type "list", dict := none, data := .seq acc c, slots := #[] } → as.length = xs.size → Zp xs ys S h' as →
      acc.toList = as.map Value.ref → R (.ok (.ret res)) { s with heap := h', toks := tk }) :
    wpAny (model prog w) A.in1 (Builtin.List.listExtendWith (.ref S) (.ref z) res)
      (fun fin s' => match fin with | .done f => R (.ok f) s' | .again c' => c'.quiet = true ∧ codeAny (model prog w) A c' R s') (fun e s' => R (.error e) s') s := by
  have hT : s.TypeIs (.ref z) "zip" := ⟨_, hz, rfl⟩
  have key : ∀ (h : Heap) (c₁ tk : Nat), (∀ b o, b ≠ S → s.heap.get? b = some o → h.get? b = some o) → h.get? S = some { cls := .type "list", data := .seq #[] c₁ } →
      codeAny (model prog w) A (.builtin "list.extend.loop" ⟨[.ref S, .ref z, res], []⟩) R { s with heap := h, toks := tk } := by
    intro h c₁ tk hk hS₁
    exact zl_loop (s := s) (h₁ := s.heap) hh D hl hn lz lT lO la lb n1 n2 res hR xs.size 0 h tk c₁ #[] [] (Nat.sub_zero _) (Nat.zero_le _) (st.keep (Nat.ne_of_lt lz) (Nat.ne_of_lt lT) (Nat.ne_of_lt lO) (Nat.ne_of_lt la) (Nat.ne_of_lt lb) hk)
      (q1.at fun o e => hk _ o n1 e) (q2.at fun o e => hk _ o n2 e) (fun b o p1 _ _ _ _ e => hk b o p1 e) hS₁ rfl rfl ⟨List.Pairwise.nil, (fun _ ha => nomatch ha), (fun j a hj => by simp at hj)⟩
  unfold Builtin.List.listExtendWith
  refine wpAny_bind (wpAny_typeOf (T := "zip") hT ?_)
  have h1 : Builtin.List.listSameRef (.ref S) (.ref z) = false := by simp [Builtin.List.listSameRef, Nat.ne_of_gt lz]
  have h2 : (Value.type "zip" == Value.type "list") = false := by decide
  have h3 : (Value.type "zip" == Value.type "tuple") = false := by decide
  simp only [h1, h2, h3, Bool.or_false, Bool.false_eq_true, if_false]
  refine wpAny_bind (wpAny_pyIter_zip hz ?_)
  refine wpAny_bind (wpAny_holding ?_)
  unfold Builtin.List.listLengthHint
  refine wpAny_bind (wpAny_specialOf hT zip_no_len ?_)
  show wpAny _ A.in1 (specialOf (Value.ref z) (Str.ofString "__length_hint__") >>= _) _ _ _
  refine wpAny_bind (wpAny_specialOf hT zip_no_hint ?_)
  refine wpAny_pure ?_
  show wpAny _ A.in1 (rule "list.extend.makes-room" >>= fun _ => Builtin.List.listTouch (.ref S) >>= fun _ =>
    again (.builtin "list.extend.loop" ⟨[.ref S, .ref z, res], []⟩)) _ _ _
  refine wpAny_bind (wpAny_rule ?_)
  refine wpAny_bind ?_
  show wpAny _ A.in1 (updateSeq S (·.push .none) >>= fun _ => updateSeq S (·.pop)) _ _ _
  refine wpAny_bind (wpAny_updateSeq hS rfl ?_)
  have hS₂ := Heap.get?_update_self (Obj.mapSeq (·.push Value.none)) hS rfl
  refine wpAny_updateSeq (hz := by seq_fits) hS₂ rfl ?_
  have hS₃ := Heap.get?_update_self (Obj.mapSeq (·.pop)) hS₂ rfl
  refine wpAny_pure ⟨plainId_quiet PySem.F.plain_extend_loop _, key _ _ _ (fun b o hb e => ?_) hS₃⟩
  exact (Heap.get?_update_other _ _ (Ne.symm hb)).trans ((Heap.get?_update_other _ _ (Ne.symm hb)).trans e)
theorem zl_init {S z TI TO i1 i2 l1 l2 : Addr} {xs ys : Array Value} (hh : A.handled = none) (D : ZipApart z TI TO i1 i2 l1 l2) (hl : xs.size = ys.size) (hn : xs.size ≤ sizeLine) (lz : z < S) (lT : TI < S) (lO : TO < S) (la : i1 < S) (lb : i2 < S) (n1 : l1 ≠ S) (n2 : l2 ≠ S)
    (hz : IsZip s.heap z TI TO .none) (st : Zs s.heap z TI TO i1 i2 l1 l2 S 0) (q1 : s.heap.IsList l1 xs) (q2 : s.heap.IsList l2 ys) (hS : s.heap.get? S = some { cls := .type "list", data := .seq #[] })
    (hR : ∀ h' tk acc c as, (∀ b o, b ≠ S → b ≠ z → b ≠ TO → b ≠ i1 → b ≠ i2 → s.heap.get? b = some o → h'.get? b = some o) → h'.get? S = some { cls := .type "list", dict := none, data := .seq acc c, slots := #[] } → as.length = xs.size → Zp xs ys S h' as →
      acc.toList = as.map Value.ref → R (.ok (.ret .none)) { s with heap := h', toks := tk }) :
    wpAny (model prog w) A.in1 (Builtin.«list.__init__» ⟨[.ref S, .ref z], []⟩)
      (fun fin s' => match fin with | .done f => R (.ok f) s' | .again c' => c'.quiet = true ∧ codeAny (model prog w) A c' R s') (fun e s' => R (.error e) s') s := by
  show wpAny _ A.in1 (do let old ← Builtin.List.listItems (.ref S); Builtin.List.listUpdate (.ref S) (fun _ => #[]); letGo old.toList.reverse; Builtin.List.listExtendWith (.ref S) (.ref z) .none) _ _ s
  refine wpAny_bind ?_
  unfold Builtin.List.listItems
  refine wpAny_bind (wpAny_seqItems hS rfl (wpAny_pure ?_))
  show wpAny _ A.in1 (updateSeq S (fun _ => #[]) >>= fun _ => letGo (#[] : Array Value).toList.reverse >>= fun _ => Builtin.List.listExtendWith (.ref S) (.ref z) .none) _ _ s
  refine wpAny_bind (wpAny_updateSeq hS rfl ?_)
  have hS₂ := Heap.get?_update_self (Obj.mapSeq (fun _ => (#[] : Array Value))) hS rfl
  have oth : ∀ b o, b ≠ S → s.heap.get? b = some o → (s.heap.update S (Obj.mapSeq (fun _ => (#[] : Array Value)))).get? b = some o :=
    fun b o hb e => (Heap.get?_update_other _ _ (Ne.symm hb)).trans e
  refine wpAny_bind (wpAny_letGo ?_)
  refine zl_extend hh D hl hn lz lT lO la lb n1 n2 .none _ (oth _ _ (Nat.ne_of_lt lz) hz) (st.keep (Nat.ne_of_lt lz) (Nat.ne_of_lt lT) (Nat.ne_of_lt lO) (Nat.ne_of_lt la) (Nat.ne_of_lt lb) oth) (q1.at fun o e => oth _ o n1 e) (q2.at fun o e => oth _ o n2 e) hS₂ fun h' tk acc c as hk hS' hl hG hacc => ?_
  exact hR h' tk acc c as (fun b o p1 p2 p3 p4 p5 e => hk b o p1 p2 p3 p4 p5 (oth b o p1 e)) hS' hl hG hacc
theorem zl_call {z TI TO i1 i2 l1 l2 : Addr} {xs ys : Array Value} {Q : Value → Shared → Prop} (hh : A.handled = none) (D : ZipApart z TI TO i1 i2 l1 l2) (hl : xs.size = ys.size) (hn : xs.size ≤ sizeLine)
    (hz : IsZip s.heap z TI TO .none) (ti : IsPair s.heap TI (.ref i1) (.ref i2)) (to : ∃ x y, IsPair s.heap TO x y) (a1 : s.heap.IsListIter i1 l1 0) (a2 : s.heap.IsListIter i2 l2 0) (q1 : s.heap.IsList l1 xs) (q2 : s.heap.IsList l2 ys)
    (hQ : ∀ h' tk acc c as, (∀ b o, b ≠ z → b ≠ TO → b ≠ i1 → b ≠ i2 → s.heap.get? b = some o → h'.get? b = some o) → h'.get? s.heap.objs.size = some { cls := .type "list", dict := none, data := .seq acc c, slots := #[] } → as.length = xs.size → Zp xs ys s.heap.objs.size h' as →
      acc.toList = as.map Value.ref → Q (.ref s.heap.objs.size) { s with heap := h', toks := tk }) :
    wpAny (model prog w) A (call (.type "list") [.ref z]) Q E s := by
  refine callType_codes (Q₁ := fun obj s₁ => obj = .ref s.heap.objs.size ∧ s₁ = { s with heap := s.heap.push { cls := .type "list", data := .seq #[] } }) PySem.F.called_list (PySem.F.typeCall_list_1 _) PySem.F.entry_list_init
    (code_list_new _ ⟨rfl, rfl⟩) fun obj s₁ h₁ => ?_
  obtain ⟨rfl, rfl⟩ := h₁
  have hS : (s.heap.push { cls := .type "list", data := .seq #[] }).get? s.heap.objs.size = some { cls := .type "list", data := .seq #[] } := Heap.get?_push_size _ rfl
  obtain ⟨x0, y0, to⟩ := to
  have lz : z < s.heap.objs.size := Heap.lt_size hz
  have lT : TI < s.heap.objs.size := Heap.lt_size ti
  have lO : TO < s.heap.objs.size := Heap.lt_size to
  have la : i1 < s.heap.objs.size := by obtain ⟨_, e, _⟩ := a1; exact Heap.lt_size e
  have lb : i2 < s.heap.objs.size := by obtain ⟨_, e, _⟩ := a2; exact Heap.lt_size e
  have n1 : l1 < s.heap.objs.size := by obtain ⟨_, e, _⟩ := q1; exact Heap.lt_size e
  have n2 : l2 < s.heap.objs.size := by obtain ⟨_, e, _⟩ := q2; exact Heap.lt_size e
  have up : ∀ c o, s.heap.get? c = some o → (s.heap.push { cls := .type "list", data := .seq #[] }).get? c = some o := fun c o e => Heap.get?_push_of_some _ e
  refine ⟨⟨_, hS, rfl⟩, PySem.F.args_list_init_2 _ _, zl_init (A := A.in1) hh D hl hn lz lT lO la lb (Nat.ne_of_lt n1) (Nat.ne_of_lt n2) (up _ _ hz) ⟨.inl (up _ _ hz), up _ _ ti, ⟨_, _, up _ _ to⟩, a1.at fun o e => up _ o e, a2.at fun o e => up _ o e⟩ (q1.at fun o e => up _ o e) (q2.at fun o e => up _ o e) hS fun h' tk acc c as hk hS' hl hG hacc => ?_⟩
  exact ⟨rfl, hQ h' tk acc c as (fun b o p2 p3 p4 p5 e => hk b o (Nat.ne_of_lt (Heap.lt_size e)) p2 p3 p4 p5 (up _ _ e)) hS' hl hG hacc⟩
end
end ZL

/-! The rule for list(zip(a, b)). -/
namespace G
open PySem L2
/-- pairs laid at their places -/
def zpH : Hp → List (V × V) → List Addr → Hp
  | H, (x, y) :: r, a :: as => zpH (upd H a (.tup [x, y])) r as
  | H, [], _ => H
  | H, _ :: _, [] => H
theorem zpH_out : ∀ (as : List Addr) (ps : List (V × V)) (H : Hp) (b : Addr), b ∉ as → zpH H ps as b = H b
  | [], ps, H, b, _ => by cases ps <;> rfl
  | a :: as, [], H, b, _ => rfl
  | a :: as, (x, y) :: r, H, b, h => by
    simp only [List.mem_cons, not_or] at h
    show zpH (upd H a (.tup [x, y])) r as b = H b
    rw [zpH_out as r _ b h.2, upd_ne h.1]
theorem zpH_in : ∀ (as : List Addr) (ps : List (V × V)) (H : Hp), as.Nodup → ∀ (j : Nat) (a : Addr) (p : V × V), as[j]? = some a → ps[j]? = some p → zpH H ps as a = some (.tup [p.1, p.2])
  | [], ps, H, _, j, a, p, h, _ => by simp at h
  | a :: as, [], H, _, j, b, p, _, h => by simp at h
  | a :: as, (x, y) :: r, H, nd, j, b, p, h1, h2 => by
    obtain ⟨n1, n2⟩ := List.nodup_cons.mp nd
    show zpH (upd H a (.tup [x, y])) r as b = _
    cases j with
    | zero =>
      rw [List.getElem?_cons_zero] at h1 h2
      cases h1; cases h2
      rw [zpH_out as r _ a n1, upd_same]
    | succ j => exact zpH_in as r _ n2 j b p h1 h2
theorem zpH_some : ∀ (as : List Addr) (ps : List (V × V)) (H : Hp), as.length = ps.length → ∀ (b : Addr), b ∈ as → ∃ (j : Nat) (p : V × V), as[j]? = some b ∧ ps[j]? = some p := fun as ps H hl b hb => by
  obtain ⟨j, hj⟩ := List.mem_iff_getElem?.mp hb
  have hjl := (List.getElem?_eq_some_iff.mp hj).1
  exact ⟨j, ps[j]'(by omega), hj, List.getElem?_eq_getElem _⟩
def lzK (K : PySem.W.Frag) (Q : VK) (vs : List V) (H1 : Hp) : Prop := ∃ a b xs ys, vs = [.ref a, .ref b] ∧ SqL K H1 a xs ∧ SqL K H1 b ys ∧ xs.length = ys.length ∧
  ∀ q as, H1 q = none → as.length = xs.length → as.Nodup → (∀ c ∈ as, H1 c = none ∧ c ≠ q) → Q (.ref q) (zpH (upd H1 q (.lst (as.map V.ref))) (xs.zip ys) as)
def tLstZip (K : PySem.W.Frag) (ta : TA) : TE := fun σ H Q => ta σ H fun vs H1 => lzK K Q vs H1
/-- several new things laid at once -/
theorem inv_laidN {X : Cx} {pins : List (Addr × Obj)} {σ : St} {H H' : Hp} {s : Shared} {h' : Heap} {t' : Nat} (I : Inv X pins σ H s) (k : ∀ b u, s.heap.get? b = some u → h'.get? b = some u)
    (old : ∀ b, b < s.heap.objs.size → H' b = H b) (new : ∀ b o, s.heap.objs.size ≤ b → H' b = some o → ObjOk X.prog X.w H' h' b o) : Inv X pins σ H' { s with heap := h', toks := t' } := by
  have up : ∀ b u, H b = some u → H' b = some u := fun b u e => by
    have hb : b < s.heap.objs.size := I.hok.lt e
    rw [old b hb]; exact e
  refine I.un ⟨fun b u q _ _ _ => k b u q, fun b u q _ _ _ => ⟨u.slots, k b u q⟩, fun b u q n _ => by rw [old b (Heap.lt_size q)]; exact n, fun b u q _ => ⟨u, k b u q⟩, fun b xs q => up _ _ q, fun b u xs q => up _ _ q, fun b ps q => ⟨#[], by rw [up _ _ q]; simp⟩⟩ fun b u e => ?_
  by_cases hb : b < s.heap.objs.size
  · rw [old b hb] at e
    exact (I.hok b u e).stay (fun c v _ q => k c v q) (fun c q => up _ _ q) fun c xs q => up _ _ q
  · exact new b u (Nat.not_lt.mp hb) e
theorem vals_refs : ∀ as : List Addr, Vals (as.map V.ref) (as.map Value.ref)
  | [] => .nil
  | _ :: as => .cons rfl (vals_refs as)
open PySem PySem.Spec PyProof.Rows in
theorem pe_listZip {X : Cx} {e e2 : Expr} {ta : TA} {p p2 pos pos2 : Pos} (hc : X.calm = true) (hgl : Gl X "list") (hml : X.mg "list" = none) (hg : Gl X "zip") (hm : X.mg "zip" = none) (ha : PA X [e, e2] ta)
    (na : starEach [.Call (.Name "zip" p2) [e, e2] [] pos2] X.env = (false, eval (.Call (.Name "zip" p2) [e, e2] [] pos2) X.env) :: starEach [] X.env := by rfl)
    (hs : starEach [e, e2] X.env = (false, eval e X.env) :: starEach [e2] X.env := by rfl) (hpl : (backTo pos2 (starEach [e2] X.env)).any (·.1) = false := by rfl) :
    PE X (.Call (.Name "list" p) [.Call (.Name "zip" p2) [e, e2] [] pos2] [] pos) (tLstZip X.K ta) := by
  refine ⟨fun pins s σ H Q I h => ?_⟩
  refine Call_ (ld_blt I hgl hml boot_list (PyProof.Rows.callWith_type1 (args_cons (Call_ (ld_blt I hg hm PyProof.Rows.boot_zip (PyProof.Rows.callWith_type1 (thn (ha.run pos2 pins s σ H _ I h) fun us s1 ⟨vs, H1, I1, r1, q1⟩ => ?_) hs hpl))) na) na))
  obtain ⟨a, b, xs, ys, ex, hqx, hqy, hl, q⟩ := q1
  subst ex
  cases r1 with
  | cons r rr =>
    cases rr with
    | cons r' rr =>
      cases rr
      cases r
      cases r'
      obtain ⟨its, rv, p1, hz1⟩ := I1.list hqx
      obtain ⟨its2, rv2, p2, _⟩ := I1.list hqy
      have la : a < s1.heap.objs.size := p1.lt
      have lb : b < s1.heap.objs.size := p2.lt
      have el1 := rv.length
      have el2 := rv2.length
      refine call_zip_2 p1.isList p2.isList fun h1 hz hTI hTO i1 i2 hsz hk => args_nil ?_
      refine ZL.zl_call (s := { s1 with heap := h1 }) (I1.ok.hd hc) (PySem.W.ktu_apart s1.heap.objs.size a b la lb) (xs := its.toArray) (ys := its2.toArray) (by simp; omega) (by simp; omega) hz hTI ⟨_, _, hTO⟩ i1 i2 (p1.isList.at fun o e => hk _ o e) (p2.isList.at fun o e => hk _ o e) fun h' tk acc c as hk' hS hal hG hacc => ?_
      have hlt : s1.heap.objs.size ≤ h1.objs.size := by omega
      have nd : as.Nodup := hG.rise.imp fun h => Nat.ne_of_lt h
      have hal2 : as.length = xs.length := by rw [hal]; simp; omega
      have hab : ∀ c ∈ as, s1.heap.objs.size ≤ c ∧ c ≠ h1.objs.size := fun c hc => ⟨Nat.le_of_lt (Nat.lt_of_le_of_lt hlt (hG.above c hc)), Nat.ne_of_gt (hG.above c hc)⟩
      have hzl : (xs.zip ys).length = xs.length := by rw [List.length_zip]; omega
      refine ⟨.ref h1.objs.size, zpH (upd H1 h1.objs.size (.lst (as.map V.ref))) (xs.zip ys) as, ?_, rfl, q _ as (I1.hok.fresh hlt) hal2 nd fun c hc => ⟨I1.hok.fresh (hab c hc).1, (hab c hc).2⟩⟩
      refine inv_laidN (s := s1) (t' := tk) I1 (fun b u e => hk' b u ?_ ?_ ?_ ?_ (hk b u e)) (fun b hb => ?_) fun b o hb e => ?_
      · exact Nat.ne_of_lt (Nat.lt_of_lt_of_le (Heap.lt_size e) (Nat.le_add_right _ _))
      · exact Nat.ne_of_lt (Nat.lt_of_lt_of_le (Heap.lt_size e) (Nat.le_add_right _ _))
      · exact Nat.ne_of_lt (Heap.lt_size e)
      · exact Nat.ne_of_lt (Nat.lt_of_lt_of_le (Heap.lt_size e) (Nat.le_add_right _ _))
      · rw [zpH_out _ _ _ _ (fun z => absurd (hab b z).1 (Nat.not_le.mpr hb)), upd_ne (Nat.ne_of_lt (Nat.lt_of_lt_of_le hb hlt))]
      · by_cases hb2 : b ∈ as
        · obtain ⟨j, pr, hj, hp⟩ := zpH_some as (xs.zip ys) H1 (by omega) b hb2
          rw [zpH_in _ _ _ nd j b pr hj hp] at e
          cases e
          obtain ⟨x, y, e1, e2, e3⟩ := hG.pairs j b hj
          obtain ⟨x', y'⟩ := pr
          have hx := (List.getElem?_zip_eq_some.mp hp)
          obtain ⟨u, hu, ru⟩ := rv.get hx.1
          obtain ⟨u2, hu2, ru2⟩ := rv2.get hx.2
          have f1 : x = u := by
            have : its.toArray[j]? = some u := by simpa using hu
            rw [this] at e1; exact (Option.some.inj e1).symm
          have f2 : y = u2 := by
            have : its2.toArray[j]? = some u2 := by simpa using hu2
            rw [this] at e2; exact (Option.some.inj e2).symm
          subst f1; subst f2
          exact ⟨by show 2 ≤ sizeLine; decide, [x, y], .cons ru (.cons ru2 .nil), ⟨_, e3, rfl, _, rfl⟩⟩
        · rw [zpH_out _ _ _ _ hb2] at e
          by_cases hb3 : b = h1.objs.size
          · subst hb3
            rw [upd_same] at e
            cases e
            refine ⟨by rw [List.length_map]; omega, acc.toList, c, ?_, hS⟩
            rw [hacc]
            exact vals_refs as
          · rw [upd_ne hb3, I1.hok.fresh hb] at e
            cases e
/-- pairs that stay at their places -/
theorem stays_zp (as : List Addr) (xs ys : List V) : Stays (fun H => ∀ (j : Nat) a x y, as[j]? = some a → xs[j]? = some x → ys[j]? = some y → H a = some (.tup [x, y])) := fun _ _ k h j a x y h1 h2 h3 => k _ _ trivial (h j a x y h1 h2 h3)
def zps (as : List Addr) (xs ys : List V) : SA := pf _ (stays_zp as xs ys)
theorem hs_zp : ∀ (as : List Addr) (ps : List (V × V)) {H : Hp} {L : List SA}, HS H L → as.Nodup → (∀ c ∈ as, H c = none) → HS (zpH H ps as) L
  | [], ps, H, L, h, _, _ => by cases ps <;> exact h
  | a :: as, [], H, L, h, _, _ => h
  | a :: as, (x, y) :: r, H, L, h, nd, hn => by
    obtain ⟨n1, n2⟩ := List.nodup_cons.mp nd
    refine hs_zp as r (h.newT (hn a List.mem_cons_self)).drop n2 fun c hc => ?_
    rw [upd_ne (fun z => n1 (by rw [← z]; exact hc))]
    exact hn c (List.mem_cons_of_mem _ hc)
theorem s_lzK {K : PySem.W.Frag} {H : Hp} {Q : VK} {L : List SA} {p q : Addr} {xs ys : List V} [hs : HS H L] [m1 : RdL K L p xs] [m2 : RdL K L q ys] (hl : xs.length = ys.length) (h : ∀ r as H', as.length = xs.length → HS H' (zps as xs ys :: pt r (.lst (as.map V.ref)) :: L) → Q (.ref r) H') : lzK K Q [.ref p, .ref q] H :=
  ⟨p, q, xs, ys, rfl, m1.sq hs, m2.sq hs, hl, fun r as hr hal nd hn => h r as _ hal (by
    refine HS.add (hs_zp as _ (hs.new hr id) nd fun c hc => ?_) fun j a x y h1 h2 h3 => ?_
    · rw [upd_ne (hn c hc).2]; exact (hn c hc).1
    · exact zpH_in as _ _ nd j a (x, y) h1 (List.getElem?_zip_eq_some.mpr ⟨h2, h3⟩))⟩
theorem s_lstZip {K : PySem.W.Frag} {σ : L2.St} {H : Hp} {Q : VK} {ta : TA} (h : ta σ H fun vs H1 => lzK K Q vs H1) : tLstZip K ta σ H Q := h
theorem pe_listZipK {X : Cx} {K : PySem.W.Frag} {e e2 : Expr} {ta : TA} {p p2 pos pos2 : Pos} (hK : X.K = K) (hc : X.calm = true) (hgl : Gl X "list") (hml : X.mg "list" = none) (hg : Gl X "zip") (hm : X.mg "zip" = none) (ha : PA X [e, e2] ta)
    (na : starEach [.Call (.Name "zip" p2) [e, e2] [] pos2] X.env = (false, eval (.Call (.Name "zip" p2) [e, e2] [] pos2) X.env) :: starEach [] X.env := by rfl)
    (hs : starEach [e, e2] X.env = (false, eval e X.env) :: starEach [e2] X.env := by rfl) (hpl : (backTo pos2 (starEach [e2] X.env)).any (·.1) = false := by rfl) :
    PE X (.Call (.Name "list" p) [.Call (.Name "zip" p2) [e, e2] [] pos2] [] pos) (tLstZip K ta) := hK ▸ pe_listZip hc hgl hml hg hm ha na hs hpl
end G

/-! Models: what is handed in. -/
namespace G
open PySem L2
inductive Mdl where
  | plain (cs : List Int)
  | learn (s st li : Int)
  | ahead (o s st li : Int)
  | blend (a b : Mdl) (w : Int)
def nsg : Mdl → Int
  | .plain cs => cs.length
  | .learn s _ _ => s
  | .ahead _ s _ _ => s
  | .blend a _ _ => nsg a
def mst : Mdl → Int
  | .plain cs => cs.sum
  | .learn _ _ li => li
  | .ahead _ _ _ li => li
  | .blend a b w => w * mst a + mst b
def Lok (s st li : Int) : Prop := (1 ≤ s ∧ s ≤ 8) ∧ (1 ≤ st ∧ st ≤ 20) ∧ s ≤ li ∧ li ≤ 200
/-- a model no more than n deep -/
def MOk : Nat → Mdl → Prop
  | 0, _ => False
  | _ + 1, .plain cs => (1 ≤ cs.length ∧ cs.length ≤ 8) ∧ ∀ c ∈ cs, 1 ≤ c ∧ c ≤ 60
  | _ + 1, .learn s st li => Lok s st li
  | _ + 1, .ahead o s st li => (1 ≤ o ∧ o ≤ 2) ∧ Lok s st li
  | n + 1, .blend a b w => (1 ≤ w ∧ w ≤ 5) ∧ MOk n a ∧ MOk n b ∧ nsg a = nsg b ∧ w * mst a + mst b ≤ 4000
theorem MOk.nsg : ∀ {n : Nat} {m : Mdl}, MOk n m → 1 ≤ nsg m ∧ nsg m ≤ 8
  | 0, _, h => False.elim h
  | _ + 1, .plain cs, h => by have := h.1; simp only [G.nsg]; omega
  | _ + 1, .learn s st li, h => h.1
  | _ + 1, .ahead o s st li, h => h.2.1
  | n + 1, .blend a b w, h => MOk.nsg (m := a) h.2.1
theorem MOk.mst : ∀ {n : Nat} {m : Mdl}, MOk n m → 1 ≤ mst m ∧ mst m ≤ 4000
  | 0, _, h => False.elim h
  | _ + 1, .plain cs, h => by
    obtain ⟨⟨h1, h2⟩, h3⟩ := h
    simp only [G.mst]
    have g : Good cs := ⟨h1, h2, fun c hc => (h3 c hc).1⟩
    have := g.sum_pos
    have := Good.sum_le (cs := cs) fun c hc => by have := (h3 c hc).2; omega
    have h60 : ∀ l : List Int, (∀ c ∈ l, c ≤ 60) → l.sum ≤ 60 * l.length := by
      intro l; induction l with
      | nil => intro _; simp
      | cons a l ih => intro q; have := ih (fun y hy => q y (List.mem_cons_of_mem _ hy)); have := q a List.mem_cons_self; simp only [List.sum_cons, List.length_cons]; omega
    have := h60 cs fun c hc => (h3 c hc).2
    omega
  | _ + 1, .learn s st li, h => by obtain ⟨h1, h2, h3⟩ := h; simp only [G.mst]; omega
  | _ + 1, .ahead o s st li, h => by obtain ⟨_, h1, h2, h3⟩ := h; simp only [G.mst]; omega
  | n + 1, .blend a b w, h => by
    obtain ⟨h1, ha, hb, _, h2⟩ := h
    have a1 := ha.mst
    have b1 := hb.mst
    simp only [G.mst]
    have : 0 ≤ w * G.mst a := Int.mul_nonneg (by omega) (by omega)
    omega
theorem MOk.mono : ∀ {n : Nat} {m : Mdl}, MOk n m → MOk (n + 1) m
  | 0, _, h => False.elim h
  | _ + 1, .plain cs, h => h
  | _ + 1, .learn s st li, h => h
  | _ + 1, .ahead o s st li, h => h
  | n + 1, .blend a b w, ⟨h1, h2, h3, h4⟩ => ⟨h1, h2.mono, h3.mono, h4⟩
theorem sqT_keep {K : PySem.W.Frag} {H H' : Hp} {p : Addr} {xs : List V} (k : Keep H H') (h : SqT K H p xs) : SqT K H' p xs := by
  rcases h with (h | ⟨o, h⟩) | h
  · exact .inl (.inl (k _ _ trivial h))
  · exact .inl (.inr ⟨o, k _ _ trivial h⟩)
  · exact .inr h
/-- a tuple that may be read, wherever it stands -/
def tq (K : PySem.W.Frag) (p : Addr) (xs : List V) : SA := pf (fun H => SqT K H p xs) (fun _ _ k h => sqT_keep k h)
instance {K : PySem.W.Frag} {p : Addr} {xs : List V} : Key (tq K p xs) p := ⟨⟩
instance {K : PySem.W.Frag} {L L' : List SA} {p : Addr} {xs : List V} [o : Own L p (tq K p xs) L'] : RdT K L p xs := ⟨fun hs => (hs.pk o.pk).fact⟩
/-- a model's value -/
def MR (K : PySem.W.Frag) : Mdl → V → Hp → Prop
  | .plain cs, x, H => ∃ p q, x = .ref p ∧ SqT K H p [.str "plain", .ref q] ∧ SqT K H q (iv cs)
  | .learn s st li, x, H => ∃ p, x = .ref p ∧ SqT K H p [.str "learn", .int s, .int st, .int li]
  | .ahead o s st li, x, H => ∃ p, x = .ref p ∧ SqT K H p [.str "ahead", .int o, .int s, .int st, .int li]
  | .blend a b w, x, H => ∃ p u v, x = .ref p ∧ SqT K H p [.str "blend", u, v, .int w] ∧ MR K a u H ∧ MR K b v H
theorem MR.keep {K : PySem.W.Frag} : ∀ {m : Mdl} {x : V} {H H' : Hp}, Keep H H' → MR K m x H → MR K m x H'
  | .plain cs, x, H, H', k, ⟨p, q, e, h1, h2⟩ => ⟨p, q, e, sqT_keep k h1, sqT_keep k h2⟩
  | .learn s st li, x, H, H', k, ⟨p, e, h⟩ => ⟨p, e, sqT_keep k h⟩
  | .ahead o s st li, x, H, H', k, ⟨p, e, h⟩ => ⟨p, e, sqT_keep k h⟩
  | .blend a b w, x, H, H', k, ⟨p, u, v, e, h, h1, h2⟩ => ⟨p, u, v, e, sqT_keep k h, h1.keep k, h2.keep k⟩
def md (K : PySem.W.Frag) (m : Mdl) (x : V) : SA := pf (MR K m x) (fun _ _ k h => h.keep k)
/-- the model's value may be read -/
class MdR (K : PySem.W.Frag) (L : List SA) (x : V) (m : outParam Mdl) : Prop where
  rd : ∀ {H : Hp}, HS H L → MR K m x H
instance (priority := high) mdHere {K : PySem.W.Frag} {L : List SA} {x : V} {m : Mdl} : MdR K (md K m x :: L) x m := ⟨fun hs => hs.fact⟩
instance (priority := low) mdThere {K : PySem.W.Frag} {L : List SA} {A : SA} {x : V} {m : Mdl} [r : MdR K L x m] : MdR K (A :: L) x m := ⟨fun hs => r.rd hs.drop⟩
theorem MdR.there {K : PySem.W.Frag} {L : List SA} {A : SA} {x : V} {m : Mdl} (r : MdR K L x m) : MdR K (A :: L) x m := ⟨fun hs => r.rd hs.drop⟩
section
variable {K : PySem.W.Frag} {H : Hp} {L : List SA} {x : V}
theorem HS.md_plain {cs : List Int} (hs : HS H L) (h : MR K (.plain cs) x H) : ∃ p q, x = .ref p ∧ HS H (tq K q (iv cs) :: tq K p [.str "plain", .ref q] :: L) :=
  let ⟨p, q, e, h1, h2⟩ := h
  ⟨p, q, e, (hs.add h1).add h2⟩
theorem HS.md_learn {s st li : Int} (hs : HS H L) (h : MR K (.learn s st li) x H) : ∃ p, x = .ref p ∧ HS H (tq K p [.str "learn", .int s, .int st, .int li] :: L) :=
  let ⟨p, e, h1⟩ := h
  ⟨p, e, hs.add h1⟩
theorem HS.md_ahead {o s st li : Int} (hs : HS H L) (h : MR K (.ahead o s st li) x H) : ∃ p, x = .ref p ∧ HS H (tq K p [.str "ahead", .int o, .int s, .int st, .int li] :: L) :=
  let ⟨p, e, h1⟩ := h
  ⟨p, e, hs.add h1⟩
theorem HS.md_blend {a b : Mdl} {w : Int} (hs : HS H L) (h : MR K (.blend a b w) x H) : ∃ p u v, x = .ref p ∧ HS H (md K a u :: md K b v :: tq K p [.str "blend", u, v, .int w] :: L) :=
  let ⟨p, u, v, e, h1, h2, h3⟩ := h
  ⟨p, u, v, e, ((hs.add h1).add h3).add h2⟩
end
/-! what a model is as data -/
def mdD : Mdl → PyData
  | .plain cs => .tuple [.str "plain", .tuple (cs.map .int)]
  | .learn s st li => .tuple [.str "learn", .int s, .int st, .int li]
  | .ahead o s st li => .tuple [.str "ahead", .int o, .int s, .int st, .int li]
  | .blend a b w => .tuple [.str "blend", mdD a, mdD b, .int w]
theorem dpAll_iv {K : PySem.W.Frag} {H : Hp} : ∀ l : List Int, DpAll K H (iv l) (l.map PyData.int)
  | [] => .nil
  | a :: l => .cons (.int a) (dpAll_iv l)
theorem MR.dp {K : PySem.W.Frag} : ∀ {m : Mdl} {x : V} {H : Hp}, MR K m x H → Dp K H x (mdD m)
  | .plain cs, x, H, ⟨p, q, e, h1, h2⟩ => by subst e; exact .tup h1 (.cons (.str _) (.cons (.tup h2 (dpAll_iv cs)) .nil))
  | .learn s st li, x, H, ⟨p, e, h⟩ => by subst e; exact .tup h (.cons (.str _) (.cons (.int _) (.cons (.int _) (.cons (.int _) .nil))))
  | .ahead o s st li, x, H, ⟨p, e, h⟩ => by subst e; exact .tup h (.cons (.str _) (.cons (.int _) (.cons (.int _) (.cons (.int _) (.cons (.int _) .nil)))))
  | .blend a b w, x, H, ⟨p, u, v, e, h, h1, h2⟩ => by subst e; exact .tup h (.cons (.str _) (.cons h1.dp (.cons h2.dp (.cons (.int _) .nil))))
theorem mdD_lay : ∀ m : Mdl, (mdD m).canLay0 = true
  | .plain cs => by simp [mdD, PyData.canLay0, PyData.canLayAll0, iv_canLay]; decide +kernel
  | .learn s st li => by simp [mdD, PyData.canLay0, PyData.canLayAll0]; decide +kernel
  | .ahead o s st li => by simp [mdD, PyData.canLay0, PyData.canLayAll0]; decide +kernel
  | .blend a b w => by simp [mdD, PyData.canLay0, PyData.canLayAll0, mdD_lay a, mdD_lay b]; decide +kernel
theorem mdD_depth : ∀ (n : Nat) (m : Mdl), MOk n m → (mdD m).depth ≤ 2 + n
  | 0, _, h => False.elim h
  | n + 1, .plain cs, h => by simp [mdD, PyData.depth, PyData.depthAll, iv_depth]
  | n + 1, .learn s st li, h => by simp [mdD, PyData.depth, PyData.depthAll]; omega
  | n + 1, .ahead o s st li, h => by simp [mdD, PyData.depth, PyData.depthAll]; omega
  | n + 1, .blend a b w, h => by
    have h1 := mdD_depth n a h.2.1
    have h2 := mdD_depth n b h.2.2.1
    simp [mdD, PyData.depth, PyData.depthAll]; omega
end G

/-! Dicts, step by step; one sign more. -/
namespace G
open PySem L2
section
variable {K : PySem.W.Frag} {σ : L2.St} {H : Hp} {Q : VK} {D : Ends} {L L' L'' : List SA} {x y v : V} {te ta td ty tv tx : TE} {p q a : Addr} {i : Int} {kvs : List (L2.Key × V)} {tvs : List (List L2.Key × V)} {k : L2.Key} {ks : List L2.Key}
theorem s_un {r : V → Hp → VK → Prop} (h : ta σ H fun x H1 => r x H1 Q) : tUn r ta σ H Q := h
theorem s_neg (h : Q (.int (-i)) H) : rU (fun i => .int (-i)) (.int i) H Q := ⟨i, rfl, h⟩
/-- {..} -/
def dispK (p : Addr) (Q : VK) (ps : List (V × V)) (H2 : Hp) : Prop := H2 p = some (.dK []) ∧ ∃ kvs : List (L2.Key × V), ps = kvs.map (fun kv => (kV kv.1, kv.2)) ∧ kvs.length ≤ 15 ∧ Q (.ref p) (upd H2 p (.dK (mergeK [] kvs)))
theorem s_disp {trs : List (TE × TE)} [hs : HS H L] (h : ∀ p H', HS H' (pt p (.dK []) :: L) → tPairs trs σ H' fun ps H2 => dispK p Q ps H2) : tDisp trs σ H Q := fun p hp => h p _ (hs.new hp id)
theorem s_pnil {Q : List (V × V) → Hp → Prop} (h : Q [] H) : tPairs [] σ H Q := h
theorem s_pcons {tk tv : TE} {r : List (TE × TE)} {Q : List (V × V) → Hp → Prop} (h : tk σ H fun x H1 => tv σ H1 fun y H2 => tPairs r σ H2 fun ps H3 => Q ((x, y) :: ps) H3) : tPairs ((tk, tv) :: r) σ H Q := h
theorem s_dispK {ps : List (V × V)} (kvs : List (L2.Key × V)) [hs : HS H L] [o : Own L p (pt p (.dK [])) L'] (e : ps = kvs.map (fun kv => (kV kv.1, kv.2))) (z : kvs.length ≤ 15) (h : ∀ H', HS H' (pt p (.dK (mergeK [] kvs)) :: L') → Q (.ref p) H') : dispK p Q ps H :=
  ⟨(hs.pk o.pk).get, kvs, e, z, h _ ((hs.pk o.pk).put id)⟩
theorem s_dnew [hs : HS H L] (h : ∀ p H', HS H' (pt p (.dT []) :: L) → Q (.ref p) H') : tDNewT σ H Q := fun p hp => h p _ (hs.new hp id)
/-- d[k] -/
def dgK (Q : VK) (x y : V) (H2 : Hp) : Prop := ∃ a v, x = .ref a ∧ DGet H2 a y (some v) ∧ Q v H2
theorem s_dget (h : td σ H fun x H1 => ty σ H1 fun y H2 => dgK Q x y H2) : tDGet td ty σ H Q := h
theorem s_dgK (k : L2.Key) [hs : HS H L] [o : Own L a (pt a (.dK kvs)) L'] (e : y = kV k) (e2 : valV kvs k = some v) (h : Q v H) : dgK Q (.ref a) y H :=
  ⟨a, v, rfl, by subst e; rw [← e2]; exact .k (hs.pk o.pk).get, h⟩
theorem s_dgT (ks : List L2.Key) [hs : HS H L] [o : Own L a (pt a (.dT tvs)) L'] [t : Own L q (tp q (ks.map kV)) L''] (e2 : valV tvs ks = some v) (h : Q v H) : dgK Q (.ref a) (.ref q) H :=
  ⟨a, v, rfl, by rw [← e2]; exact .t (hs.pk o.pk).get (hs.pk t.pk).fact, h⟩
/-- k not in d -/
def dnK (Q : VK) (y x : V) (H2 : Hp) : Prop := ∃ a o, x = .ref a ∧ DGet H2 a y o ∧ Q (.bl (!o.isSome)) H2
theorem s_dnotin (h : ty σ H fun y H1 => td σ H1 fun x H2 => dnK Q y x H2) : tDNotIn ty td σ H Q := h
theorem s_dnT (ks : List L2.Key) [hs : HS H L] [o : Own L a (pt a (.dT tvs)) L'] [t : Own L q (tp q (ks.map kV)) L''] (h : Q (.bl (!(valV tvs ks).isSome)) H) : dnK Q (.ref q) (.ref a) H :=
  ⟨a, _, rfl, .t (hs.pk o.pk).get (hs.pk t.pk).fact, h⟩
/-- d[k] = v -/
def dpK (D : Ends) (σ : L2.St) (v x y : V) (H3 : Hp) : Prop := ∃ a H4, x = .ref a ∧ DPut H3 a y v H4 ∧ D.nx σ H4
theorem s_dput (h : tv σ H fun v H1 => td σ H1 fun x H2 => ty σ H2 fun y H3 => dpK D σ v x y H3) : sDPut td ty tv D σ H := h
theorem s_dpK (k : L2.Key) [hs : HS H L] [o : Own L a (pt a (.dK kvs)) L'] (e : y = kV k) (z : kvs.length < sizeLine) (h : ∀ H', HS H' (pt a (.dK (L2.putK kvs k v)) :: L') → D.nx σ H') : dpK D σ v (.ref a) y H :=
  ⟨a, _, rfl, by subst e; exact .k (hs.pk o.pk).get z, h _ ((hs.pk o.pk).put id)⟩
theorem s_dpT (ks : List L2.Key) [hs : HS H L] [o : Own L a (pt a (.dT tvs)) L'] [t : Own L q (tp q (ks.map kV)) L''] (z : tvs.length < sizeLine) (h : ∀ H', HS H' (pt a (.dT (L2.putK tvs ks v)) :: L') → D.nx σ H') : dpK D σ v (.ref a) (.ref q) H :=
  ⟨a, _, rfl, .t (hs.pk o.pk).get (hs.pk t.pk).fact z, h _ ((hs.pk o.pk).put id)⟩
/-- d.get(k, x) -/
def dg3K (a : Addr) (Q : VK) (y z : V) (H3 : Hp) : Prop := ∃ o, DGet H3 a y o ∧ Q (o.getD z) H3
def dg2K (ty tx : TE) (σ : L2.St) (Q : VK) (x : V) (H1 : Hp) : Prop := ∃ a, x = .ref a ∧ IsD H1 a ∧ ty σ H1 fun y H2 => tx σ H2 fun z H3 => dg3K a Q y z H3
theorem s_dget2 (h : td σ H fun x H1 => dg2K ty tx σ Q x H1) : tDGet2 td ty tx σ H Q := h
theorem s_dg2T [hs : HS H L] [o : Own L a (pt a (.dT tvs)) L'] (h : ty σ H fun y H2 => tx σ H2 fun z H3 => dg3K a Q y z H3) : dg2K ty tx σ Q (.ref a) H := ⟨a, rfl, .inr ⟨_, .inl (hs.pk o.pk).get⟩, h⟩
theorem s_dg3T {z : V} (ks : List L2.Key) [hs : HS H L] [o : Own L a (pt a (.dT tvs)) L'] [t : Own L q (tp q (ks.map kV)) L''] (h : Q ((valV tvs ks).getD z) H) : dg3K a Q (.ref q) z H :=
  ⟨_, .t (hs.pk o.pk).get (hs.pk t.pk).fact, h⟩
end
section
variable {K : PySem.W.Frag} {H : Hp} {Q : VK} {L : List SA} {x : V} {q : Addr} {m : Mdl} {n : Nat}
/-- a model == () -/
theorem s_eqMd [hs : HS H L] [r : MdR K L x m] [t : RdT K L q []] (ok : MOk n m) (hn : n ≤ 10) (h : Q (.bl false) H) : rEqG K x (.ref q) H Q := by
  have hd := mdD_depth n m ok
  refine .inr ⟨mdD m, .tuple [], (r.rd hs).dp, .tup (t.sq hs) .nil, ?_, rfl, ?_⟩
  · unfold SeqAt.shaped
    rw [mdD_lay]
    simp only [Bool.true_and, decide_eq_true_eq]
    omega
  · have e : PyData.eqv (mdD m) (.tuple []) = false := by cases m <;> simp [mdD, PyData.eqv, PyData.eqvAll]
    rw [e]; exact h
end
def spAreLearning : Sp := fun vs H Q _ => ∃ s st li, vs = [.int s, .int st, .int li] ∧ Lok s st li ∧ Q (.bl true) H
def spIsPlain (K : PySem.W.Frag) : Sp := fun vs H Q _ => ∃ x cs L, vs = [x] ∧ HS H L ∧ MdR K L x (.plain cs) ∧ MOk 1 (.plain cs) ∧ ∀ H', HS H' L → Q (.bl true) H'
def spIsModel (K : PySem.W.Frag) (n : Nat) : Sp := fun vs H Q _ => ∃ x m L, vs = [x, .int (n : Nat)] ∧ n ≤ 3 ∧ HS H L ∧ MdR K L x m ∧ MOk n m ∧ ∀ H', HS H' L → Q (.bl true) H'
def spSignsOf (K : PySem.W.Frag) (n : Nat) : Sp := fun vs H Q _ => ∃ x m L, vs = [x] ∧ HS H L ∧ MdR K L x m ∧ MOk n m ∧ ∀ H', HS H' L → Q (.int (nsg m)) H'
/-- a model whose parts are so; a blend's own sum may be too great -/
def MOkT : Nat → Mdl → Prop
  | 0, _ => False
  | n + 1, .plain cs => MOk (n + 1) (.plain cs)
  | n + 1, .learn s st li => MOk (n + 1) (.learn s st li)
  | n + 1, .ahead o s st li => MOk (n + 1) (.ahead o s st li)
  | n + 1, .blend a b w => (1 ≤ w ∧ w ≤ 5) ∧ MOk n a ∧ MOk n b ∧ nsg a = nsg b
theorem MOk.top : ∀ {n : Nat} {m : Mdl}, MOk n m → MOkT n m
  | 0, _, h => False.elim h
  | _ + 1, .plain _, h => h
  | _ + 1, .learn _ _ _, h => h
  | _ + 1, .ahead _ _ _ _, h => h
  | _ + 1, .blend _ _ _, h => ⟨h.1, h.2.1, h.2.2.1, h.2.2.2.1⟩
def spMostOf (K : PySem.W.Frag) (n : Nat) : Sp := fun vs H Q _ => ∃ x m L, vs = [x] ∧ HS H L ∧ MdR K L x m ∧ MOkT n m ∧ ∀ H', HS H' L → Q (.int (mst m)) H'
def spGreatest (K : PySem.W.Frag) : Sp := fun vs H Q _ => ∃ x m L, vs = [x] ∧ HS H L ∧ MdR K L x m ∧ MOk 3 m ∧ ∀ H', HS H' L → Q (.int (mst m)) H'
def spNeedModel (K : PySem.W.Frag) : Sp := fun vs H Q _ => ∃ x m L, vs = [x] ∧ HS H L ∧ MdR K L x m ∧ MOk 3 m ∧ ∀ H', HS H' L → Q .non H'
section
variable {K : PySem.W.Frag} {H : Hp} {Q : VK} {E : XK} {L : List SA} {x : V} {m : Mdl} {n : Nat} {i : Int} {cs : List Int} {s st li : Int}
theorem c_areLearning (h : Lok s st li) (k : Q (.bl true) H) : spAreLearning [.int s, .int st, .int li] H Q E := ⟨s, st, li, rfl, h, k⟩
theorem c_isPlain [hs : HS H L] (r : MdR K L x (.plain cs)) (ok : MOk 1 (.plain cs)) (k : ∀ H', HS H' L → Q (.bl true) H') : spIsPlain K [x] H Q E := ⟨x, cs, L, rfl, hs, r, ok, k⟩
theorem c_isModel [hs : HS H L] [r : MdR K L x m] (e : i = (n : Nat)) (hn : n ≤ 3) (ok : MOk n m) (k : ∀ H', HS H' L → Q (.bl true) H') : spIsModel K n [x, .int i] H Q E := ⟨x, m, L, by rw [e], hn, hs, r, ok, k⟩
theorem MOk.le : ∀ {k n : Nat} {m : Mdl}, MOk n m → n ≤ k → MOk k m
  | 0, n, m, h, l => by have : n = 0 := by omega
                        subst this; exact h
  | k + 1, n, m, h, l => by
    by_cases e : n = k + 1
    · subst e; exact h
    · exact (MOk.le h (show n ≤ k by omega)).mono
theorem c_signsOf [hs : HS H L] [r : MdR K L x m] (ok : MOk n m) (k : ∀ H', HS H' L → Q (.int (nsg m)) H') : spSignsOf K n [x] H Q E := ⟨x, m, L, rfl, hs, r, ok, k⟩
theorem c_mostOf [hs : HS H L] [r : MdR K L x m] (ok : MOk n m) (k : ∀ H', HS H' L → Q (.int (mst m)) H') : spMostOf K n [x] H Q E := ⟨x, m, L, rfl, hs, r, ok.top, k⟩
theorem c_greatest [hs : HS H L] [r : MdR K L x m] (ok : MOk 3 m) (k : ∀ H', HS H' L → Q (.int (mst m)) H') : spGreatest K [x] H Q E := ⟨x, m, L, rfl, hs, r, ok, k⟩
theorem c_mostT [hs : HS H L] [r : MdR K L x m] (ok : MOkT n m) (k : ∀ H', HS H' L → Q (.int (mst m)) H') : spMostOf K n [x] H Q E := ⟨x, m, L, rfl, hs, r, ok, k⟩
theorem c_needModel [hs : HS H L] [r : MdR K L x m] (ok : MOk 3 m) (k : ∀ H', HS H' L → Q .non H') : spNeedModel K [x] H Q E := ⟨x, m, L, rfl, hs, r, ok, k⟩
end
end G

/-! sum(t) of a tuple of ints. -/
namespace G
open PySem L2
def rSumT (K : PySem.W.Frag) : List V → Hp → VK → Prop := fun vs H Q => ∃ (a : Addr) (ns : List Int), vs = [V.ref a] ∧ SqT K H a (iv ns) ∧ Q (.int ns.sum) H
section
open PySem PySem.Spec PyProof.Rows
variable {prog : Program} {w : World} {A : Around} {E : Value → Shared → Prop} {s : Shared}
theorem sum_tup {l : Addr} {its : List Value} {ns : List Int} {Q : Value → Shared → Prop} (hh : A.handled = none) (hl : s.heap.IsTuple l its.toArray) (hi : IntsAre its ns)
    (h : ∀ h' tk t', (∀ b o, s.heap.get? b = some o → h'.get? b = some o) → Q (.int ns.sum t') { s with heap := h', toks := tk }) : wpAny (model prog w) A (call (.builtin "sum") [.ref l]) Q E s := by
  obtain ⟨xs, e⟩ := hi.allInts.items
  have hn : numsOf (intItems xs).toList = ns := by rw [← e]; exact hi.numsOf
  rw [nums_intItems] at hn
  rw [e] at hl
  have hlt : l < s.heap.objs.size := by obtain ⟨_, q, _⟩ := id hl; exact Heap.lt_size q
  refine call_sum_walkG (wpAny_pyIter_tuple hl ?_)
  refine ⟨_, _, _, _, _, _, numAt xs, rfl, Walks.tuple (A := A.in1) hh _ l (Nat.ne_of_lt hlt) (intItems xs), ⟨⟨_, Heap.get?_push_size _ rfl, rfl, rfl⟩, hl.at fun o q => Heap.get?_push_of_some _ q⟩, fun b hb => ?_, (fun _ _ => intItems_at), fun h' tk t' hk => ?_⟩
  · show b < (s.heap.push _).objs.size
    rw [Heap.size_push]
    rcases List.mem_cons.mp hb with rfl | hb
    · exact Nat.lt_succ_self _
    · rw [List.mem_singleton.mp hb]; exact Nat.lt_succ_of_lt hlt
  · have := h h' tk t' fun b o q => hk b o (fun z => absurd (Heap.lt_size q) (by rw [List.mem_singleton.mp z]; exact Nat.lt_irrefl _)) (Heap.get?_push_of_some _ q)
    have hp : preSum (numAt xs) (intItems xs).size = ns.sum := by
      rw [preSum_eq, List.take_of_length_le (by simp [intItems]), hn]
    rw [hp]
    exact this
end
theorem cr_sumT {X : Cx} (hc : X.calm = true) : CallR X (.builtin "sum") (rSumT X.K) := by
  intro pins s σ H vs us Q I r h
  obtain ⟨a, ns, rfl, hs, q⟩ := h
  obtain ⟨its, rv, hl, _⟩ := I.tuple hs
  rw [Vals.ref1 r]
  exact sum_tup (I.ok.hd hc) hl rv.ints fun h' tk t' hk => ⟨.int _, H, I.kept hk, ⟨_, rfl⟩, q⟩
theorem call_sumTK {X : Cx} {K : PySem.W.Frag} (h : X.K = K) (hc : X.calm = true) : CallR X (.builtin "sum") (rSumT K) := h ▸ cr_sumT hc
theorem s_sumT {K : PySem.W.Frag} {H : Hp} {Q : VK} {L : List SA} {p : Addr} {cs : List Int} [hs : HS H L] [m : RdT K L p (iv cs)] (h : Q (.int cs.sum) H) : rSumT K [.ref p] H Q := ⟨p, cs, rfl, m.sq hs, h⟩
/-- a comprehension over a tuple -/
def tuK (K : PySem.W.Frag) (R : It → Hp → Prop) (x : V) (H1 : Hp) : Prop := ∃ a, x = .ref a ∧ (∃ xs, SqT K H1 a xs) ∧ R (Itt K a) H1
theorem s_anyTK {K : PySem.W.Frag} {σ : L2.St} {H : Hp} {te : TE} {R : It → Hp → Prop} (h : te σ H fun x H1 => tuK K R x H1) : iAny K te σ H R := .inr (.inl h)
theorem s_tuK {K : PySem.W.Frag} {H : Hp} {L : List SA} {p : Addr} {xs : List V} {R : It → Hp → Prop} [hs : HS H L] [m : RdT K L p xs] (h : R (Itt K p) H) : tuK K R (.ref p) H := ⟨p, rfl, ⟨xs, m.sq hs⟩, h⟩
theorem c_tuple {K : PySem.W.Frag} {σ : L2.St} {H : Hp} {Q : VK} {L : List SA} {g : TG} {te : TE} {p : Addr} {tt : TT} {vs : List Nat} (xs : List V) [hs0 : HS H L] (Pv : Addr → Nat → Hp → Prop) (h0 : ∀ D H', HS H' (pt D (.lst []) :: L) → Pv D 0 H') (hl : ∀ D i H, i ≤ xs.length → Pv D i H → SqT K H p xs)
    (hs : ∀ D i x H, xs[i]? = some x → Pv D i H → g x (wipe σ vs) H fun σ2 H2 => wipe σ2 vs = wipe σ vs ∧ tt σ2 H2 fun b H3 => if b = true then te σ2 H3 fun y H4 => accK D (Pv D (i + 1)) y H4 else Pv D (i + 1) H3)
    (hd : ∀ D H, Pv D xs.length H → Q (.ref D) H) : lcK g tt te vs σ Q (Itt K p) H := fun D hD =>
  lc_tup (xs := xs) (Pv D) (h0 D _ (hs0.new hD id)) (hl D) (hs D) (hd D)
theorem f_tuple {K : PySem.W.Frag} {σ : L2.St} {H : Hp} {D : Ends} {g : TG} {p : Addr} {tb : TS} (xs : List V) (Pv : Nat → L2.St → Hp → Prop) (h0 : Pv 0 σ H) (hl : ∀ i σ H, i ≤ xs.length → Pv i σ H → SqT K H p xs)
    (hs : ∀ i x σ H, xs[i]? = some x → Pv i σ H → g x σ H fun σ2 H2 => tb { D with nx := Pv (i + 1), ct := Pv (i + 1), bk := D.nx } σ2 H2) (hd : ∀ σ H, Pv xs.length σ H → D.nx σ H) : forK g tb D σ (Itt K p) H :=
  for_tup (xs := xs) Pv h0 hl hs hd
end G

/-! Minds: what a model becomes as it learns. -/
namespace G
open PySem L2
inductive Mnd where
  | plain (cs : List Int)
  | learn (cs : List Int) (st li : Int)
  | ahead (o s st li : Int) (last : List Int) (f : List Int → List Int)
  | blend (a b : Mnd) (w : Int)
def ones (s : Int) : List Int := List.replicate s.toNat 1
/-- halved until the sum is no greater than li -/
def halv : Nat → Int → List Int → List Int
  | 0, _, cs => cs
  | n + 1, li, cs => if li < cs.sum then halv n li (halves cs) else cs
def lrn (li st : Int) (cs : List Int) (s : Nat) : List Int := halv (cs.set s (cs.getD s 0 + st)).sum.toNat li (cs.set s (cs.getD s 0 + st))
def lastO (o : Int) (xs : List Int) : List Int := xs.drop (xs.length - o.toNat)
def Mnd.now : Mnd → List Int
  | .plain cs => cs
  | .learn cs _ _ => cs
  | .ahead _ _ _ _ last f => f last
  | .blend a b w => List.zipWith (fun x y => w * x + y) a.now b.now
def Mnd.lrn : Mnd → Nat → Mnd
  | .plain cs, _ => .plain cs
  | .learn cs st li, s => .learn (G.lrn li st cs s) st li
  | .ahead o sg st li last f, s => .ahead o sg st li (lastO o (last ++ [(s : Int)])) (fun k => if k = last then G.lrn li st (f last) s else f k)
  | .blend a b w, s => .blend (a.lrn s) (b.lrn s) w
def mind : Mdl → Mnd
  | .plain cs => .plain cs
  | .learn s st li => .learn (ones s) st li
  | .ahead o s st li => .ahead o s st li [] (fun _ => ones s)
  | .blend a b w => .blend (mind a) (mind b) w
/-- counts of sg signs, their sum no greater than mo -/
structure Cok (sg mo : Int) (cs : List Int) : Prop where
  len : (cs.length : Int) = sg
  pos : ∀ c ∈ cs, 1 ≤ c
  sum : cs.sum ≤ mo
/-- a mind of sg signs, no more than n deep, whose counts' sum is no greater than mo -/
def NOk : Nat → Mnd → Int → Int → Prop
  | 0, _, _, _ => False
  | _ + 1, .plain cs, sg, mo => (1 ≤ sg ∧ sg ≤ 8) ∧ mo ≤ 4000 ∧ Cok sg mo cs
  | _ + 1, .learn cs st li, sg, mo => Lok sg st li ∧ li ≤ mo ∧ mo ≤ 4000 ∧ Cok sg li cs
  | _ + 1, .ahead o s st li last f, sg, mo => s = sg ∧ (1 ≤ o ∧ o ≤ 2) ∧ Lok sg st li ∧ li ≤ mo ∧ mo ≤ 4000 ∧ (last.length ≤ 2 ∧ ∀ i ∈ last, 0 ≤ i ∧ i < 8) ∧ ∀ k, Cok sg li (f k)
  | n + 1, .blend a b w, sg, mo => ∃ ma mb, NOk n a sg ma ∧ NOk n b sg mb ∧ (1 ≤ w ∧ w ≤ 5) ∧ w * ma + mb ≤ mo ∧ mo ≤ 4000
theorem sum_len : ∀ (l : List Int), (∀ c ∈ l, 1 ≤ c) → (l.length : Int) ≤ l.sum
  | [], _ => by simp
  | a :: l, q => by have := sum_len l (fun y hy => q y (List.mem_cons_of_mem _ hy)); have := q a List.mem_cons_self; simp only [List.sum_cons, List.length_cons]; omega
theorem mem_le_sum : ∀ (l : List Int), (∀ c ∈ l, 1 ≤ c) → ∀ c ∈ l, c ≤ l.sum
  | [], _, _, h => by simp at h
  | a :: l, q, c, h => by
    have h0 := sum_nn l (fun y hy => by have := q y (List.mem_cons_of_mem _ hy); omega)
    have ha := q a List.mem_cons_self
    simp only [List.sum_cons]
    rcases List.mem_cons.mp h with rfl | h
    · omega
    · have := mem_le_sum l (fun y hy => q y (List.mem_cons_of_mem _ hy)) c h
      omega
theorem Cok.good {sg mo : Int} {cs : List Int} (h : Cok sg mo cs) (h1 : 1 ≤ sg ∧ sg ≤ 8) : Good cs := ⟨by have := h.len; omega, by have := h.len; omega, h.pos⟩
theorem Cok.le {sg mo mo' : Int} {cs : List Int} (h : Cok sg mo cs) (l : mo ≤ mo') : Cok sg mo' cs := ⟨h.len, h.pos, Int.le_trans h.sum l⟩
theorem zw_len (w : Int) (as bs : List Int) (h : as.length = bs.length) : (List.zipWith (fun x y => w * x + y) as bs).length = as.length := by rw [List.length_zipWith]; omega
theorem zw_sum (w : Int) : ∀ (as bs : List Int), as.length = bs.length → (List.zipWith (fun x y => w * x + y) as bs).sum = w * as.sum + bs.sum
  | [], [], _ => by simp
  | [], _ :: _, h => by simp at h
  | _ :: _, [], h => by simp at h
  | a :: as, b :: bs, h => by
    have := zw_sum w as bs (by simpa using h)
    simp only [List.zipWith_cons_cons, List.sum_cons, this, Int.mul_add]
    omega
theorem zw_pos {w : Int} (hw : 1 ≤ w) : ∀ (as bs : List Int), (∀ c ∈ as, 1 ≤ c) → (∀ c ∈ bs, 1 ≤ c) → ∀ c ∈ List.zipWith (fun x y => w * x + y) as bs, 1 ≤ c
  | [], _, _, _, c, h => by simp at h
  | _ :: _, [], _, _, c, h => by simp at h
  | a :: as, b :: bs, ha, hb, c, h => by
    rw [List.zipWith_cons_cons] at h
    rcases List.mem_cons.mp h with rfl | h
    · have h1 := ha a List.mem_cons_self
      have h2 := hb b List.mem_cons_self
      have : 0 ≤ w * a := Int.mul_nonneg (by omega) (by omega)
      omega
    · exact zw_pos hw as bs (fun x hx => ha x (List.mem_cons_of_mem _ hx)) (fun x hx => hb x (List.mem_cons_of_mem _ hx)) c h
theorem NOk.sg : ∀ {n : Nat} {m : Mnd} {sg mo : Int}, NOk n m sg mo → (1 ≤ sg ∧ sg ≤ 8) ∧ mo ≤ 4000
  | 0, _, _, _, h => False.elim h
  | _ + 1, .plain cs, sg, mo, h => ⟨h.1, h.2.1⟩
  | _ + 1, .learn cs st li, sg, mo, h => ⟨h.1.1, h.2.2.1⟩
  | _ + 1, .ahead o s st li last f, sg, mo, h => ⟨h.2.2.1.1, h.2.2.2.2.1⟩
  | n + 1, .blend a b w, sg, mo, ⟨ma, mb, h1, _, _, _, h⟩ => ⟨h1.sg.1, h⟩
theorem NOk.now : ∀ {n : Nat} {m : Mnd} {sg mo : Int}, NOk n m sg mo → Cok sg mo m.now
  | 0, _, _, _, h => False.elim h
  | _ + 1, .plain cs, sg, mo, h => h.2.2
  | _ + 1, .learn cs st li, sg, mo, h => h.2.2.2.le h.2.1
  | _ + 1, .ahead o s st li last f, sg, mo, h => (h.2.2.2.2.2.2 last).le h.2.2.2.1
  | n + 1, .blend a b w, sg, mo, ⟨ma, mb, h1, h2, h3, h4, h5⟩ => by
    have a1 := h1.now
    have b1 := h2.now
    have el : a.now.length = b.now.length := by have := a1.len; have := b1.len; omega
    refine ⟨?_, zw_pos h3.1 _ _ a1.pos b1.pos, ?_⟩
    · show ((List.zipWith _ _ _).length : Int) = sg
      rw [zw_len _ _ _ el]; exact a1.len
    · show (List.zipWith _ _ _).sum ≤ mo
      rw [zw_sum _ _ _ el]
      have : w * a.now.sum ≤ w * ma := Int.mul_le_mul_of_nonneg_left a1.sum (by omega)
      have := b1.sum
      omega
theorem NOk.good {n : Nat} {m : Mnd} {sg mo : Int} (h : NOk n m sg mo) : Good m.now ∧ (∀ c ∈ m.now, c ≤ 4000) ∧ (m.now.length : Int) = sg ∧ m.now.sum ≤ 4000 := by
  have c := h.now
  have s := h.sg
  have hs := c.sum
  exact ⟨c.good s.1, fun x hx => by have := mem_le_sum _ c.pos x hx; omega, c.len, by omega⟩
theorem halves_pos {cs : List Int} (h : ∀ c ∈ cs, 1 ≤ c) : ∀ c ∈ halves cs, 1 ≤ c := fun c hc => by
  obtain ⟨x, hx, rfl⟩ := List.mem_map.mp hc
  have := h x hx
  omega
theorem halves_len (cs : List Int) : (halves cs).length = cs.length := by simp [halves]
theorem halves_sum : ∀ (cs : List Int), (∀ c ∈ cs, 1 ≤ c) → (halves cs).sum ≤ cs.sum ∧ ((cs.length : Int) < cs.sum → (halves cs).sum < cs.sum)
  | [], _ => by simp [halves]
  | a :: l, q => by
    have ih := halves_sum l (fun y hy => q y (List.mem_cons_of_mem _ hy))
    have ha := q a List.mem_cons_self
    simp only [halves, List.map_cons, List.sum_cons, List.length_cons] at ih ⊢
    omega
theorem halv_ok {sg li : Int} (hl : sg ≤ li) : ∀ (n : Nat) (cs : List Int), (cs.length : Int) = sg → (∀ c ∈ cs, 1 ≤ c) → cs.sum.toNat ≤ n → Cok sg li (halv n li cs)
  | 0, cs, h1, h2, h3 => by
    have := sum_len cs h2
    exact ⟨h1, h2, by simp only [halv]; omega⟩
  | n + 1, cs, h1, h2, h3 => by
    simp only [halv]
    split
    · rename_i h
      have hs := (halves_sum cs h2).2 (by omega)
      have := sum_len cs h2
      exact halv_ok hl n (halves cs) (by rw [halves_len]; exact h1) (halves_pos h2) (by omega)
    · exact ⟨h1, h2, by omega⟩
theorem halv_more {sg li : Int} (hl : sg ≤ li) : ∀ (n k : Nat) (cs : List Int), (cs.length : Int) = sg → (∀ c ∈ cs, 1 ≤ c) → cs.sum.toNat ≤ n → n ≤ k → halv k li cs = halv n li cs
  | 0, 0, cs, _, _, _, _ => rfl
  | 0, k + 1, cs, h1, h2, h3, _ => by
    have := sum_len cs h2
    simp only [halv]
    rw [if_neg (by omega)]
  | n + 1, 0, cs, _, _, _, h => by omega
  | n + 1, k + 1, cs, h1, h2, h3, h4 => by
    simp only [halv]
    split
    · have hs := (halves_sum cs h2).2 (by omega)
      have := sum_len cs h2
      exact halv_more hl n k (halves cs) (by rw [halves_len]; exact h1) (halves_pos h2) (by omega) (by omega)
    · rfl
theorem lrn_ok {sg st li : Int} {cs : List Int} {s : Nat} (L : Lok sg st li) (h : Cok sg li cs) (hs : (s : Int) < sg) : Cok sg li (lrn li st cs s) := by
  have hp := h.pos
  have hl := h.len
  refine halv_ok L.2.2.1 _ _ (by rw [List.length_set]; exact hl) (fun c hc => ?_) (Nat.le_refl _)
  rcases List.mem_or_eq_of_mem_set hc with q | q
  · exact hp c q
  · have : s < cs.length := by omega
    have := hp _ (List.mem_of_getElem? (get_getD this))
    have := L.2.1.1
    omega
theorem lastO_len {o : Int} (ho : 1 ≤ o ∧ o ≤ 2) (xs : List Int) : (lastO o xs).length ≤ 2 := by unfold lastO; rw [List.length_drop]; omega
theorem NOk.lrn : ∀ {n : Nat} {m : Mnd} {sg mo : Int} {s : Nat}, NOk n m sg mo → (s : Int) < sg → NOk n (m.lrn s) sg mo
  | 0, _, _, _, _, h, _ => False.elim h
  | _ + 1, .plain cs, sg, mo, s, h, _ => h
  | _ + 1, .learn cs st li, sg, mo, s, h, hs => ⟨h.1, h.2.1, h.2.2.1, lrn_ok h.1 h.2.2.2 hs⟩
  | _ + 1, .ahead o _ st li last f, sg, mo, s, ⟨e, h1, h2, h3, h4, h5, h6⟩, hs => by
    refine ⟨e, h1, h2, h3, h4, ⟨lastO_len h1 _, fun i hi => ?_⟩, fun k => ?_⟩
    · have hi2 := List.mem_of_mem_drop hi
      rcases List.mem_append.mp hi2 with q | q
      · exact h5.2 i q
      · rw [List.mem_singleton.mp q]; have := h2.1; omega
    · show Cok sg li (if k = last then G.lrn li st (f last) s else f k)
      split
      · exact lrn_ok h2 (h6 last) hs
      · exact h6 k
  | n + 1, .blend a b w, sg, mo, s, ⟨ma, mb, h1, h2, h3⟩, hs => ⟨ma, mb, h1.lrn hs, h2.lrn hs, h3⟩
theorem ones_ok {s : Int} (h : 0 ≤ s) {li : Int} (hl : s ≤ li) : Cok s li (ones s) := by
  refine ⟨by simp [ones]; omega, fun c hc => by rw [List.eq_of_mem_replicate hc]; exact Int.le_refl 1, ?_⟩
  have : (ones s).sum = s := by
    have : ∀ n : Nat, (List.replicate n (1 : Int)).sum = n := by
      intro n; induction n with
      | zero => rfl
      | succ n ih => rw [List.replicate_succ, List.sum_cons, ih]; push_cast; omega
    unfold ones; rw [this]; omega
  omega
theorem NOk.begun : ∀ {n : Nat} {m : Mdl}, MOk n m → NOk n (mind m) (nsg m) (mst m)
  | 0, _, h => False.elim h
  | n + 1, .plain cs, h => ⟨by have := h.1; simp only [nsg]; omega, (MOk.mst (n := n + 1) (m := .plain cs) h).2, rfl, fun c hc => (h.2 c hc).1, Int.le_refl _⟩
  | n + 1, .learn s st li, h => ⟨h, Int.le_refl _, (MOk.mst (n := n + 1) (m := .learn s st li) h).2, ones_ok (s := s) (by have := h.1; omega) h.2.2.1⟩
  | n + 1, .ahead o s st li, h => ⟨rfl, h.1, h.2, Int.le_refl _, (MOk.mst (n := n + 1) (m := .ahead o s st li) h).2, ⟨by simp, by simp⟩, fun _ => ones_ok (s := s) (by have := h.2.1; omega) h.2.2.2.1⟩
  | n + 1, .blend a b w, h => ⟨mst a, mst b, NOk.begun h.2.1, by have := NOk.begun h.2.2.1; rw [← h.2.2.2.1] at this; exact this, h.1, Int.le_refl _, h.2.2.2.2⟩
end G

/-! Minds in the heap. -/
namespace G
open PySem L2
def kl (xs : List Int) : List L2.Key := xs.map Sum.inl
theorem iv_kl (xs : List Int) : iv xs = (kl xs).map kV := by
  unfold iv kl; rw [List.map_map]; rfl
theorem kl_inj : ∀ {xs ys : List Int}, kl xs = kl ys → xs = ys
  | [], [], _ => rfl
  | [], _ :: _, h => by simp [kl] at h
  | _ :: _, [], h => by simp [kl] at h
  | x :: xs, y :: ys, h => by
    simp only [kl, List.map_cons, List.cons.injEq] at h
    rw [Sum.inl.inj h.1, kl_inj (xs := xs) (ys := ys) h.2]
def lrS (Sh Le p : Addr) (cs : List Int) (st li : Int) : SA := exA fun h : Addr => G.st (ob p Le [("here", .ref h), ("step", .int st), ("limit", .int li)]) (shR Sh h cs)
abbrev Ent := List Int × Addr × List Int
def entS (Sh Le : Addr) (st li : Int) : List Ent → SA
  | [] => pu True
  | e :: r => G.st (lrS Sh Le e.2.1 e.2.2 st li) (entS Sh Le st li r)
def entD (es : List Ent) : List (List L2.Key × V) := es.map fun e => (kl e.1, V.ref e.2.1)
structure EntOk (es : List Ent) (s : Int) (f : List Int → List Int) : Prop where
  nd : (es.map (·.1)).Nodup
  val : ∀ e ∈ es, e.2.2 = f e.1
  out : ∀ k, (∀ e ∈ es, e.1 ≠ k) → f k = ones s
  few : ∀ e ∈ es, e.1.length ≤ 2 ∧ ∀ i ∈ e.1, 0 ≤ i ∧ i < 8
def msa (K : PySem.W.Frag) (Sh Pl Le Ah Bl : Addr) : Mnd → Addr → SA
  | .plain cs, p => exA fun h : Addr => G.st (ob p Pl [("here", .ref h)]) (shR Sh h cs)
  | .learn cs st li, p => lrS Sh Le p cs st li
  | .ahead o s st li last f, p => exA fun n : Addr => exA fun l : Addr => exA fun d : Addr => exA fun es : List Ent =>
    G.st (ob p Ah [("order", .int o), ("numbers", .ref n), ("last", .ref l), ("known", .ref d)]) (G.st (tq K n [.int s, .int st, .int li]) (G.st (tp l ((kl last).map kV)) (G.st (pt d (.dT (entD es))) (G.st (entS Sh Le st li es) (pu (EntOk es s f))))))
  | .blend a b w, p => exA fun q : Addr => exA fun r : Addr => G.st (ob p Bl [("one", .ref q), ("other", .ref r), ("weight", .int w)]) (G.st (msa K Sh Pl Le Ah Bl a q) (msa K Sh Pl Le Ah Bl b r))
instance {K : PySem.W.Frag} {Sh Pl Le Ah Bl p : Addr} {m : Mnd} : Key (msa K Sh Pl Le Ah Bl m p) p := ⟨⟩
instance {Sh Le p : Addr} {cs : List Int} {st li : Int} : Key (lrS Sh Le p cs st li) p := ⟨⟩
section
variable {K : PySem.W.Frag} {Sh Pl Le Ah Bl p : Addr} {H : Hp} {L : List SA} {cs : List Int} {o s st li w : Int} {last : List Int} {f : List Int → List Int} {a b m : Mnd}
theorem HS.lr_in (h : HS H (lrS Sh Le p cs st li :: L)) : ∃ h0 : Addr, HS H (ob p Le [("here", .ref h0), ("step", .int st), ("limit", .int li)] :: shR Sh h0 cs :: L) :=
  let ⟨x, h⟩ := h.ex_in
  ⟨x, h.st_in⟩
theorem HS.lr_out {h0 : Addr} (h : HS H (ob p Le [("here", .ref h0), ("step", .int st), ("limit", .int li)] :: shR Sh h0 cs :: L)) : HS H (lrS Sh Le p cs st li :: L) := (h.st_out).ex_out h0
theorem HS.pl_in (h : HS H (msa K Sh Pl Le Ah Bl (.plain cs) p :: L)) : ∃ h0 : Addr, HS H (ob p Pl [("here", .ref h0)] :: shR Sh h0 cs :: L) := by
  obtain ⟨x, h⟩ := HS.ex_in (g := fun h : Addr => G.st (ob p Pl [("here", .ref h)]) (shR Sh h cs)) h
  exact ⟨x, h.st_in⟩
theorem HS.pl_out {h0 : Addr} (h : HS H (ob p Pl [("here", .ref h0)] :: shR Sh h0 cs :: L)) : HS H (msa K Sh Pl Le Ah Bl (.plain cs) p :: L) :=
  HS.ex_out (g := fun h : Addr => G.st (ob p Pl [("here", .ref h)]) (shR Sh h cs)) h0 h.st_out
theorem HS.ah_in (h : HS H (msa K Sh Pl Le Ah Bl (.ahead o s st li last f) p :: L)) : ∃ (n l d : Addr) (es : List Ent), EntOk es s f ∧
    HS H (ob p Ah [("order", .int o), ("numbers", .ref n), ("last", .ref l), ("known", .ref d)] :: tq K n [.int s, .int st, .int li] :: tp l ((kl last).map kV) :: pt d (.dT (entD es)) :: entS Sh Le st li es :: L) := by
  obtain ⟨n, h⟩ := HS.ex_in h
  obtain ⟨l, h⟩ := HS.ex_in h
  obtain ⟨d, h⟩ := HS.ex_in h
  obtain ⟨es, h⟩ := HS.ex_in h
  have h1 := h.st_in
  have h2 := (h1.pk (.there .here)).st_in
  have h3 := (h2.pk (.there .here)).st_in
  have h4 := (h3.pk (.there .here)).st_in
  have h5 := (h4.pk (.there .here)).st_in
  obtain ⟨q, h6⟩ := (h5.pk (.there .here)).pu_in
  exact ⟨n, l, d, es, q, h6.re⟩
theorem HS.ah_out {n l d : Addr} {es : List Ent} (q : EntOk es s f) (h : HS H (ob p Ah [("order", .int o), ("numbers", .ref n), ("last", .ref l), ("known", .ref d)] :: tq K n [.int s, .int st, .int li] :: tp l ((kl last).map kV) :: pt d (.dT (entD es)) :: entS Sh Le st li es :: L)) :
    HS H (msa K Sh Pl Le Ah Bl (.ahead o s st li last f) p :: L) := by
  refine HS.ex_out n (HS.ex_out l (HS.ex_out d (HS.ex_out es ?_)))
  have h0 := HS.pu_out q h
  have h1 := HS.st_out (A := entS Sh Le st li es) (B := pu (EntOk es s f)) (h0.re : HS H (entS Sh Le st li es :: pu (EntOk es s f) :: ob p Ah [("order", .int o), ("numbers", .ref n), ("last", .ref l), ("known", .ref d)] :: tq K n [.int s, .int st, .int li] :: tp l ((kl last).map kV) :: pt d (.dT (entD es)) :: L))
  have h2 := HS.st_out (h1.pk (.there (.there (.there (.there .here)))))
  have h3 := HS.st_out (h2.pk (.there (.there (.there .here))))
  have h4 := HS.st_out (h3.pk (.there (.there .here)))
  exact HS.st_out (h4.pk (.there .here))
theorem HS.bl_in (h : HS H (msa K Sh Pl Le Ah Bl (.blend a b w) p :: L)) : ∃ q r : Addr, HS H (ob p Bl [("one", .ref q), ("other", .ref r), ("weight", .int w)] :: msa K Sh Pl Le Ah Bl a q :: msa K Sh Pl Le Ah Bl b r :: L) := by
  obtain ⟨q, h⟩ := HS.ex_in h
  obtain ⟨r, h⟩ := HS.ex_in h
  have h1 := h.st_in
  have h2 := (h1.pk (.there .here)).st_in
  exact ⟨q, r, h2.re⟩
theorem HS.bl_out {q r : Addr} (h : HS H (ob p Bl [("one", .ref q), ("other", .ref r), ("weight", .int w)] :: msa K Sh Pl Le Ah Bl a q :: msa K Sh Pl Le Ah Bl b r :: L)) : HS H (msa K Sh Pl Le Ah Bl (.blend a b w) p :: L) := by
  refine HS.ex_out q (HS.ex_out r ?_)
  have h1 := HS.st_out (A := msa K Sh Pl Le Ah Bl a q) (B := msa K Sh Pl Le Ah Bl b r) (h.re : HS H (msa K Sh Pl Le Ah Bl a q :: msa K Sh Pl Le Ah Bl b r :: ob p Bl [("one", .ref q), ("other", .ref r), ("weight", .int w)] :: L))
  exact HS.st_out (h1.pk (.there .here))
/-- one of the known -/
theorem ent_take : ∀ (es : List Ent) (e : Ent), e ∈ es → ∃ xs ys, es = xs ++ e :: ys
  | [], e, h => by simp at h
  | x :: es, e, h => by
    rcases List.mem_cons.mp h with rfl | h
    · exact ⟨[], es, rfl⟩
    · obtain ⟨xs, ys, rfl⟩ := ent_take es e h
      exact ⟨x :: xs, ys, rfl⟩
theorem HS.ent_in : ∀ (xs : List Ent) {e : Ent} {ys : List Ent} {H : Hp} {L : List SA}, HS H (entS Sh Le st li (xs ++ e :: ys) :: L) → HS H (lrS Sh Le e.2.1 e.2.2 st li :: entS Sh Le st li (xs ++ ys) :: L)
  | [], e, ys, H, L, h => HS.st_in (A := lrS Sh Le e.2.1 e.2.2 st li) (B := entS Sh Le st li ys) h
  | x :: xs, e, ys, H, L, h => by
    have h1 := HS.st_in (A := lrS Sh Le x.2.1 x.2.2 st li) (B := entS Sh Le st li (xs ++ e :: ys)) h
    have h2 := HS.ent_in xs (h1.pk (.there .here))
    have h3 := HS.st_out (A := lrS Sh Le x.2.1 x.2.2 st li) (B := entS Sh Le st li (xs ++ ys)) (L := lrS Sh Le e.2.1 e.2.2 st li :: L) ((h2.pk (.there (.there .here))).pk (.there (.there .here)) |>.pk (.there .here))
    exact h3.pk (.there .here)
theorem HS.ent_out : ∀ (xs : List Ent) {e : Ent} {ys : List Ent} {H : Hp} {L : List SA}, HS H (lrS Sh Le e.2.1 e.2.2 st li :: entS Sh Le st li (xs ++ ys) :: L) → HS H (entS Sh Le st li (xs ++ e :: ys) :: L)
  | [], e, ys, H, L, h => HS.st_out (A := lrS Sh Le e.2.1 e.2.2 st li) (B := entS Sh Le st li ys) h
  | x :: xs, e, ys, H, L, h => by
    have h1 := HS.st_in (A := lrS Sh Le x.2.1 x.2.2 st li) (B := entS Sh Le st li (xs ++ ys)) (h.pk (.there .here))
    have h2 := HS.ent_out xs (e := e) (ys := ys) (L := lrS Sh Le x.2.1 x.2.2 st li :: L) ((h1.pk (.there .here)).pk (.there (.there .here)))
    exact HS.st_out (A := lrS Sh Le x.2.1 x.2.2 st li) (B := entS Sh Le st li (xs ++ e :: ys)) (h2.pk (.there .here))
end
/-! what is found of the known -/
theorem entD_val : ∀ (es : List Ent) (k : List Int), (∀ e, e ∈ es → e.1 = k → valV (entD es) (kl k) ≠ none) ∧ ∀ v, valV (entD es) (kl k) = some v → ∃ e ∈ es, e.1 = k ∧ v = .ref e.2.1
  | [], k => ⟨fun _ h => (List.not_mem_nil h).elim, fun v h => nomatch h⟩
  | e :: es, k => by
    obtain ⟨i1, i2⟩ := entD_val es k
    by_cases q : e.1 = k
    · have hv : valV (entD (e :: es)) (kl k) = some (.ref e.2.1) := valV_pos (p := (kl e.1, V.ref e.2.1)) (by rw [q])
      refine ⟨fun _ _ _ z => (by rw [hv] at z; cases z), fun v h => ?_⟩
      rw [hv] at h
      exact ⟨e, List.mem_cons_self, q, (Option.some.inj h).symm⟩
    · have hv : valV (entD (e :: es)) (kl k) = valV (entD es) (kl k) := valV_neg (p := (kl e.1, V.ref e.2.1)) (fun z => q (kl_inj z))
      rw [hv]
      refine ⟨fun x hx hk => ?_, fun v h => ?_⟩
      · rcases List.mem_cons.mp hx with rfl | hx
        · exact absurd hk q
        · exact i1 x hx hk
      · obtain ⟨x, hx, h1, h2⟩ := i2 v h
        exact ⟨x, List.mem_cons_of_mem _ hx, h1, h2⟩
theorem entD_put {es : List Ent} {k : List Int} {p : Addr} {cs : List Int} (h : valV (entD es) (kl k) = none) : L2.putK (entD es) (kl k) (.ref p) = entD (es ++ [(k, p, cs)]) := by
  rw [putK_new _ h]; simp [entD]
theorem nd_len : ∀ (n : Nat) (l : List Nat), l.Nodup → (∀ x ∈ l, x < n) → l.length ≤ n
  | 0, [], _, _ => Nat.le_refl _
  | 0, a :: l, _, h => absurd (h a List.mem_cons_self) (by omega)
  | n + 1, l, nd, h => by
    have h1 := nd_len n (l.erase n) (nd.erase n) fun x hx => by
      have h2 := (List.Nodup.mem_erase_iff nd).mp hx
      have := h x h2.2
      have := h2.1
      omega
    have h3 := List.length_erase (l := l) (a := n)
    split at h3 <;> omega
def code2 : List Int → Nat
  | [] => 0
  | [a] => 1 + a.toNat
  | a :: b :: _ => 9 + 8 * a.toNat + b.toNat
theorem code2_lt {k : List Int} (h : k.length ≤ 2 ∧ ∀ i ∈ k, 0 ≤ i ∧ i < 8) : code2 k < 100 := by
  match k, h with
  | [], _ => decide
  | [a], h => have := h.2 a (by simp); simp only [code2]; omega
  | [a, b], h => have := h.2 a (by simp); have := h.2 b (by simp); simp only [code2]; omega
  | _ :: _ :: _ :: _, h => have := h.1; simp at this
theorem code2_inj {k j : List Int} (h : k.length ≤ 2 ∧ ∀ i ∈ k, 0 ≤ i ∧ i < 8) (h' : j.length ≤ 2 ∧ ∀ i ∈ j, 0 ≤ i ∧ i < 8) (e : code2 k = code2 j) : k = j := by
  match k, h, j, h' with
  | [], _, [], _ => rfl
  | [], _, [b], h' => simp only [code2] at e; omega
  | [], _, [b, c], h' => simp only [code2] at e; omega
  | [a], h, [], _ => simp only [code2] at e; omega
  | [a], h, [b], h' => have := h.2 a (by simp); have := h'.2 b (by simp); simp only [code2] at e; congr 1; omega
  | [a], h, [b, c], h' => have := h.2 a (by simp); have := h'.2 b (by simp); have := h'.2 c (by simp); simp only [code2] at e; omega
  | [a, d], h, [], _ => simp only [code2] at e; omega
  | [a, d], h, [b], h' => have := h.2 a (by simp); have := h.2 d (by simp); have := h'.2 b (by simp); simp only [code2] at e; omega
  | [a, d], h, [b, c], h' =>
    have := h.2 a (by simp); have := h.2 d (by simp); have := h'.2 b (by simp); have := h'.2 c (by simp); simp only [code2] at e
    have e1 : a = b := by omega
    have e2 : d = c := by omega
    rw [e1, e2]
  | _ :: _ :: _ :: _, h, _, _ => have := h.1; simp at this
  | _, _, _ :: _ :: _ :: _, h => have := h.1; simp at this
theorem EntOk.small {es : List Ent} {s : Int} {f : List Int → List Int} (h : EntOk es s f) : es.length ≤ 100 := by
  have nd : (es.map fun e => code2 e.1).Nodup := by
    have := h.nd
    have hf := h.few
    clear h
    induction es with
    | nil => exact List.nodup_nil
    | cons e es ih =>
      simp only [List.map_cons, List.nodup_cons] at this ⊢
      refine ⟨fun hm => ?_, ih this.2 fun x hx => hf x (List.mem_cons_of_mem _ hx)⟩
      obtain ⟨x, hx, q⟩ := List.mem_map.mp hm
      exact this.1 (List.mem_map.mpr ⟨x, hx, code2_inj (hf x (List.mem_cons_of_mem _ hx)) (hf e List.mem_cons_self) q⟩)
  have := nd_len 100 _ nd fun x hx => by
    obtain ⟨e, he, rfl⟩ := List.mem_map.mp hx
    exact code2_lt (h.few e he)
  rw [List.length_map] at this
  exact this
theorem nodup_mid {xs ys : List (List Int)} {k : List Int} (h : (xs ++ k :: ys).Nodup) : k ∉ xs ∧ k ∉ ys := by
  obtain ⟨_, h2, h3⟩ := List.nodup_append.mp h
  exact ⟨fun q => h3 k q k List.mem_cons_self rfl, (List.nodup_cons.mp h2).1⟩
theorem EntOk.upd {xs ys : List Ent} {e : Ent} {s : Int} {f : List Int → List Int} (cs : List Int) (h : EntOk (xs ++ e :: ys) s f) : EntOk (xs ++ (e.1, e.2.1, cs) :: ys) s (fun k => if k = e.1 then cs else f k) := by
  obtain ⟨nd, val, out, few⟩ := h
  have nd' : (xs.map (·.1) ++ e.1 :: ys.map (·.1)).Nodup := by simpa using nd
  obtain ⟨n1, n2⟩ := nodup_mid nd'
  refine ⟨by simpa using nd, fun x hx => ?_, fun k hk => ?_, fun x hx => ?_⟩
  · rcases List.mem_append.mp hx with q | q
    · rw [if_neg (fun z => n1 (List.mem_map.mpr ⟨x, q, z⟩))]
      exact val x (List.mem_append_left _ q)
    · rcases List.mem_cons.mp q with rfl | q
      · rw [if_pos rfl]
      · rw [if_neg (fun z => n2 (List.mem_map.mpr ⟨x, q, z⟩))]
        exact val x (List.mem_append_right _ (List.mem_cons_of_mem _ q))
  · rw [if_neg (fun z => hk (e.1, e.2.1, cs) (List.mem_append_right _ List.mem_cons_self) z.symm)]
    refine out k fun x hx => ?_
    rcases List.mem_append.mp hx with q | q
    · exact hk x (List.mem_append_left _ q)
    · rcases List.mem_cons.mp q with rfl | q
      · exact hk (x.1, x.2.1, cs) (List.mem_append_right _ List.mem_cons_self)
      · exact hk x (List.mem_append_right _ (List.mem_cons_of_mem _ q))
  · rcases List.mem_append.mp hx with q | q
    · exact few x (List.mem_append_left _ q)
    · rcases List.mem_cons.mp q with rfl | q
      · exact few e (List.mem_append_right _ List.mem_cons_self)
      · exact few x (List.mem_append_right _ (List.mem_cons_of_mem _ q))
theorem EntOk.snoc {es : List Ent} {s : Int} {f : List Int → List Int} {k : List Int} (p : Addr) (h : EntOk es s f) (hk : ∀ e ∈ es, e.1 ≠ k) (hf : k.length ≤ 2 ∧ ∀ i ∈ k, 0 ≤ i ∧ i < 8) : EntOk (es ++ [(k, p, ones s)]) s f := by
  obtain ⟨nd, val, out, few⟩ := h
  refine ⟨?_, fun x hx => ?_, fun j hj => out j fun e he => hj e (List.mem_append_left _ he), fun x hx => ?_⟩
  · rw [List.map_append]
    refine List.nodup_append.mpr ⟨nd, by simp, fun a ha b hb z => ?_⟩
    obtain ⟨e, he, rfl⟩ := List.mem_map.mp ha
    have : b = k := by simpa using hb
    exact hk e he (z.trans this)
  · rcases List.mem_append.mp hx with q | q
    · exact val x q
    · rw [List.mem_singleton.mp q]; exact (out k hk).symm
  · rcases List.mem_append.mp hx with q | q
    · exact few x q
    · rw [List.mem_singleton.mp q]; exact hf
theorem entD_upd (xs ys : List Ent) (e : Ent) (cs : List Int) : entD (xs ++ (e.1, e.2.1, cs) :: ys) = entD (xs ++ e :: ys) := by simp [entD]
/-- an Ahead without its list of learners -/
def ahR (K : PySem.W.Frag) (Ah p n l d : Addr) (o s st li : Int) (last : List Int) (D : List (List L2.Key × V)) (X : SA) : SA :=
  G.st (ob p Ah [("order", .int o), ("numbers", .ref n), ("last", .ref l), ("known", .ref d)]) (G.st (tq K n [.int s, .int st, .int li]) (G.st (tp l ((kl last).map kV)) (G.st (pt d (.dT D)) X)))
section
variable {K : PySem.W.Frag} {Ah p n l d : Addr} {o s st li : Int} {last : List Int} {D : List (List L2.Key × V)} {X : SA} {H : Hp} {L : List SA}
theorem HS.ahR_in (h : HS H (ahR K Ah p n l d o s st li last D X :: L)) : HS H (ob p Ah [("order", .int o), ("numbers", .ref n), ("last", .ref l), ("known", .ref d)] :: tq K n [.int s, .int st, .int li] :: tp l ((kl last).map kV) :: pt d (.dT D) :: X :: L) := by
  have h1 := HS.st_in h
  have h2 := (h1.pk (.there .here)).st_in
  have h3 := (h2.pk (.there .here)).st_in
  have h4 := (h3.pk (.there .here)).st_in
  exact (((((h4.pk (.there (.there (.there (.there .here))))).pk (.there (.there (.there (.there .here))))).pk (.there (.there (.there (.there .here))))).pk (.there (.there (.there (.there .here))))).pk (.there (.there (.there (.there .here))))) |> fun q => q.re
theorem HS.ahR_out (h : HS H (ob p Ah [("order", .int o), ("numbers", .ref n), ("last", .ref l), ("known", .ref d)] :: tq K n [.int s, .int st, .int li] :: tp l ((kl last).map kV) :: pt d (.dT D) :: X :: L)) : HS H (ahR K Ah p n l d o s st li last D X :: L) := by
  have h1 := HS.st_out (A := pt d (.dT D)) (B := X) (h.re : HS H (pt d (.dT D) :: X :: ob p Ah [("order", .int o), ("numbers", .ref n), ("last", .ref l), ("known", .ref d)] :: tq K n [.int s, .int st, .int li] :: tp l ((kl last).map kV) :: L))
  have h2 := HS.st_out (h1.pk (.there (.there (.there .here))))
  have h3 := HS.st_out (h2.pk (.there (.there .here)))
  exact HS.st_out (h3.pk (.there .here))
end
end G

/-! Minds: the promises. -/
namespace G
open PySem L2
def isK : Nat → Mnd → Prop
  | 0, .plain _ => True
  | 1, .learn _ _ _ => True
  | 2, .ahead _ _ _ _ _ _ => True
  | 3, .blend _ _ _ => True
  | _, _ => False
section
variable (K : PySem.W.Frag) (Sh Pl Le Ah Bl Mo : Addr)
def spNow (k n : Nat) : Sp := fun vs H Q _ => ∃ p m sg mo L, vs = [.ref p] ∧ isK k m ∧ NOk n m sg mo ∧ HS H (msa K Sh Pl Le Ah Bl m p :: L) ∧
  ∀ (h : Addr) (W : SA) (H' : Hp), HS H' (shR Sh h m.now :: W :: L) → (∀ {H : Hp} {L : List SA}, HS H (shR Sh h m.now :: W :: L) → HSp H (msa K Sh Pl Le Ah Bl m p :: L)) → Q (.ref h) H'
def spLrn (k n : Nat) : Sp := fun vs H Q _ => ∃ p m sg mo s L, vs = [.ref p, .int (s : Nat)] ∧ isK k m ∧ NOk n m sg mo ∧ (s : Int) < sg ∧ HS H (msa K Sh Pl Le Ah Bl m p :: L) ∧ ∀ H', HS H' (msa K Sh Pl Le Ah Bl (m.lrn s) p :: L) → Q .non H'
def spLearner : Sp := fun vs H Q _ => ∃ p o s st li last f L, vs = [.ref p] ∧ NOk 1 (.ahead o s st li last f) s 4000 ∧ HS H (msa K Sh Pl Le Ah Bl (.ahead o s st li last f) p :: L) ∧
  ∀ (q : Addr) (W : SA) (H' : Hp), HS H' (msa K Sh Pl Le Ah Bl (.learn (f last) st li) q :: W :: L) →
    (∀ {H : Hp} {L : List SA} {cs : List Int}, HS H (msa K Sh Pl Le Ah Bl (.learn cs st li) q :: W :: L) → HSp H (msa K Sh Pl Le Ah Bl (.ahead o s st li last (fun k => if k = last then cs else f k)) p :: L)) → Q (.ref q) H'
def spPlainInit : Sp := fun vs H Q _ => ∃ p q b cs L, vs = [.ref p, .ref q] ∧ HS H (ob p Pl [] :: L) ∧ RdB K b L q (iv cs) ∧ Good cs ∧ (∀ c ∈ cs, c ≤ 4000) ∧ ∀ H', HS H' (msa K Sh Pl Le Ah Bl (.plain cs) p :: L) → Q .non H'
def spLearnerInit : Sp := fun vs H Q _ => ∃ p s st li L, vs = [.ref p, .int s, .int st, .int li] ∧ HS H (ob p Le [] :: L) ∧ Lok s st li ∧ ∀ H', HS H' (msa K Sh Pl Le Ah Bl (.learn (ones s) st li) p :: L) → Q .non H'
def spAheadInit : Sp := fun vs H Q _ => ∃ p o n s st li L, vs = [.ref p, .int o, .ref n] ∧ HS H (ob p Ah [] :: L) ∧ RdT K L n [.int s, .int st, .int li] ∧ ∀ H', HS H' (msa K Sh Pl Le Ah Bl (.ahead o s st li [] (fun _ => ones s)) p :: L) → Q .non H'
def spBlendInit : Sp := fun vs H Q _ => ∃ p q r w a b L, vs = [.ref p, .ref q, .ref r, .int w] ∧ HS H (ob p Bl [] :: msa K Sh Pl Le Ah Bl a q :: msa K Sh Pl Le Ah Bl b r :: L) ∧ ∀ H', HS H' (msa K Sh Pl Le Ah Bl (.blend a b w) p :: L) → Q .non H'
def spBegun (n : Nat) : Sp := fun vs H Q _ => ∃ x m L, vs = [x] ∧ HS H L ∧ MdR K L x m ∧ MOk n m ∧ ∀ p H', HS H' (msa K Sh Pl Le Ah Bl (mind m) p :: L) → Q (.ref p) H'
/-- a Model -/
def moS (p : Addr) (m : Mnd) (sg : Int) : SA := exA fun q : Addr => G.st (ob p Mo [("signs", .int sg), ("mind", .ref q)]) (msa K Sh Pl Le Ah Bl m q)
def spModelInit : Sp := fun vs H Q _ => ∃ p x m L, vs = [.ref p, x] ∧ HS H (ob p Mo [] :: L) ∧ MdR K L x m ∧ MOk 3 m ∧ ∀ H', HS H' (moS K Sh Pl Le Ah Bl Mo p (mind m) (nsg m) :: L) → Q .non H'
def spModelCounts : Sp := fun vs H Q _ => ∃ p m sg mo L, vs = [.ref p] ∧ NOk 3 m sg mo ∧ HS H (moS K Sh Pl Le Ah Bl Mo p m sg :: L) ∧ ∀ r H', HS H' (pt r (.lst (iv m.now)) :: moS K Sh Pl Le Ah Bl Mo p m sg :: L) → Q (.ref r) H'
def spModelLearn : Sp := fun vs H Q _ => ∃ p m sg mo s L, vs = [.ref p, .int (s : Nat)] ∧ NOk 3 m sg mo ∧ (s : Int) < sg ∧ HS H (moS K Sh Pl Le Ah Bl Mo p m sg :: L) ∧ ∀ H', HS H' (moS K Sh Pl Le Ah Bl Mo p (m.lrn s) sg :: L) → Q .non H'
end
section
variable {K : PySem.W.Frag} {Sh Pl Le Ah Bl Mo p q : Addr} {H : Hp} {Q : VK} {E : XK} {L F : List SA} {m a b : Mnd} {σ : L2.St} {n : Nat} {sg mo i w : Int} {cs : List Int} {s st li o : Int} {x : V} {md : Mdl}
instance {m : Mnd} {sg : Int} : Key (moS K Sh Pl Le Ah Bl Mo p m sg) p := ⟨⟩
theorem HS.mo_in (h : HS H (moS K Sh Pl Le Ah Bl Mo p m sg :: L)) : ∃ q : Addr, HS H (ob p Mo [("signs", .int sg), ("mind", .ref q)] :: msa K Sh Pl Le Ah Bl m q :: L) :=
  let ⟨x, h⟩ := h.ex_in
  ⟨x, h.st_in⟩
theorem HS.mo_out {q : Addr} (h : HS H (ob p Mo [("signs", .int sg), ("mind", .ref q)] :: msa K Sh Pl Le Ah Bl m q :: L)) : HS H (moS K Sh Pl Le Ah Bl Mo p m sg :: L) := (h.st_out).ex_out q
def mclass (Pl Le Ah Bl : Addr) : Mnd → Addr
  | .plain _ => Pl
  | .learn _ _ _ => Le
  | .ahead _ _ _ _ _ _ => Ah
  | .blend _ _ _ => Bl
theorem HS.ms_ob (h : HS H (msa K Sh Pl Le Ah Bl m p :: L)) : ∃ dx fs, H p = some (.ins (mclass Pl Le Ah Bl m) dx fs) ∧ fs.lookup ("now" : Str) = none ∧ fs.lookup ("learn" : Str) = none := by
  cases m with
  | plain cs =>
    obtain ⟨h0, h⟩ := h.pl_in
    obtain ⟨dx, e⟩ := h.ins
    exact ⟨dx, _, e, rfl, rfl⟩
  | learn cs st li =>
    obtain ⟨h0, h⟩ := HS.lr_in h
    obtain ⟨dx, e⟩ := h.ins
    exact ⟨dx, _, e, rfl, rfl⟩
  | ahead o s st li last f =>
    obtain ⟨n, l, d, es, _, h⟩ := h.ah_in
    obtain ⟨dx, e⟩ := h.ins
    exact ⟨dx, _, e, rfl, rfl⟩
  | blend a b w =>
    obtain ⟨q, r, h⟩ := h.bl_in
    obtain ⟨dx, e⟩ := h.ins
    exact ⟨dx, _, e, rfl, rfl⟩
/-- now, of whatever kind -/
abbrev tNow (K : PySem.W.Frag) (Sh Pl Le Ah Bl : Addr) (E : XK) (n : Nat) (te : TE) : TE :=
  tOr2 (tMeth Pl "now" (spNow K Sh Pl Le Ah Bl 0 1) [] E te tNil) (tOr2 (tMeth Le "now" (spNow K Sh Pl Le Ah Bl 1 1) [] E te tNil) (tOr2 (tMeth Ah "now" (spNow K Sh Pl Le Ah Bl 2 1) [] E te tNil) (tMeth Bl "now" (spNow K Sh Pl Le Ah Bl 3 n) [] E te tNil)))
abbrev tLearn (K : PySem.W.Frag) (Sh Pl Le Ah Bl : Addr) (E : XK) (n : Nat) (te ts : TE) : TE :=
  tOr2 (tMeth Pl "learn" (spLrn K Sh Pl Le Ah Bl 0 1) [] E te (tCons ts tNil)) (tOr2 (tMeth Le "learn" (spLrn K Sh Pl Le Ah Bl 1 1) [] E te (tCons ts tNil)) (tOr2 (tMeth Ah "learn" (spLrn K Sh Pl Le Ah Bl 2 1) [] E te (tCons ts tNil)) (tMeth Bl "learn" (spLrn K Sh Pl Le Ah Bl 3 n) [] E te (tCons ts tNil))))
theorem w_now {te : TE} (hte : ∀ Q' : VK, Q' (.ref q) H → te σ H Q') [hs : HS H L] [own : Own L q (msa K Sh Pl Le Ah Bl m q) F] (ok : NOk n m sg mo)
    (k : ∀ (h : Addr) (W : SA) (H' : Hp), HS H' (shR Sh h m.now :: W :: F) → (∀ {H : Hp} {L : List SA}, HS H (shR Sh h m.now :: W :: L) → HSp H (msa K Sh Pl Le Ah Bl m q :: L)) → Q (.ref h) H') : tNow K Sh Pl Le Ah Bl E n te σ H Q := by
  have h1 := hs.pk own.pk
  obtain ⟨dx, fs, e, l1, _⟩ := h1.ms_ob
  cases n with
  | zero => exact False.elim ok
  | succ n =>
  cases m with
  | plain cs => exact .inl (hte _ ⟨q, dx, fs, rfl, e, l1, q, Mnd.plain cs, sg, mo, F, rfl, trivial, ok, h1, k⟩)
  | learn cs st li => exact .inr (.inl (hte _ ⟨q, dx, fs, rfl, e, l1, q, Mnd.learn cs st li, sg, mo, F, rfl, trivial, ok, h1, k⟩))
  | ahead o s st li last f => exact .inr (.inr (.inl (hte _ ⟨q, dx, fs, rfl, e, l1, q, Mnd.ahead o s st li last f, sg, mo, F, rfl, trivial, ok, h1, k⟩)))
  | blend a b w => exact .inr (.inr (.inr (hte _ ⟨q, dx, fs, rfl, e, l1, q, Mnd.blend a b w, sg, mo, F, rfl, trivial, ok, h1, k⟩)))
theorem w_learn {te ts : TE} (s : Nat) (hte : ∀ Q' : VK, Q' (.ref q) H → te σ H Q') (hts : ∀ Q' : VK, Q' (.int (s : Int)) H → ts σ H Q') [hs : HS H L] [own : Own L q (msa K Sh Pl Le Ah Bl m q) F] (ok : NOk n m sg mo) (hl : (s : Int) < sg)
    (k : ∀ H', HS H' (msa K Sh Pl Le Ah Bl (m.lrn s) q :: F) → Q .non H') : tLearn K Sh Pl Le Ah Bl E n te ts σ H Q := by
  have h1 := hs.pk own.pk
  obtain ⟨dx, fs, e, _, l1⟩ := h1.ms_ob
  cases n with
  | zero => exact False.elim ok
  | succ n =>
  cases m with
  | plain cs => exact .inl (hte _ ⟨q, dx, fs, rfl, e, l1, hts _ ⟨q, Mnd.plain cs, sg, mo, s, F, rfl, trivial, ok, hl, h1, k⟩⟩)
  | learn cs st li => exact .inr (.inl (hte _ ⟨q, dx, fs, rfl, e, l1, hts _ ⟨q, Mnd.learn cs st li, sg, mo, s, F, rfl, trivial, ok, hl, h1, k⟩⟩))
  | ahead o s' st li last f => exact .inr (.inr (.inl (hte _ ⟨q, dx, fs, rfl, e, l1, hts _ ⟨q, Mnd.ahead o s' st li last f, sg, mo, s, F, rfl, trivial, ok, hl, h1, k⟩⟩)))
  | blend a b w => exact .inr (.inr (.inr (hte _ ⟨q, dx, fs, rfl, e, l1, hts _ ⟨q, Mnd.blend a b w, sg, mo, s, F, rfl, trivial, ok, hl, h1, k⟩⟩)))
end
section
variable {K : PySem.W.Frag} {H : Hp} {Q : VK} {L L1 L2 : List SA} {p q : Addr} {xs ys : List V} {lo hi : Option Int}
/-- two tuples, the second not empty -/
theorem s_catT [hs : HS H L] [o1 : Own L p (tp p xs) L1] [o2 : Own L q (tp q ys) L2] (hy : ys ≠ []) (z : xs.length + ys.length ≤ sizeLine) (h : ∀ r H', HS H' (tp r (xs ++ ys) :: L) → Q (.ref r) H') : rAdd K (.ref p) (.ref q) H Q := by
  have f1 := (hs.pk o1.pk).fact
  have f2 := (hs.pk o2.pk).fact
  refine .inr (.inr (.inr ⟨p, q, xs, ys, rfl, rfl, .inl (.inl f1), .inl (.inl f2), z, fun e => ?_, fun _ e => absurd e hy, fun _ _ r hr => h r _ (hs.newT hr)⟩))
  subst e
  exact h q H (hs.add f2)
/-- a part of a tuple -/
theorem s_slTp [hs : HS H L] [o1 : Own L p (tp p xs) L1] (h : ∀ r H', HS H' (tp r (cutV xs lo hi) :: L) → Q (.ref r) H') : rSlG K (.ref p) lo hi H Q := by
  have f1 := (hs.pk o1.pk).fact
  refine .inr (.inl ⟨p, xs, rfl, .inl (.inl f1), fun ⟨e1, e2⟩ => ?_, fun _ r hr => h r _ (hs.newT hr)⟩)
  have e : cutV xs lo hi = xs := by unfold cutV; rw [e1, e2]; simp
  exact h p H (hs.add (by rw [e]; exact f1))
end
theorem cut_last {o : Int} (ho : 1 ≤ o) (xs : List Int) : cutV ((kl xs).map kV) (some (0 - o)) none = (kl (lastO o xs)).map kV := by
  have hl : ((kl xs).map kV).length = xs.length := by simp [kl]
  have e : HT.sIx ((kl xs).map kV).length 0 (some (0 - o)) = xs.length - o.toNat := by
    rw [hl]
    show (if 0 - o < 0 then (0 - o + (xs.length : Int)).toNat else min (0 - o).toNat xs.length) = _
    rw [if_pos (by omega)]
    omega
  unfold cutV
  rw [e, HT.sIx_none, hl]
  unfold lastO kl
  rw [List.map_drop, List.map_drop, List.take_of_length_le (by simp)]
theorem kl_snoc (xs : List Int) (s : Int) : (kl xs).map kV ++ [V.int s] = (kl (xs ++ [s])).map kV := by simp [kl, kV]
theorem iv_getE {cs : List Int} {i : Nat} {c : Int} (h : cs[i]? = some c) : (iv cs)[i]? = some (.int c) := by unfold iv; rw [List.getElem?_map, h]; rfl
theorem zw_at {w : Int} {as bs : List Int} {i : Nat} {x y : Int} (h1 : as[i]? = some x) (h2 : bs[i]? = some y) : (List.zipWith (fun x y => w * x + y) as bs)[i]? = some (w * x + y) := by rw [List.getElem?_zipWith, h1, h2]
theorem s_slTq {K : PySem.W.Frag} {H : Hp} {Q : VK} {L : List SA} {p : Addr} {xs : List V} {lo hi : Option Int} [hs : HS H L] [m : RdT K L p xs] (hw : HT.sIx xs.length 0 lo ≠ 0) (h : ∀ r H', HS H' (tp r (cutV xs lo hi) :: L) → Q (.ref r) H') : rSlG K (.ref p) lo hi H Q :=
  .inr (.inl ⟨p, xs, rfl, m.sq hs, fun e => absurd e.1 hw, fun _ r hr => h r _ (hs.newT hr)⟩)
section
variable {K : PySem.W.Frag} {Sh Pl Le Ah Bl Mo p q r : Addr} {H : Hp} {Q : VK} {E : XK} {L F : List SA} {m a b : Mnd} {n : Nat} {sg mo i w : Int} {cs : List Int} {s st li o : Int} {x : V} {md : Mdl} {t : Bool}
theorem c_plainInit [hs : HS H L] [o : Own L p (ob p Pl []) F] [r : RdB K t F q (iv cs)] (g : Good cs) (h : ∀ c ∈ cs, c ≤ 4000) (k : ∀ H', HS H' (msa K Sh Pl Le Ah Bl (.plain cs) p :: F) → Q .non H') : spPlainInit K Sh Pl Le Ah Bl [.ref p, .ref q] H Q E := ⟨p, q, t, cs, F, rfl, hs.pk o.pk, r, g, h, k⟩
theorem c_learnerInit [hs : HS H L] [o : Own L p (ob p Le []) F] (ok : Lok s st li) (k : ∀ H', HS H' (msa K Sh Pl Le Ah Bl (.learn (ones s) st li) p :: F) → Q .non H') : spLearnerInit K Sh Pl Le Ah Bl [.ref p, .int s, .int st, .int li] H Q E := ⟨p, s, st, li, F, rfl, hs.pk o.pk, ok, k⟩
theorem c_aheadInit [hs : HS H L] [ow : Own L p (ob p Ah []) F] [r : RdT K F q [.int s, .int st, .int li]] (k : ∀ H', HS H' (msa K Sh Pl Le Ah Bl (.ahead o s st li [] (fun _ => ones s)) p :: F) → Q .non H') : spAheadInit K Sh Pl Le Ah Bl [.ref p, .int o, .ref q] H Q E := ⟨p, o, q, s, st, li, F, rfl, hs.pk ow.pk, r, k⟩
theorem c_begun [hs : HS H L] [r : MdR K L x md] (ok : MOk n md) (k : ∀ p H', HS H' (msa K Sh Pl Le Ah Bl (mind md) p :: L) → Q (.ref p) H') : spBegun K Sh Pl Le Ah Bl n [x] H Q E := ⟨x, md, L, rfl, hs, r, ok, k⟩
theorem c_modelInit [hs : HS H L] [o : Own L p (ob p Mo []) F] [r : MdR K F x md] (ok : MOk 3 md) (k : ∀ H', HS H' (moS K Sh Pl Le Ah Bl Mo p (mind md) (nsg md) :: F) → Q .non H') : spModelInit K Sh Pl Le Ah Bl Mo [.ref p, x] H Q E := ⟨p, x, md, F, rfl, hs.pk o.pk, r, ok, k⟩
theorem c_modelCounts [hs : HS H L] [o : Own L p (moS K Sh Pl Le Ah Bl Mo p m sg) F] (ok : NOk 3 m sg mo) (k : ∀ r H', HS H' (pt r (.lst (iv m.now)) :: moS K Sh Pl Le Ah Bl Mo p m sg :: F) → Q (.ref r) H') : spModelCounts K Sh Pl Le Ah Bl Mo [.ref p] H Q E := ⟨p, m, sg, mo, F, rfl, ok, hs.pk o.pk, k⟩
theorem c_modelLearn (s : Nat) (e : i = (s : Nat)) [hs : HS H L] [o : Own L p (moS K Sh Pl Le Ah Bl Mo p m sg) F] (ok : NOk 3 m sg mo) (hl : (s : Int) < sg) (k : ∀ H', HS H' (moS K Sh Pl Le Ah Bl Mo p (m.lrn s) sg :: F) → Q .non H') : spModelLearn K Sh Pl Le Ah Bl Mo [.ref p, .int i] H Q E := ⟨p, m, sg, mo, s, F, by rw [e], ok, hl, hs.pk o.pk, k⟩
end
end G

/-! The laws' own models. -/
namespace G
open PySem L2
def spLMore (K : PySem.W.Frag) : Sp := fun vs H Q _ => ∃ q s sg st li cs L, vs = [.ref q, .int (s : Nat), .int st, .int li] ∧ HS H L ∧ RdL K L q (iv cs) ∧ Lok sg st li ∧ Cok sg li cs ∧ (s : Int) < sg ∧ ∀ r H', HS H' (pt r (.lst (iv (lrn li st cs s))) :: L) → Q (.ref r) H'
theorem c_lMore {K : PySem.W.Frag} {H : Hp} {Q : VK} {E : XK} {L : List SA} {q : Addr} {i sg st li : Int} {cs : List Int} (s : Nat) (e : i = (s : Nat)) [hs : HS H L] [r : RdL K L q (iv cs)] (lk : Lok sg st li) (hc : Cok sg li cs) (hl : (s : Int) < sg) (k : ∀ r H', HS H' (pt r (.lst (iv (lrn li st cs s))) :: L) → Q (.ref r) H') : spLMore K [.ref q, .int i, .int st, .int li] H Q E :=
  ⟨q, s, sg, st, li, cs, L, by rw [e], hs, r, lk, hc, hl, k⟩
/-- c less its half is its greater half -/
theorem less_half (c : Int) : c - c / 2 = (c + 1) / 2 := by omega
theorem more_at {cs : List Int} {i s : Nat} {st : Int} (h : i < cs.length) : (cs.set s (cs.getD s 0 + st))[i]? = some (cs.getD i 0 + st * (if decide ((i : Int) = (s : Int)) = true then 1 else 0)) := by
  rw [List.getElem?_set]
  by_cases e : s = i
  · subst e
    rw [if_pos rfl, if_pos h, if_pos (decide_eq_true rfl), Int.mul_one]
  · rw [if_neg e, if_neg (by rw [decide_eq_false (by omega)]; exact Bool.false_ne_true), Int.mul_zero, Int.add_zero]
    exact get_getD h
end G

/-! The laws' own minds in the heap. -/
namespace G
open PySem L2
def Fit : Mdl → Mnd → Prop
  | .plain _, .plain _ => True
  | .learn _ st li, .learn _ st' li' => st = st' ∧ li = li'
  | .ahead o s st li, .ahead o' s' st' li' _ _ => o = o' ∧ s = s' ∧ st = st' ∧ li = li'
  | .blend _ _ w, .blend _ _ w' => w = w'
  | _, _ => False
def lentS : List Ent → SA
  | [] => pu True
  | e :: r => G.st (pt e.2.1 (.lst (iv e.2.2))) (lentS r)
def lmF (K : PySem.W.Frag) (m : Mnd) (cs : List Int) (p : Addr) : SA := exA fun x : V => exA fun m0 : Mdl => exA fun q : Addr =>
  G.st (pt p (.dK [(.inr "model", x), (.inr "counts", .ref q)])) (G.st (md K m0 x) (G.st (pt q (.lst (iv cs))) (pu (Fit m0 m))))
def lms (K : PySem.W.Frag) : Mnd → Addr → SA
  | .plain cs, p => lmF K (.plain cs) cs p
  | .learn cs st li, p => lmF K (.learn cs st li) cs p
  | .ahead o s st li last f, p => exA fun x : V => exA fun m0 : Mdl => exA fun b : Addr => exA fun l : Addr => exA fun es : List Ent =>
    G.st (pt p (.dK [(.inr "model", x), (.inr "by", .ref b), (.inr "last", .ref l)])) (G.st (md K m0 x) (G.st (pt b (.dT (entD es))) (G.st (pt l (.lst (iv last))) (G.st (lentS es) (pu (Fit m0 (.ahead o s st li last f) ∧ EntOk es s f))))))
  | .blend a b w, p => exA fun x : V => exA fun m0 : Mdl => exA fun q : Addr => exA fun r : Addr =>
    G.st (pt p (.dK [(.inr "model", x), (.inr "one", .ref q), (.inr "other", .ref r)])) (G.st (md K m0 x) (G.st (lms K a q) (G.st (lms K b r) (pu (Fit m0 (.blend a b w))))))
instance {K : PySem.W.Frag} {p : Addr} {m : Mnd} : Key (lms K m p) p := ⟨⟩
section
variable {K : PySem.W.Frag} {p : Addr} {H : Hp} {L : List SA} {cs : List Int} {o s st li w : Int} {last : List Int} {f : List Int → List Int} {a b m : Mnd} {A B C D E : SA}
theorem HS.st3 (h : HS H (G.st A (G.st B C) :: L)) : HS H (A :: B :: C :: L) := (((h.st_in).pk (.there .here)).st_in).pk (.there (.there .here))
theorem HS.st3o (h : HS H (A :: B :: C :: L)) : HS H (G.st A (G.st B C) :: L) := ((h.pk (.there (.there .here)) |>.pk (.there (.there .here))).st_out.pk (.there .here)).st_out
theorem HS.lmF_in (h : HS H (lmF K m cs p :: L)) : ∃ x m0 q, Fit m0 m ∧ HS H (pt p (.dK [(.inr "model", x), (.inr "counts", .ref q)]) :: md K m0 x :: pt q (.lst (iv cs)) :: L) := by
  obtain ⟨x, h⟩ := h.ex_in
  obtain ⟨m0, h⟩ := h.ex_in
  obtain ⟨q, h⟩ := h.ex_in
  have h1 := h.st3
  have h2 := (h1.pk (.there (.there .here))).st_in
  obtain ⟨ft, h3⟩ := (h2.pk (.there .here)).pu_in
  exact ⟨x, m0, q, ft, h3.re⟩
theorem HS.lmF_out {x : V} {m0 : Mdl} {q : Addr} (ft : Fit m0 m) (h : HS H (pt p (.dK [(.inr "model", x), (.inr "counts", .ref q)]) :: md K m0 x :: pt q (.lst (iv cs)) :: L)) : HS H (lmF K m cs p :: L) := by
  refine HS.ex_out x (HS.ex_out m0 (HS.ex_out q ?_))
  have h0 := HS.pu_out ft h
  have h1 := HS.st_out (A := pt q (.lst (iv cs))) (B := pu (Fit m0 m)) (h0.re : HS H (_ :: _ :: pt p (.dK [(.inr "model", x), (.inr "counts", .ref q)]) :: md K m0 x :: L))
  exact HS.st3o (h1.re : HS H (pt p (.dK [(.inr "model", x), (.inr "counts", .ref q)]) :: md K m0 x :: G.st (pt q (.lst (iv cs))) (pu (Fit m0 m)) :: L))
theorem HS.lah_in (h : HS H (lms K (.ahead o s st li last f) p :: L)) : ∃ x m0 b l es, Fit m0 (.ahead o s st li last f) ∧ EntOk es s f ∧ HS H (pt p (.dK [(.inr "model", x), (.inr "by", .ref b), (.inr "last", .ref l)]) :: md K m0 x :: pt b (.dT (entD es)) :: pt l (.lst (iv last)) :: lentS es :: L) := by
  obtain ⟨x, h⟩ := HS.ex_in h
  obtain ⟨m0, h⟩ := HS.ex_in h
  obtain ⟨b, h⟩ := HS.ex_in h
  obtain ⟨l, h⟩ := HS.ex_in h
  obtain ⟨es, h⟩ := HS.ex_in h
  have h1 := h.st3
  have h2 := (h1.pk (.there (.there .here))).st3
  have h3 := (h2.pk (.there (.there .here))).st_in
  obtain ⟨⟨f1, f2⟩, h4⟩ := (h3.pk (.there .here)).pu_in
  exact ⟨x, m0, b, l, es, f1, f2, h4.re⟩
theorem HS.lah_out {x : V} {m0 : Mdl} {b l : Addr} {es : List Ent} (f1 : Fit m0 (.ahead o s st li last f)) (f2 : EntOk es s f) (h : HS H (pt p (.dK [(.inr "model", x), (.inr "by", .ref b), (.inr "last", .ref l)]) :: md K m0 x :: pt b (.dT (entD es)) :: pt l (.lst (iv last)) :: lentS es :: L)) : HS H (lms K (.ahead o s st li last f) p :: L) := by
  refine HS.ex_out x (HS.ex_out m0 (HS.ex_out b (HS.ex_out l (HS.ex_out es ?_))))
  have h0 := HS.pu_out (show Fit m0 (.ahead o s st li last f) ∧ EntOk es s f from ⟨f1, f2⟩) h
  have h1 := HS.st_out (A := lentS es) (B := pu (Fit m0 (.ahead o s st li last f) ∧ EntOk es s f)) (h0.re : HS H (_ :: _ :: pt p (.dK [(.inr "model", x), (.inr "by", .ref b), (.inr "last", .ref l)]) :: md K m0 x :: pt b (.dT (entD es)) :: pt l (.lst (iv last)) :: L))
  have h2 := HS.st3o (A := pt b (.dT (entD es))) (B := pt l (.lst (iv last))) (C := G.st (lentS es) (pu (Fit m0 (.ahead o s st li last f) ∧ EntOk es s f))) (h1.re : HS H (_ :: _ :: _ :: pt p (.dK [(.inr "model", x), (.inr "by", .ref b), (.inr "last", .ref l)]) :: md K m0 x :: L))
  exact HS.st3o (h2.re : HS H (pt p (.dK [(.inr "model", x), (.inr "by", .ref b), (.inr "last", .ref l)]) :: md K m0 x :: _ :: L))
theorem HS.lbl_in (h : HS H (lms K (.blend a b w) p :: L)) : ∃ x m0 q r, Fit m0 (.blend a b w) ∧ HS H (pt p (.dK [(.inr "model", x), (.inr "one", .ref q), (.inr "other", .ref r)]) :: md K m0 x :: lms K a q :: lms K b r :: L) := by
  obtain ⟨x, h⟩ := HS.ex_in h
  obtain ⟨m0, h⟩ := HS.ex_in h
  obtain ⟨q, h⟩ := HS.ex_in h
  obtain ⟨r, h⟩ := HS.ex_in h
  have h1 := h.st3
  have h2 := (h1.pk (.there (.there .here))).st3
  obtain ⟨ft, h3⟩ := (h2.pk (.there (.there .here))).pu_in
  exact ⟨x, m0, q, r, ft, h3.re⟩
theorem HS.lbl_out {x : V} {m0 : Mdl} {q r : Addr} (ft : Fit m0 (.blend a b w)) (h : HS H (pt p (.dK [(.inr "model", x), (.inr "one", .ref q), (.inr "other", .ref r)]) :: md K m0 x :: lms K a q :: lms K b r :: L)) : HS H (lms K (.blend a b w) p :: L) := by
  refine HS.ex_out x (HS.ex_out m0 (HS.ex_out q (HS.ex_out r ?_)))
  have h0 := HS.pu_out ft h
  have h1 := HS.st3o (A := lms K a q) (B := lms K b r) (C := pu (Fit m0 (.blend a b w))) (h0.re : HS H (_ :: _ :: _ :: pt p (.dK [(.inr "model", x), (.inr "one", .ref q), (.inr "other", .ref r)]) :: md K m0 x :: L))
  exact HS.st3o (h1.re : HS H (pt p (.dK [(.inr "model", x), (.inr "one", .ref q), (.inr "other", .ref r)]) :: md K m0 x :: _ :: L))
theorem HS.lent_in : ∀ (xs : List Ent) {e : Ent} {ys : List Ent} {H : Hp} {L : List SA}, HS H (lentS (xs ++ e :: ys) :: L) → HS H (pt e.2.1 (.lst (iv e.2.2)) :: lentS (xs ++ ys) :: L)
  | [], e, ys, H, L, h => HS.st_in (A := pt e.2.1 (.lst (iv e.2.2))) (B := lentS ys) h
  | x :: xs, e, ys, H, L, h => by
    have h1 := HS.st_in (A := pt x.2.1 (.lst (iv x.2.2))) (B := lentS (xs ++ e :: ys)) h
    have h2 := HS.lent_in xs (h1.pk (.there .here))
    have h3 := HS.st_out (A := pt x.2.1 (.lst (iv x.2.2))) (B := lentS (xs ++ ys)) (L := pt e.2.1 (.lst (iv e.2.2)) :: L) ((h2.pk (.there (.there .here))).pk (.there (.there .here)) |>.pk (.there .here))
    exact h3.pk (.there .here)
theorem HS.lent_out : ∀ (xs : List Ent) {e : Ent} {ys : List Ent} {H : Hp} {L : List SA}, HS H (pt e.2.1 (.lst (iv e.2.2)) :: lentS (xs ++ ys) :: L) → HS H (lentS (xs ++ e :: ys) :: L)
  | [], e, ys, H, L, h => HS.st_out (A := pt e.2.1 (.lst (iv e.2.2))) (B := lentS ys) h
  | x :: xs, e, ys, H, L, h => by
    have h1 := HS.st_in (A := pt x.2.1 (.lst (iv x.2.2))) (B := lentS (xs ++ ys)) (h.pk (.there .here))
    have h2 := HS.lent_out xs (e := e) (ys := ys) (L := pt x.2.1 (.lst (iv x.2.2)) :: L) ((h1.pk (.there .here)).pk (.there (.there .here)))
    exact HS.st_out (A := pt x.2.1 (.lst (iv x.2.2))) (B := lentS (xs ++ e :: ys)) (h2.pk (.there .here))
end
def spLMind (K : PySem.W.Frag) (n : Nat) : Sp := fun vs H Q _ => ∃ x m L, vs = [x] ∧ HS H L ∧ MdR K L x m ∧ MOk n m ∧ ∀ p H', HS H' (lms K (mind m) p :: L) → Q (.ref p) H'
def spLNow (K : PySem.W.Frag) (n : Nat) : Sp := fun vs H Q _ => ∃ p m sg mo L, vs = [.ref p] ∧ NOk n m sg mo ∧ HS H (lms K m p :: L) ∧
  ∀ (r : Addr) (W : SA) (H' : Hp), HS H' (pt r (.lst (iv m.now)) :: W :: L) → (∀ {H : Hp} {L : List SA}, HS H (pt r (.lst (iv m.now)) :: W :: L) → HSp H (lms K m p :: L)) → Q (.ref r) H'
def spLLearn (K : PySem.W.Frag) (n : Nat) : Sp := fun vs H Q _ => ∃ p m sg mo s L, vs = [.ref p, .int (s : Nat)] ∧ NOk n m sg mo ∧ (s : Int) < sg ∧ HS H (lms K m p :: L) ∧ ∀ H', HS H' (lms K (m.lrn s) p :: L) → Q .non H'
theorem ones_rep (s : Int) : (List.replicate s.toNat [V.int 1]).flatten = iv (ones s) := by
  have : ∀ n : Nat, (List.replicate n [V.int 1]).flatten = iv (List.replicate n 1) := by
    intro n; induction n with
    | zero => rfl
    | succ n ih => rw [List.replicate_succ, List.flatten_cons, ih, List.replicate_succ]; rfl
  exact this _
theorem HS.addMd {K : PySem.W.Frag} {H : Hp} {L : List SA} {m : Mdl} {x : V} (h : HS H L) (r : MR K m x H) : HS H (md K m x :: L) := h.add r
theorem HS.tpkl {H : Hp} {L : List SA} {t : Addr} {xs : List Int} (h : HS H (tp t (iv xs) :: L)) : HS H (tp t ((kl xs).map kV) :: L) := by rw [← iv_kl]; exact h
/-! zip in a comprehension -/
theorem pi_zipAK {X : Cx} {K : PySem.W.Frag} {e e2 : Expr} {ta : TA} {p pos tpos : Pos} {elts : List Expr} {kk : Nat} (hK : X.K = K) (hg : Gl X "zip") (hm : X.mg "zip" = none) (ha : PA X [e, e2] ta)
    (hs : starEach [e, e2] X.env = (false, eval e X.env) :: starEach [e2] X.env := by rfl) (hpl : (backTo pos (starEach [e2] X.env)).any (·.1) = false := by rfl) :
    PI X (.Tuple elts kk tpos) (.Call (.Name "zip" p) [e, e2] [] pos) (RZ.iZipA K ta) := hK ▸ RZ.pi_zipA hg hm ha hs hpl
def zpAK (K : PySem.W.Frag) (R : It → Hp → Prop) (vs : List V) (H1 : Hp) : Prop := ∃ a b xs ys, vs = [.ref a, .ref b] ∧ ((SqL K H1 a xs ∧ SqL K H1 b ys ∧ R (Itz K a b) H1) ∨ (SqT K H1 a xs ∧ SqT K H1 b ys ∧ R (RZ.ItzT K a b) H1))
section
variable {K : PySem.W.Frag} {σ : L2.St} {H : Hp} {Q : VK} {L : List SA} {p q : Addr} {xs ys : List V} {g : TG} {te : TE} {tt : TT} {vs : List Nat} {R : It → Hp → Prop}
theorem s_zipA {ta : TA} (h : ta σ H fun vs H1 => zpAK K R vs H1) : RZ.iZipA K ta σ H R := h
theorem s_zpAK [hs : HS H L] [m1 : RdL K L p xs] [m2 : RdL K L q ys] (h : R (Itz K p q) H) : zpAK K R [.ref p, .ref q] H := ⟨p, q, xs, ys, rfl, .inl ⟨m1.sq hs, m2.sq hs, h⟩⟩
theorem c_zip (xs ys : List V) (hl : xs.length = ys.length) [hs0 : HS H L] (Pv : Addr → Nat → Hp → Prop) (h0 : ∀ D H', HS H' (pt D (.lst []) :: L) → Pv D 0 H') (hG : ∀ D i H, i ≤ xs.length → Pv D i H → SqL K H p xs ∧ SqL K H q ys)
    (hs : ∀ D i x y T H, xs[i]? = some x → ys[i]? = some y → Pv D i H → H T = none → g (.ref T) (wipe σ vs) (upd H T (.tup [x, y])) fun σ2 H2 => wipe σ2 vs = wipe σ vs ∧ tt σ2 H2 fun b H3 => if b = true then te σ2 H3 fun y H4 => accK D (Pv D (i + 1)) y H4 else Pv D (i + 1) H3)
    (hd : ∀ D H, Pv D xs.length H → Q (.ref D) H) : lcK g tt te vs σ Q (Itz K p q) H := fun D hD =>
  lc_it (walk_zip (n := xs.length) (by omega)) (Pv D) (h0 D _ (hs0.new hD id)) (hG D) (fun i x H H' hi pv y => by
    obtain ⟨T, u, v, rfl, hT, rfl, h1, h2⟩ := y
    exact hs D i u v T H h1 h2 pv hT) (hd D)
end
theorem c_lNow {K : PySem.W.Frag} {H : Hp} {Q : VK} {E : XK} {L F : List SA} {p : Addr} {m : Mnd} {n : Nat} {sg mo : Int} [hs : HS H L] [o : Own L p (lms K m p) F] (ok : NOk n m sg mo)
    (k : ∀ (r : Addr) (W : SA) (H' : Hp), HS H' (pt r (.lst (iv m.now)) :: W :: F) → (∀ {H : Hp} {L : List SA}, HS H (pt r (.lst (iv m.now)) :: W :: L) → HSp H (lms K m p :: L)) → Q (.ref r) H') : spLNow K n [.ref p] H Q E := ⟨p, m, sg, mo, F, rfl, ok, hs.pk o.pk, k⟩
theorem c_lLearn {K : PySem.W.Frag} {H : Hp} {Q : VK} {E : XK} {L F : List SA} {p : Addr} {m : Mnd} {n : Nat} {sg mo i : Int} (s : Nat) (e : i = (s : Nat)) [hs : HS H L] [o : Own L p (lms K m p) F] (ok : NOk n m sg mo) (hl : (s : Int) < sg)
    (k : ∀ H', HS H' (lms K (m.lrn s) p :: F) → Q .non H') : spLLearn K n [.ref p, .int i] H Q E := ⟨p, m, sg, mo, s, F, by rw [e], ok, hl, hs.pk o.pk, k⟩
theorem c_lMind {K : PySem.W.Frag} {H : Hp} {Q : VK} {E : XK} {L : List SA} {x : V} {m : Mdl} {n : Nat} [hs : HS H L] [r : MdR K L x m] (ok : MOk n m) (k : ∀ p H', HS H' (lms K (mind m) p :: L) → Q (.ref p) H') : spLMind K n [x] H Q E := ⟨x, m, L, rfl, hs, r, ok, k⟩
theorem cut_lastL {o : Int} (ho : 1 ≤ o) (xs : List Int) : cutV (iv xs) (some (0 - o)) none = iv (lastO o xs) := by rw [iv_kl, iv_kl, cut_last ho]
/-- the key stands: its value is changed in its place -/
theorem entD_set : ∀ (xs ys : List Ent) (e : Ent) (p : Addr) (cs : List Int), ((xs ++ e :: ys).map (·.1)).Nodup → L2.putK (entD (xs ++ e :: ys)) (kl e.1) (.ref p) = entD (xs ++ (e.1, p, cs) :: ys) := by
  intro xs ys e p cs nd
  have nd' : (xs.map (·.1) ++ e.1 :: ys.map (·.1)).Nodup := by simpa using nd
  obtain ⟨n1, n2⟩ := nodup_mid nd'
  unfold L2.putK
  have ha : ((entD (xs ++ e :: ys)).any fun kv => decide (kv.1 = kl e.1)) = true := by
    rw [List.any_eq_true]
    exact ⟨(kl e.1, V.ref e.2.1), List.mem_map.mpr ⟨e, List.mem_append_right _ List.mem_cons_self, rfl⟩, decide_eq_true rfl⟩
  rw [if_pos ha]
  have hx : ∀ l : List Ent, e.1 ∉ l.map (·.1) → (entD l).map (fun kv => if kv.1 = kl e.1 then (kv.1, V.ref p) else kv) = entD l := by
    intro l hl
    induction l with
    | nil => rfl
    | cons y l ih =>
      simp only [List.map_cons, List.mem_cons, not_or] at hl
      have : ¬ kl y.1 = kl e.1 := fun z => hl.1 (kl_inj z).symm
      show (if kl y.1 = kl e.1 then _ else _) :: _ = _
      rw [if_neg this]
      congr 1
      exact ih hl.2
  have e1 : entD (xs ++ e :: ys) = entD xs ++ (kl e.1, V.ref e.2.1) :: entD ys := by simp [entD]
  have e2 : entD (xs ++ (e.1, p, cs) :: ys) = entD xs ++ (kl e.1, V.ref p) :: entD ys := by simp [entD]
  rw [e1, e2, List.map_append, List.map_cons, hx xs n1, hx ys n2, if_pos rfl]
end G

namespace G
open PySem L2
theorem EntOk.snoc2 {es : List Ent} {s : Int} {f : List Int → List Int} {k : List Int} (p : Addr) (v : List Int) (h : EntOk es s f) (hk : ∀ e ∈ es, e.1 ≠ k) (hf : k.length ≤ 2 ∧ ∀ i ∈ k, 0 ≤ i ∧ i < 8) : EntOk (es ++ [(k, p, v)]) s (fun j => if j = k then v else f j) := by
  have h1 := (h.snoc p hk hf).upd (xs := es) (ys := []) (e := (k, p, ones s)) v
  exact h1
theorem EntOk.addr {xs ys : List Ent} {k : List Int} {p q : Addr} {v : List Int} {s : Int} {f : List Int → List Int} (h : EntOk (xs ++ (k, p, v) :: ys) s f) : EntOk (xs ++ (k, q, v) :: ys) s f := by
  obtain ⟨nd, val, out, few⟩ := h
  have sw : ∀ (p q : Addr) (x : Ent), x ∈ xs ++ (k, p, v) :: ys → x ∈ xs ++ (k, q, v) :: ys ∨ x = (k, p, v) := fun p q x hx => by
    rcases List.mem_append.mp hx with z | z
    · exact .inl (List.mem_append_left _ z)
    · rcases List.mem_cons.mp z with z | z
      · exact .inr z
      · exact .inl (List.mem_append_right _ (List.mem_cons_of_mem _ z))
  refine ⟨by simpa using nd, fun x hx => ?_, fun j hj => out j fun x hx => ?_, fun x hx => ?_⟩
  · rcases sw q p x hx with z | rfl
    · exact val x z
    · exact val (k, p, v) (List.mem_append_right _ List.mem_cons_self)
  · rcases sw p q x hx with z | rfl
    · exact hj x z
    · exact hj (k, q, v) (List.mem_append_right _ List.mem_cons_self)
  · rcases sw q p x hx with z | rfl
    · exact few x z
    · exact few (k, p, v) (List.mem_append_right _ List.mem_cons_self)
theorem HS.lput {es : List Ent} {s : Int} {f : List Int → List Int} {k : List Int} {b c : Addr} {v : List Int} {H : Hp} {L : List SA} (eo : EntOk es s f) (hf : k.length ≤ 2 ∧ ∀ i ∈ k, 0 ≤ i ∧ i < 8)
    (h : HS H (pt b (.dT (L2.putK (entD es) (kl k) (.ref c))) :: lentS es :: pt c (.lst (iv v)) :: L)) : ∃ es2, EntOk es2 s (fun j => if j = k then v else f j) ∧ HSp H (pt b (.dT (entD es2)) :: lentS es2 :: L) := by
  cases hv : valV (entD es) (kl k) with
  | none =>
    have hno : ∀ e ∈ es, e.1 ≠ k := fun e he q => (entD_val es k).1 e he q hv
    rw [entD_put (cs := v) hv] at h
    refine ⟨es ++ [(k, c, v)], eo.snoc2 c v hno hf, ?_⟩
    have h1 := HS.lent_out es (e := (k, c, v)) (ys := []) (L := pt b (.dT (entD (es ++ [(k, c, v)]))) :: L) (by rw [List.append_nil]; exact h.re)
    exact h1.pk (.there .here)
  | some w =>
    obtain ⟨e, he, hel, rfl⟩ := (entD_val es k).2 w hv
    obtain ⟨xs, ys, rfl⟩ := ent_take es e he
    subst hel
    rw [entD_set xs ys e c v eo.nd] at h
    refine ⟨xs ++ (e.1, c, v) :: ys, (eo.upd v).addr, ?_⟩
    have h1 := (HS.lent_in (e := e) xs (h.pk (.there .here))).drop
    have h2 := HS.lent_out xs (e := (e.1, c, v)) (ys := ys) (L := pt b (.dT (entD (xs ++ (e.1, c, v) :: ys))) :: L) h1.re
    exact h2.pk (.there .here)
end G

namespace G
open PySem L2
local macro_rules | `(tactic| walk_at "s") => `(tactic| (first
  | with_reducible refine s_varV ?_
  | with_reducible refine s_seq ?_
  | with_reducible refine s_wh ?_
  | with_reducible refine s_asg ?_
  | with_reducible refine s_nameV ?_
  | with_reducible refine s_op ?_
  | with_reducible refine s_c ?_
  | with_reducible refine s_cons ?_
  | with_reducible refine s_nil ?_
  | with_reducible refine s_test ?_
  | with_reducible refine s_tst ?_
  | with_reducible refine s_if ?_
  | with_reducible refine s_add ?_
  | with_reducible refine s_sub ?_
  | with_reducible refine s_eq ?_
  | with_reducible refine s_ne ?_
  | with_reducible refine s_lt ?_
  | with_reducible refine s_le ?_
  | with_reducible refine s_gt ?_
  | with_reducible refine s_ge ?_
  | with_reducible refine s_bitand ?_
  | with_reducible refine s_drop ?_
  | with_reducible refine s_ret ?_
  | with_reducible refine s_retN ?_
  | with_reducible refine s_next ?_
  | with_reducible refine s_cb ?_
  | with_reducible refine s_call ?_
  | with_reducible refine s_mth ?_
  | with_reducible refine s_fld ?_
  | with_reducible refine s_put ?_
  | with_reducible refine s_for ?_
  | with_reducible refine s_rng1 ?_
  | with_reducible refine s_rng2 ?_
  | with_reducible refine s_rng3 ?_
  | with_reducible refine s_join ?_
  | with_reducible refine s_idx ?_
  | with_reducible refine s_starts ?_
  | with_reducible refine s_sstK ?_
  | with_reducible refine s_idK ?_
  | with_reducible refine s_joK ?_
  | with_reducible refine s_m1 ?_
  | with_reducible refine s_callS ?_
  | with_reducible refine s_mthS ?_
  | with_reducible refine s_try ?_
  | with_reducible refine s_m1K ?_
  | with_reducible refine s_rev ?_
  | with_reducible refine s_not ?_
  | with_reducible refine s_and ?_
  | with_reducible refine s_or ?_
  | with_reducible refine s_tB ?_
  | with_reducible refine s_andV ?_
  | with_reducible refine s_orV ?_
  | with_reducible refine s_notV ?_
  | with_reducible refine s_andK ?_
  | with_reducible refine s_orK ?_
  | with_reducible refine s_notK ?_
  | with_reducible refine s_chain ?_
  | with_reducible refine s_chain3 ?_
  | with_reducible refine s_chK3 ?_
  | with_reducible refine s_chK4 ?_
  | with_reducible refine s_lstRg ?_
  | with_reducible refine s_lstZip ?_
  | with_reducible refine s_zipA ?_
  | with_reducible refine s_un ?_
  | with_reducible refine s_neg ?_
  | with_reducible refine s_dget ?_
  | with_reducible refine s_dget2 ?_
  | with_reducible refine s_dg2T ?_
  | with_reducible refine s_dput ?_
  | with_reducible refine s_dnotin ?_
  | with_reducible refine s_pnil ?_
  | with_reducible refine s_pcons ?_
  | with_reducible refine s_rg1 ?_
  | with_reducible refine s_rg1K ?_
  | with_reducible refine s_chK ?_
  | with_reducible refine s_ife ?_
  | with_reducible refine s_par ?_
  | with_reducible refine s_parK ?_
  | with_reducible refine s_par3 ?_
  | with_reducible refine s_parK3 ?_
  | with_reducible refine s_lst ?_
  | with_reducible refine s_tup ?_
  | with_reducible refine s_lc ?_
  | with_reducible refine s_yes ?_
  | with_reducible refine s_make ?_
  | with_reducible refine s_gsub ?_
  | with_reducible refine s_sl ?_
  | with_reducible refine s_noPart ?_
  | with_reducible refine s_part ?_
  | with_reducible refine s_partK ?_
  | with_reducible refine s_bm ?_
  | with_reducible refine s_bm0 ?_
  | with_reducible refine s_gnil ?_
  | with_reducible refine s_gcons ?_
  | with_reducible refine s_int ?_
  | with_reducible refine s_intB ?_
  | with_reducible refine i_t ?_
  | with_reducible refine i_f ?_
  | with_reducible refine i_nf ?_
  | with_reducible refine i_nt ?_
  | with_reducible refine s_eqS ?_
  | with_reducible refine s_neS ?_
  | with_reducible refine s_eqB ?_
  | with_reducible refine s_neB ?_))
local macro_rules | `(tactic| walk_at "f") => `(tactic| (((with_reducible refine' s_fldK ?c ?n ?l ?k); (case c => assumption); (case n => assumption); (case l => exact rfl))))
local macro_rules | `(tactic| walk_at "m") => `(tactic| (first | ((with_reducible refine' s_mthK ?l ?k); (case l => exact rfl)) | ((with_reducible refine' s_mthSh ?l ?k); (case l => exact ⟨rfl, rfl⟩)) | ((with_reducible refine' s_mthMo ?l ?k); (case l => exact fun _ _ => rfl)) | ((with_reducible refine' s_mthEx ?l ?k); (case l => exact fun _ _ _ _ => rfl)) | ((with_reducible refine' s_mthWr ?l ?k); (case l => exact fun _ _ _ _ _ _ _ _ _ => rfl)) | ((with_reducible refine' s_mthWd ?l ?k); (case l => exact fun _ _ => rfl)) | ((with_reducible refine' s_mthRd ?l ?k); (case l => exact fun _ _ _ _ _ _ _ _ _ => rfl))))
local macro_rules | `(tactic| walk_at "v") => `(tactic| (((with_reducible refine' s_var ?e ?k); (case e => exact rfl))))
local macro_rules | `(tactic| walk_at "n") => `(tactic| (with_reducible refine s_name ?_))
local macro_rules | `(tactic| walk_at "g") => `(tactic| (repeat (first | walk_at "s" | walk_at "f" | walk_at "m" | walk_at "v" | walk_at "n")))
local macro_rules | `(tactic| walk_at "p") => `(tactic| (((with_reducible refine' s_putK ?c ?n ?z ?e ?k); (case c => assumption); (case n => assumption); (case z => exact (Nat.le_of_ble_eq_true rfl)); (case e => (simp (config := { decide := true }) only [putF, if_true, if_false]; rfl)))))
local macro_rules | `(tactic| walk_at "z") => `(tactic| (first | exact Nat.zero_le _ | exact small_line (by simp) | decide))
local macro_rules | `(tactic| walk_at "e") => `(tactic| (first | (refine i_y rfl ?_; walk_at "g") | (refine i_n (by decide +kernel) ?_; walk_at "g") | (refine i_nd (fun n => absurd rfl n) (fun _ => ?_); walk_at "g") | (refine i_nd (fun _ => ?_) (fun q => absurd q (by decide +kernel)); walk_at "g")))
local macro_rules | `(tactic| walk_at "b") => `(tactic| (repeat (first | with_reducible refine s_seq ?_ | with_reducible refine s_next ?_ | with_reducible refine s_add ?_ | with_reducible refine s_nil ?_ | with_reducible refine s_cons ?_ | with_reducible refine s_parK ?_ | with_reducible refine s_parK3 ?_ | with_reducible refine s_drop ?_ | with_reducible refine s_gnil ?_ | with_reducible refine s_gcons ?_ | with_reducible refine s_nameV ?_ | walk_at "n" | walk_at "v")))

theorem set_same {α : Type} {xs : List α} {i : Nat} {a : α} (h : xs[i]? = some a) : xs.set i a = xs := by
  obtain ⟨hl, rfl⟩ := List.getElem?_eq_some_iff.mp h
  exact List.set_getElem_self hl
theorem NOk.mono : ∀ {n : Nat} {m : Mnd} {sg mo : Int}, NOk n m sg mo → NOk (n + 1) m sg mo
  | 0, _, _, _, h => False.elim h
  | _ + 1, .plain _, _, _, h => h
  | _ + 1, .learn _ _ _, _, _, h => h
  | _ + 1, .ahead _ _ _ _ _ _, _, _, h => h
  | _ + 1, .blend _ _ _, _, _, ⟨ma, mb, h1, h2, h3⟩ => ⟨ma, mb, h1.mono, h2.mono, h3⟩
theorem NOk.to5 {m : Mnd} {sg mo : Int} (h : NOk 3 m sg mo) : NOk 5 m sg mo := h.mono.mono
theorem dp_tv {K : PySem.W.Frag} {H : Hp} {p : Addr} {cs : List Int} (h : SqT K H p (iv cs)) : Dp K H (.ref p) (.tuple (cs.map .int)) := .tup h (dpAll_iv cs)
theorem shaped_tv {cs : List Int} : SeqAt.shaped (.tuple (cs.map .int)) = true := by
  unfold SeqAt.shaped
  have e : (PyData.tuple (cs.map .int)).depth = 1 := by simp [PyData.depth, iv_depth]
  rw [e]
  simp [PyData.canLay0, iv_canLay]
section
variable {K : PySem.W.Frag} {H : Hp} {Q : VK} {L : List SA} {p q : Addr} {xs ys : List V}
/-- tuples of ints compared -/
theorem s_eqT (as bs : List Int) (e1 : xs = iv as) (e2 : ys = iv bs) [hs : HS H L] [m1 : RdT K L p xs] [m2 : RdT K L q ys] (h : Q (.bl (decide (as = bs))) H) : rEqG K (.ref p) (.ref q) H Q := by
  subst e1 e2
  refine .inr ⟨_, _, dp_tv (m1.sq hs), dp_tv (m2.sq hs), shaped_tv, shaped_tv, ?_⟩
  simp only [PyData.eqv, eqv_iv]; exact h
theorem s_neT (as bs : List Int) (e1 : xs = iv as) (e2 : ys = iv bs) [hs : HS H L] [m1 : RdT K L p xs] [m2 : RdT K L q ys] (h : Q (.bl (!decide (as = bs))) H) : rNeG K (.ref p) (.ref q) H Q := by
  subst e1 e2
  refine .inr ⟨_, _, dp_tv (m1.sq hs), dp_tv (m2.sq hs), shaped_tv, shaped_tv, ?_⟩
  simp only [PyData.eqv, eqv_iv]; exact h
end
theorem cut_init (ss : List Nat) : cutV (iv (ss.map Int.ofNat)) none (some (-1)) = iv (ss.dropLast.map Int.ofNat) := by
  have hl : (iv (ss.map Int.ofNat)).length = ss.length := by rw [iv_len, List.length_map]
  have e : HT.sIx (iv (ss.map Int.ofNat)).length (iv (ss.map Int.ofNat)).length (some (-1)) = ss.length - 1 := by
    rw [hl]
    show (if (-1 : Int) < 0 then (-1 + (ss.length : Int)).toNat else min (-1 : Int).toNat ss.length) = _
    rw [if_pos (by decide)]
    omega
  unfold cutV
  rw [e, HT.sIx_none, List.drop_zero, Nat.sub_zero, List.dropLast_eq_take]
  unfold iv
  rw [← List.map_take, ← List.map_take]
/-- a method of a model -/
theorem s_mthMo {K : PySem.W.Frag} {Sh Pl Le Ah Bl C a : Addr} {σ : L2.St} {H : Hp} {Q : VK} {L L' : List SA} {n : Mnd} {sg : Int} {m : Str} {sp : Sp} {E : XK} {t : TA} [hs : HS H L] [o : Own L a (moS K Sh Pl Le Ah Bl C a n sg) L'] (l : ∀ x y : V, List.lookup m [(("signs" : Str), x), ("mind", y)] = none) (h : t σ H fun vs H2 => sp (.ref a :: (vs ++ [])) H2 Q E) : mthK C m sp E t σ Q (.ref a) H := by
  obtain ⟨q, h2⟩ := (hs.pk o.pk).mo_in
  obtain ⟨dx, e⟩ := h2.ins
  exact ⟨a, dx, _, rfl, e, l _ _, h⟩
instance (priority := low) rdLThere {K : PySem.W.Frag} {L : List SA} {A : SA} {p : Addr} {xs : List V} [r : RdL K L p xs] : RdL K (A :: L) p xs := r.there
theorem take_ofNat {ss : List Nat} {i : Nat} {x : V} (h : (iv (ss.map Int.ofNat))[i]? = some x) : ∃ s : Nat, ss[i]? = some s ∧ x = .int (s : Int) := by
  obtain ⟨c, hc, rfl⟩ := iv_at h
  rw [List.getElem?_map] at hc
  cases hs : ss[i]? with
  | none => rw [hs] at hc; cases hc
  | some s => rw [hs] at hc; cases hc; exact ⟨s, rfl, rfl⟩
theorem take_snoc {ss : List Nat} {i s : Nat} (h : ss[i]? = some s) : ss.take (i + 1) = ss.take i ++ [s] := by
  rw [List.take_add_one, h]; rfl
/-! Models drawn. -/
/-- a word for each of a list -/
def allS {α : Type} (f : α → SA) : List α → SA
  | [] => pu True
  | a :: r => G.st (f a) (allS f r)
theorem HS.all0 {α : Type} {f : α → SA} {H : Hp} {L : List SA} (h : HS H L) : HS H (allS f [] :: L) := h.pu_out trivial
theorem HS.all1 {α : Type} {f : α → SA} {a : α} {r : List α} {H : Hp} {L : List SA} (h : HS H (allS f (a :: r) :: L)) : HS H (f a :: allS f r :: L) := HS.st_in (A := f a) (B := allS f r) h
theorem HS.all2 {α : Type} {f : α → SA} {a : α} {r : List α} {H : Hp} {L : List SA} (h : HS H (f a :: allS f r :: L)) : HS H (allS f (a :: r) :: L) := HS.st_out (A := f a) (B := allS f r) h
theorem HS.allS_in {α : Type} {f : α → SA} : ∀ (xs : List α) {i : Nat} {a : α} {H : Hp} {L : List SA}, xs[i]? = some a → HS H (allS f xs :: L) → HS H (f a :: allS f (xs.eraseIdx i) :: L)
  | [], i, a, H, L, e, h => by simp at e
  | x :: xs, 0, a, H, L, e, h => by
    have : x = a := by simpa using e
    subst this
    exact h.all1
  | x :: xs, i + 1, a, H, L, e, h => by
    have h1 := HS.allS_in xs (i := i) (a := a) (by simpa using e) (h.all1.pk (.there .here))
    have h2 := HS.all2 (f := f) (a := x) (r := xs.eraseIdx i) (L := f a :: L) ((h1.pk (.there .here)).pk (.there (.there .here)))
    exact h2.pk (.there .here)
theorem HS.allS_out {α : Type} {f : α → SA} : ∀ (xs : List α) {i : Nat} {a : α} {H : Hp} {L : List SA}, i < xs.length → HS H (f a :: allS f (xs.eraseIdx i) :: L) → HS H (allS f (xs.set i a) :: L)
  | [], i, a, H, L, e, h => absurd e (Nat.not_lt_zero _)
  | x :: xs, 0, a, H, L, e, h => h.all2
  | x :: xs, i + 1, a, H, L, e, h => by
    have h1 := HS.all1 (f := f) (a := x) (r := xs.eraseIdx i) (L := f a :: L) (h.pk (.there .here))
    have h2 := HS.allS_out xs (i := i) (a := a) (L := f x :: L) (Nat.lt_of_succ_lt_succ e) ((h1.pk (.there .here)).pk (.there (.there .here)))
    exact HS.all2 (h2.pk (.there .here))
theorem HS.allS_snoc {α : Type} {f : α → SA} : ∀ (xs : List α) {a : α} {H : Hp} {L : List SA}, HS H (f a :: allS f xs :: L) → HS H (allS f (xs ++ [a]) :: L)
  | [], a, H, L, h => h.all2
  | x :: xs, a, H, L, h => by
    have h1 := HS.all1 (f := f) (a := x) (r := xs) (L := f a :: L) (h.pk (.there .here))
    have h2 := HS.allS_snoc xs (a := a) (L := f x :: L) ((h1.pk (.there .here)).pk (.there (.there .here)))
    exact HS.all2 (h2.pk (.there .here))
def spLModel (K : PySem.W.Frag) (n : Nat) : Sp := fun vs H Q _ => ∃ p sg d L, vs = [.ref p, .int sg, .int (d : Nat)] ∧ d < n ∧ n ≤ 3 ∧ (1 ≤ sg ∧ sg ≤ 8) ∧ HS H (rowA K p :: L) ∧ ∀ x m H', MOk (d + 1) m → nsg m = sg → HS H' (md K m x :: rowA K p :: L) → Q x H'
def spLAny (K : PySem.W.Frag) : Sp := fun vs H Q _ => ∃ p L, vs = [.ref p] ∧ HS H (rowA K p :: L) ∧ ∀ r x m H', MOk 3 m → HS H' (tp r [x, .int (nsg m)] :: md K m x :: rowA K p :: L) → Q (.ref r) H'
def spLSigns (K : PySem.W.Frag) : Sp := fun vs H Q _ => ∃ p sg mo L, vs = [.ref p, .int sg, .int mo] ∧ HS H (rowA K p :: L) ∧ (1 ≤ sg ∧ sg ≤ 8) ∧ (0 ≤ mo ∧ mo ≤ 62) ∧
  ∀ r (ss : List Nat) H', (ss.length : Int) ≤ mo → (∀ s ∈ ss, (s : Int) < sg) → HS H' (pt r (.lst (iv (ss.map Int.ofNat))) :: rowA K p :: L) → Q (.ref r) H'
section
variable {K : PySem.W.Frag} {σ : L2.St} {H : Hp} {Q : VK} {E : XK} {L F : List SA} {p : Addr} {i n a b sg d mo : Int} {r j : Nat}
theorem c_lModel {k : Nat} (e : Nat) (ed : d = (e : Int)) (n1 : e < k) (n3 : k ≤ 3) (s8 : 1 ≤ sg ∧ sg ≤ 8) [hs : HS H L] [o : Own L p (rowA K p) F] (h : ∀ x m H', MOk (e + 1) m → nsg m = sg → HS H' (md K m x :: rowA K p :: F) → Q x H') : spLModel K k [.ref p, .int sg, .int d] H Q E :=
  ⟨p, sg, e, F, by rw [ed], n1, n3, s8, hs.pk o.pk, h⟩
theorem c_lAny [hs : HS H L] [o : Own L p (rowA K p) F] (h : ∀ r x m H', MOk 3 m → HS H' (tp r [x, .int (nsg m)] :: md K m x :: rowA K p :: F) → Q (.ref r) H') : spLAny K [.ref p] H Q E :=
  ⟨p, F, rfl, hs.pk o.pk, h⟩
theorem c_lSigns (s8 : 1 ≤ sg ∧ sg ≤ 8) (m0 : 0 ≤ mo ∧ mo ≤ 62) [hs : HS H L] [o : Own L p (rowA K p) F]
    (h : ∀ r (ss : List Nat) H', (ss.length : Int) ≤ mo → (∀ s ∈ ss, (s : Int) < sg) → HS H' (pt r (.lst (iv (ss.map Int.ofNat))) :: rowA K p :: F) → Q (.ref r) H') : spLSigns K [.ref p, .int sg, .int mo] H Q E :=
  ⟨p, sg, mo, F, rfl, hs.pk o.pk, s8, m0, h⟩
theorem pickB (c : Bool) (a b : Int) : atI [V.int a, V.int b] (if c = true then 1 else 0) = some (.int (if c = true then b else a)) := by cases c <;> rfl
theorem pick3 {x y z : V} {i : Int} (h0 : 0 ≤ i) (h1 : i < 3) : ∃ v, atI [x, y, z] i = some v ∧ (v = x ∨ v = y ∨ v = z) := by
  have : i = 0 ∨ i = 1 ∨ i = 2 := by omega
  rcases this with rfl | rfl | rfl
  · exact ⟨x, rfl, .inl rfl⟩
  · exact ⟨y, rfl, .inr (.inl rfl)⟩
  · exact ⟨z, rfl, .inr (.inr rfl)⟩
theorem last_at {ss : List Nat} (h : ss ≠ []) : ∃ s : Nat, atI (iv (ss.map Int.ofNat)) (-1) = some (.int (s : Int)) ∧ s ∈ ss := by
  refine ⟨ss.getLast h, ?_, List.getLast_mem h⟩
  have e : ss = ss.dropLast ++ [ss.getLast h] := (List.dropLast_concat_getLast h).symm
  have e2 : iv (ss.map Int.ofNat) = iv (ss.dropLast.map Int.ofNat) ++ [.int ((ss.getLast h : Nat) : Int)] := by
    rw [← iv_app]
    conv => lhs; rw [e]
    rw [List.map_append]; rfl
  rw [e2]
  exact atI_last _ _
/-- the same, with the counts' bound -/
theorem w_countsB [hs : HS H L] [o : Own L p (rowA K p) F] {vs : List Nat} (n1 : 1 ≤ n) (n8 : n ≤ 8) (hw : ∀ x, wipe ((wipe σ vs).set j (some x)) vs = wipe σ vs) (hv : ∀ x, ((wipe σ vs).set j (some x))[r]? = some (some (.ref p)))
    (ha : 0 < a ∧ a ≤ 60) (hb : 0 < b ∧ b ≤ 60) (k : ∀ D H' cs, cs.length = n.toNat → (∀ c ∈ cs, 1 ≤ c ∧ c ≤ 60) → HS H' (pt D (.lst (iv cs)) :: rowA K p :: F) → Q (.ref D) H') :
    lcK (gName j) tYes (tOp (rAdd K) (tC (.int 1)) (t_tk K r (t_pick K r (tC (.int a)) (tC (.int b))))) vs σ Q (Itr 0 n.toNat) H := by
  have hs1 : HS H (rowA K p :: F) := hs.pk o.pk
  refine c_range (fun D i H => ∃ cs : List Int, cs.length = i ∧ (∀ c ∈ cs, 1 ≤ c ∧ c ≤ 60) ∧ HS H (pt D (.lst (iv cs)) :: rowA K p :: F)) (fun D H' h => ⟨[], rfl, by simp, h⟩) ?_ ?_
  · rintro D i H hi ⟨cs, hl, hc, hs⟩
    refine ⟨hw _, ?_⟩
    refine s_yes (i_t ?_)
    refine s_op (s_c ?_)
    refine w_takePick (hv _) (by omega) (by omega) fun z H' z0 z1 hs => ?_
    refine s_add ?_
    have hs := (hs.re : HS H' (pt D (.lst (iv cs)) :: rowA K p :: F))
    refine s_acc (small_lt (by rw [iv_len]; omega)) fun H' hs => ?_
    refine ⟨cs ++ [1 + z], by simp [hl], ?_, by rw [iv_app]; exact hs⟩
    intro c hc'
    rcases List.mem_append.mp hc' with q | q
    · exact hc c q
    · have := List.mem_singleton.mp q
      omega
  · rintro D H ⟨cs, hl, hc, hs⟩
    exact k D H cs hl hc hs
end
end G

namespace G
open PySem L2
/-! Exact stretches. -/
structure Nar where
  m : Mnd
  lo : Int
  wd : Int
  pa : Int
def nar (x : Nar) (s : Nat) : Nar := ⟨x.m.lrn s, x.lo * x.m.now.sum + x.wd * (x.m.now.take s).sum, x.wd * x.m.now.getD s 0, x.pa * x.m.now.sum⟩
def nar0 (m : Mdl) : Nar := ⟨mind m, 0, 1, 1⟩
def nars (x : Nar) (ss : List Nat) : Nar := ss.foldl nar x
theorem nars_snoc (x : Nar) (ss : List Nat) (s : Nat) : nars x (ss ++ [s]) = nar (nars x ss) s := by unfold nars; rw [List.foldl_append]; rfl
structure NarOk (k : Nat) (x : Nar) (sg mo : Int) : Prop where
  ok : NOk 3 x.m sg mo
  lo0 : 0 ≤ x.lo
  wd0 : 1 ≤ x.wd
  le : x.lo + x.wd ≤ x.pa
  pa : x.pa ≤ 4000 ^ k
theorem pow4000 {k : Nat} (h : k ≤ 70) : (4000 : Int) ^ k ≤ 2 ^ 840 := by
  have h1 : (4000 : Nat) ^ k ≤ 4096 ^ k := Nat.pow_le_pow_left (by decide) k
  have h2 : (4096 : Nat) ^ k = 2 ^ (12 * k) := by rw [Nat.pow_mul]
  have h3 : (2 : Nat) ^ (12 * k) ≤ 2 ^ 840 := Nat.pow_le_pow_right (by decide) (by omega)
  exact_mod_cast (by omega : (4000 : Nat) ^ k ≤ 2 ^ 840)
theorem pow840 : (2 : Int) ^ 840 < 2 ^ 4000 := by
  have : (2 : Nat) ^ 840 < 2 ^ 4000 := Nat.pow_lt_pow_right (by decide) (by decide)
  exact_mod_cast this
theorem pow12 : (4000 : Int) < 2 ^ 840 := by
  have : (4000 : Nat) < 2 ^ 840 := Nat.lt_of_lt_of_le (show 4000 < 2 ^ 12 by decide) (Nat.pow_le_pow_right (by decide) (by decide))
  exact_mod_cast this
theorem mulxB {i j : Int} (hi : 0 ≤ i ∧ i ≤ 2 ^ 840) (hj : 0 ≤ j ∧ j ≤ 2 ^ 840) : CMulX i j := by
  have := pow840
  exact mulx_ok (natAbs_lt (k := 4000) hi.1 (by omega)) (natAbs_lt (k := 4000) hj.1 (by omega)) (by decide)
theorem NarOk.big {k : Nat} {x : Nar} {sg mo : Int} (h : NarOk k x sg mo) (hk : k ≤ 70) : (0 ≤ x.lo ∧ x.lo ≤ 2 ^ 840) ∧ (0 ≤ x.wd ∧ x.wd ≤ 2 ^ 840) ∧ (0 ≤ x.pa ∧ x.pa ≤ 2 ^ 840) := by
  have := pow4000 hk
  obtain ⟨_, a, b, c, d⟩ := h
  exact ⟨⟨a, by omega⟩, ⟨by omega, by omega⟩, by omega, by omega⟩
theorem small840 {i : Int} (h0 : 0 ≤ i) (h1 : i ≤ 4000) : 0 ≤ i ∧ i ≤ 2 ^ 840 := by have := pow12; exact ⟨h0, by omega⟩
theorem NarOk.begun {m : Mdl} (h : MOk 3 m) : NarOk 0 (nar0 m) (nsg m) (mst m) := ⟨NOk.begun h, by show (0 : Int) ≤ 0; decide, by show (1 : Int) ≤ 1; decide, by show (0 : Int) + 1 ≤ 1; decide, by show (1 : Int) ≤ 4000 ^ 0; decide⟩
theorem NarOk.cs {k : Nat} {x : Nar} {sg mo : Int} (h : NarOk k x sg mo) {s : Nat} (hs : (s : Int) < sg) : s < x.m.now.length ∧ 1 ≤ x.m.now.getD s 0 ∧ 0 ≤ (x.m.now.take s).sum ∧ (x.m.now.take s).sum + x.m.now.getD s 0 ≤ x.m.now.sum ∧ 1 ≤ x.m.now.sum ∧ x.m.now.sum ≤ 4000 := by
  have g := h.ok.good
  have hl : s < x.m.now.length := by have := g.2.2.1; omega
  have t := take_getD x.m.now s hl
  have a := take_le g.1 (show s ≤ x.m.now.length by omega)
  have b := take_le g.1 (show s + 1 ≤ x.m.now.length by omega)
  have := g.1.at_ hl
  have := g.1.sum_pos
  exact ⟨hl, by omega, by omega, by omega, by omega, g.2.2.2⟩
theorem NarOk.nar {k : Nat} {x : Nar} {sg mo : Int} {s : Nat} (h : NarOk k x sg mo) (hs : (s : Int) < sg) : NarOk (k + 1) (nar x s) sg mo := by
  obtain ⟨hl, c1, t0, tc, s1, s4⟩ := h.cs hs
  obtain ⟨ok, lo0, wd0, le, pa⟩ := h
  have e1 : 0 ≤ x.lo * x.m.now.sum := Int.mul_nonneg lo0 (by omega)
  have e2 : 0 ≤ x.wd * (x.m.now.take s).sum := Int.mul_nonneg (by omega) t0
  have e3 : 1 ≤ x.wd * x.m.now.getD s 0 := Int.mul_le_mul wd0 c1 (by decide) (by omega)
  have e4 : x.wd * (x.m.now.take s).sum + x.wd * x.m.now.getD s 0 ≤ x.wd * x.m.now.sum := by
    rw [← Int.mul_add]; exact Int.mul_le_mul_of_nonneg_left tc (by omega)
  have e5 : x.lo * x.m.now.sum + x.wd * x.m.now.sum ≤ x.pa * x.m.now.sum := by
    rw [← Int.add_mul]; exact Int.mul_le_mul_of_nonneg_right le (by omega)
  have e6 : x.pa * x.m.now.sum ≤ 4000 ^ k * 4000 := Int.mul_le_mul pa s4 (by omega) (by omega)
  refine ⟨NOk.lrn ok hs, ?_, ?_, ?_, ?_⟩
  · show 0 ≤ x.lo * x.m.now.sum + x.wd * (x.m.now.take s).sum; omega
  · exact e3
  · show x.lo * x.m.now.sum + x.wd * (x.m.now.take s).sum + x.wd * x.m.now.getD s 0 ≤ x.pa * x.m.now.sum; omega
  · show x.pa * x.m.now.sum ≤ 4000 ^ (k + 1); rw [Int.pow_succ]; exact e6
theorem NarOk.nars {sg mo : Int} : ∀ (ss : List Nat) {k : Nat} {x : Nar}, NarOk k x sg mo → (∀ s ∈ ss, (s : Int) < sg) → NarOk (k + ss.length) (nars x ss) sg mo
  | [], k, x, h, _ => h
  | s :: ss, k, x, h, q => by
    have := NarOk.nars ss (h.nar (q s List.mem_cons_self)) fun z hz => q z (List.mem_cons_of_mem _ hz)
    rw [List.length_cons, show k + (ss.length + 1) = k + 1 + ss.length by omega]
    exact this
section
variable (K : PySem.W.Frag) (Sh Pl Le Ah Bl Ex : Addr)
def exS (p : Addr) (x : Nar) : SA := exA fun q : Addr => G.st (ob p Ex [("mind", .ref q), ("low", .int x.lo), ("width", .int x.wd), ("parts", .int x.pa)]) (msa K Sh Pl Le Ah Bl x.m q)
def spExInit : Sp := fun vs H Q _ => ∃ p x m L, vs = [.ref p, x] ∧ HS H (ob p Ex [] :: L) ∧ MdR K L x m ∧ MOk 3 m ∧ ∀ H', HS H' (exS K Sh Pl Le Ah Bl Ex p (nar0 m) :: L) → Q .non H'
def spExNarrow : Sp := fun vs H Q _ => ∃ p x k sg mo s L, vs = [.ref p, .int (s : Nat)] ∧ NarOk k x sg mo ∧ k ≤ 69 ∧ (s : Int) < sg ∧ HS H (exS K Sh Pl Le Ah Bl Ex p x :: L) ∧ ∀ H', HS H' (exS K Sh Pl Le Ah Bl Ex p (nar x s) :: L) → Q .non H'
def spNarrowed : Sp := fun vs H Q _ => ∃ x r m ss L, vs = [x, .ref r] ∧ HS H L ∧ MdR K L x m ∧ MOk 3 m ∧ RdL K L r (iv (List.map Int.ofNat ss)) ∧ ss.length ≤ 60 ∧ (∀ s ∈ ss, (s : Int) < nsg m) ∧ ∀ p H', HS H' (exS K Sh Pl Le Ah Bl Ex p (nars (nar0 m) ss) :: L) → Q (.ref p) H'
end
def spNeedRow (K : PySem.W.Frag) : Sp := fun vs H Q _ => ∃ sg r ss L, vs = [.int sg, .ref r] ∧ HS H L ∧ RdL K L r (iv (List.map Int.ofNat ss)) ∧ ss.length ≤ 60 ∧ (∀ s ∈ ss, (s : Int) < sg) ∧ ∀ H', HS H' L → Q .non H'
def spStretch (K : PySem.W.Frag) : Sp := fun vs H Q _ => ∃ x r m ss L, vs = [x, .ref r] ∧ HS H L ∧ MdR K L x m ∧ MOk 3 m ∧ RdL K L r (iv (List.map Int.ofNat ss)) ∧ ss.length ≤ 60 ∧ (∀ s ∈ ss, (s : Int) < nsg m) ∧
  ∀ t H', HS H' (tp t [.int (nars (nar0 m) ss).lo, .int (nars (nar0 m) ss).wd, .int (nars (nar0 m) ss).pa] :: L) → Q (.ref t) H'
section
variable {K : PySem.W.Frag} {Sh Pl Le Ah Bl Ex p q r : Addr} {H : Hp} {Q : VK} {E : XK} {L F : List SA} {x : V} {n : Nar} {m : Mdl} {sg mo i : Int} {k : Nat}
instance {n : Nar} : Key (exS K Sh Pl Le Ah Bl Ex p n) p := ⟨⟩
theorem HS.ex1 (h : HS H (exS K Sh Pl Le Ah Bl Ex p n :: L)) : ∃ q : Addr, HS H (ob p Ex [("mind", .ref q), ("low", .int n.lo), ("width", .int n.wd), ("parts", .int n.pa)] :: msa K Sh Pl Le Ah Bl n.m q :: L) :=
  let ⟨x, h⟩ := h.ex_in
  ⟨x, h.st_in⟩
theorem HS.ex2 (q : Addr) (h : HS H (ob p Ex [("mind", .ref q), ("low", .int n.lo), ("width", .int n.wd), ("parts", .int n.pa)] :: msa K Sh Pl Le Ah Bl n.m q :: L)) : HS H (exS K Sh Pl Le Ah Bl Ex p n :: L) := (h.st_out).ex_out q
/-- a method of a stretch -/
theorem s_mthEx {a C : Addr} {σ : L2.St} {L' : List SA} {mt : Str} {sp : Sp} {t : TA} [hs : HS H L] [o : Own L a (exS K Sh Pl Le Ah Bl C a n) L'] (l : ∀ x y z w : V, List.lookup mt [(("mind" : Str), x), ("low", y), ("width", z), ("parts", w)] = none) (h : t σ H fun vs H2 => sp (.ref a :: (vs ++ [])) H2 Q E) : mthK C mt sp E t σ Q (.ref a) H := by
  obtain ⟨q, h2⟩ := (hs.pk o.pk).ex1
  obtain ⟨dx, e⟩ := h2.ins
  exact ⟨a, dx, _, rfl, e, l _ _ _ _, h⟩
theorem c_exInit [hs : HS H L] [o : Own L p (ob p Ex []) F] [rd : MdR K F x m] (ok : MOk 3 m) (h : ∀ H', HS H' (exS K Sh Pl Le Ah Bl Ex p (nar0 m) :: F) → Q .non H') : spExInit K Sh Pl Le Ah Bl Ex [.ref p, x] H Q E := ⟨p, x, m, F, rfl, hs.pk o.pk, rd, ok, h⟩
theorem c_exNarrow (s : Nat) (e : i = (s : Nat)) [hs : HS H L] [o : Own L p (exS K Sh Pl Le Ah Bl Ex p n) F] (ok : NarOk k n sg mo) (hk : k ≤ 69) (hl : (s : Int) < sg) (h : ∀ H', HS H' (exS K Sh Pl Le Ah Bl Ex p (nar n s) :: F) → Q .non H') : spExNarrow K Sh Pl Le Ah Bl Ex [.ref p, .int i] H Q E :=
  ⟨p, n, k, sg, mo, s, F, by rw [e], ok, hk, hl, hs.pk o.pk, h⟩
theorem c_needRow (ss : List Nat) [hs : HS H L] [rd : RdL K L r (iv (List.map Int.ofNat ss))] (hl : ss.length ≤ 60) (hss : ∀ s ∈ ss, (s : Int) < sg) (h : ∀ H', HS H' L → Q .non H') : spNeedRow K [.int sg, .ref r] H Q E := ⟨sg, r, ss, L, rfl, hs, rd, hl, hss, h⟩
theorem c_narrowed (ss : List Nat) [hs : HS H L] [rm : MdR K L x m] [rd : RdL K L r (iv (List.map Int.ofNat ss))] (ok : MOk 3 m) (hl : ss.length ≤ 60) (hss : ∀ s ∈ ss, (s : Int) < nsg m)
    (h : ∀ p H', HS H' (exS K Sh Pl Le Ah Bl Ex p (nars (nar0 m) ss) :: L) → Q (.ref p) H') : spNarrowed K Sh Pl Le Ah Bl Ex [x, .ref r] H Q E := ⟨x, r, m, ss, L, rfl, hs, rm, ok, rd, hl, hss, h⟩
theorem c_stretch (ss : List Nat) [hs : HS H L] [rm : MdR K L x m] [rd : RdL K L r (iv (List.map Int.ofNat ss))] (ok : MOk 3 m) (hl : ss.length ≤ 60) (hss : ∀ s ∈ ss, (s : Int) < nsg m)
    (h : ∀ t H', HS H' (tp t [.int (nars (nar0 m) ss).lo, .int (nars (nar0 m) ss).wd, .int (nars (nar0 m) ss).pa] :: L) → Q (.ref t) H') : spStretch K [x, .ref r] H Q E := ⟨x, r, m, ss, L, rfl, hs, rm, ok, rd, hl, hss, h⟩
end
end G

namespace G
open PySem L2
/-! Rounded stretches. -/
/-- how often a width is doubled until it is no less than half -/
def shN : Nat → Int → Int → Nat
  | 0, _, _ => 0
  | f + 1, half, wd => if wd < half then shN f half (2 * wd) + 1 else 0
theorem shN_ge : ∀ (f : Nat) (half wd : Int), half ≤ wd * 2 ^ f → half ≤ wd * 2 ^ shN f half wd
  | 0, half, wd, h => h
  | f + 1, half, wd, h => by
    simp only [shN]
    split
    · have := shN_ge f half (2 * wd) (by rw [Int.pow_succ] at h; rw [Int.mul_comm 2 wd, Int.mul_assoc, Int.mul_comm 2]; exact h)
      rw [Int.pow_succ, Int.mul_comm _ 2, ← Int.mul_assoc, Int.mul_comm wd 2]; exact this
    · simp; omega
theorem shN_le : ∀ (f : Nat) (half wd : Int), wd ≤ 2 * half → wd * 2 ^ shN f half wd ≤ 2 * half
  | 0, half, wd, h => by simp only [shN]; simpa using h
  | f + 1, half, wd, h => by
    simp only [shN]
    split
    · have := shN_le f half (2 * wd) (by omega)
      rw [Int.pow_succ, Int.mul_comm _ 2, ← Int.mul_assoc, Int.mul_comm wd 2]; exact this
    · simpa using h
theorem shN_fuel : ∀ (f : Nat) (half wd : Int), shN f half wd ≤ f
  | 0, _, _ => Nat.le_refl _
  | f + 1, half, wd => by
    simp only [shN]
    split
    · have := shN_fuel f half (2 * wd); omega
    · omega
structure Rnd where
  m : Mnd
  lo : Int
  wd : Int
  mn : Nat
def rpart (x : Rnd) : Int := x.wd / x.m.now.sum
def rsh (R : Nat) (x : Rnd) (s : Nat) : Nat := shN 20 (2 ^ (R - 1)) (rpart x * x.m.now.getD s 0)
def rnd (R : Nat) (x : Rnd) (s : Nat) : Rnd :=
  ⟨x.m.lrn s, (x.lo + rpart x * (x.m.now.take s).sum) * 2 ^ rsh R x s, rpart x * x.m.now.getD s 0 * 2 ^ rsh R x s, x.mn + rsh R x s⟩
def rnd0 (R : Nat) (m : Mdl) : Rnd := ⟨mind m, 0, 2 ^ R, 0⟩
def rnds (R : Nat) (x : Rnd) (ss : List Nat) : Rnd := ss.foldl (rnd R) x
theorem rnds_snoc (R : Nat) (x : Rnd) (ss : List Nat) (s : Nat) : rnds R x (ss ++ [s]) = rnd R (rnds R x ss) s := by unfold rnds; rw [List.foldl_append]; rfl
structure RndOk (R k : Nat) (x : Rnd) (sg mo : Int) : Prop where
  ok : NOk 3 x.m sg mo
  r4 : 4 ≤ R
  r20 : R ≤ 20
  room : 8 * mo ≤ 2 ^ R
  lo0 : 0 ≤ x.lo
  wd0 : 2 ^ (R - 1) ≤ x.wd
  wd1 : x.wd ≤ 2 ^ R
  le : x.lo + x.wd ≤ 2 ^ (R + x.mn)
  mn : x.mn ≤ 20 * k
theorem pow_half {R : Nat} (h : 1 ≤ R) : (2 : Int) ^ R = 2 * 2 ^ (R - 1) := by
  obtain ⟨r, rfl⟩ : ∃ r, R = r + 1 := ⟨R - 1, by omega⟩
  rw [Int.pow_succ, Nat.add_sub_cancel]; omega
theorem ipow_le {a b : Nat} (h : a ≤ b) : (2 : Int) ^ a ≤ 2 ^ b := by
  have : (2 : Nat) ^ a ≤ 2 ^ b := Nat.pow_le_pow_right (by decide) h
  exact_mod_cast this
theorem ipow_pos (a : Nat) : (1 : Int) ≤ 2 ^ a := by
  have := ipow_le (Nat.zero_le a)
  simpa using this
theorem RndOk.begun {R : Nat} {m : Mdl} (h : MOk 3 m) (r4 : 4 ≤ R) (r20 : R ≤ 20) (hm : 8 * mst m ≤ 2 ^ R) : RndOk R 0 (rnd0 R m) (nsg m) (mst m) := by
  refine ⟨NOk.begun h, r4, r20, hm, Int.le_refl _, ipow_le (by omega), Int.le_refl _, ?_, Nat.le_refl _⟩
  show (0 : Int) + 2 ^ R ≤ 2 ^ (R + 0)
  simp
theorem RndOk.cs {R k : Nat} {x : Rnd} {sg mo : Int} (h : RndOk R k x sg mo) {s : Nat} (hs : (s : Int) < sg) : s < x.m.now.length ∧ 1 ≤ x.m.now.getD s 0 ∧ 0 ≤ (x.m.now.take s).sum ∧ (x.m.now.take s).sum + x.m.now.getD s 0 ≤ x.m.now.sum ∧ 1 ≤ x.m.now.sum ∧ x.m.now.sum ≤ mo ∧ mo ≤ 4000 := by
  have g := h.ok.good
  have c := h.ok.now
  have hl : s < x.m.now.length := by have := g.2.2.1; omega
  have t := take_getD x.m.now s hl
  have a := take_le g.1 (show s ≤ x.m.now.length by omega)
  have b := take_le g.1 (show s + 1 ≤ x.m.now.length by omega)
  have := g.1.at_ hl
  have := g.1.sum_pos
  exact ⟨hl, by omega, by omega, by omega, by omega, c.sum, h.ok.sg.2⟩
/-- the part of the width that a count is worth -/
theorem RndOk.part {R k : Nat} {x : Rnd} {sg mo : Int} (h : RndOk R k x sg mo) {s : Nat} (hs : (s : Int) < sg) : 4 ≤ rpart x ∧ rpart x * x.m.now.sum ≤ x.wd ∧ rpart x ≤ x.wd := by
  obtain ⟨hl, c1, t0, tc, s1, s4, m4⟩ := h.cs hs
  have e := pow_half (show 1 ≤ R by have := h.r4; omega)
  have := h.room
  have := h.wd0
  have p4 : 4 ≤ rpart x := by
    unfold rpart
    rw [Int.le_ediv_iff_mul_le (by omega)]
    omega
  have pm : rpart x * x.m.now.sum ≤ x.wd := by unfold rpart; exact Int.ediv_mul_le _ (by omega)
  refine ⟨p4, pm, ?_⟩
  have : rpart x * 1 ≤ rpart x * x.m.now.sum := Int.mul_le_mul_of_nonneg_left s1 (by omega)
  omega
theorem RndOk.wide {R k : Nat} {x : Rnd} {sg mo : Int} (h : RndOk R k x sg mo) {s : Nat} (hs : (s : Int) < sg) : 1 ≤ rpart x * x.m.now.getD s 0 ∧ 0 ≤ rpart x * (x.m.now.take s).sum ∧ rpart x * (x.m.now.take s).sum + rpart x * x.m.now.getD s 0 ≤ x.wd := by
  obtain ⟨hl, c1, t0, tc, s1, s4, m4⟩ := h.cs hs
  obtain ⟨p4, pm, _⟩ := h.part hs
  refine ⟨Int.mul_le_mul (show (1 : Int) ≤ rpart x by omega) c1 (by decide) (by omega), Int.mul_nonneg (by omega) t0, ?_⟩
  have : rpart x * ((x.m.now.take s).sum + x.m.now.getD s 0) ≤ rpart x * x.m.now.sum := Int.mul_le_mul_of_nonneg_left tc (by omega)
  rw [Int.mul_add] at this
  omega
theorem RndOk.rnd {R k : Nat} {x : Rnd} {sg mo : Int} {s : Nat} (h : RndOk R k x sg mo) (hs : (s : Int) < sg) : RndOk R (k + 1) (rnd R x s) sg mo := by
  obtain ⟨w1, a0, aw⟩ := h.wide hs
  have e := pow_half (show 1 ≤ R by have := h.r4; omega)
  have hp := ipow_pos (rsh R x s)
  refine ⟨h.ok.lrn hs, h.r4, h.r20, h.room, ?_, ?_, ?_, ?_, ?_⟩
  · exact Int.mul_nonneg (by have := h.lo0; omega) (by omega)
  · refine shN_ge 20 _ _ ?_
    have : (2 : Int) ^ (R - 1) ≤ 2 ^ 20 := ipow_le (by have := h.r20; omega)
    have : 1 * (2 : Int) ^ 20 ≤ rpart x * x.m.now.getD s 0 * 2 ^ 20 := Int.mul_le_mul_of_nonneg_right w1 (by decide)
    omega
  · have := shN_le 20 (2 ^ (R - 1)) (rpart x * x.m.now.getD s 0) (by have := h.wd1; omega)
    rw [e]; exact this
  · show (x.lo + rpart x * (x.m.now.take s).sum) * 2 ^ rsh R x s + rpart x * x.m.now.getD s 0 * 2 ^ rsh R x s ≤ 2 ^ (R + (x.mn + rsh R x s))
    rw [← Int.add_mul, ← Nat.add_assoc, Int.pow_add]
    exact Int.mul_le_mul_of_nonneg_right (by have := h.le; omega) (by omega)
  · show x.mn + rsh R x s ≤ 20 * (k + 1)
    have := shN_fuel 20 (2 ^ (R - 1)) (rpart x * x.m.now.getD s 0)
    have := h.mn
    unfold rsh
    omega
theorem RndOk.rnds {R : Nat} {sg mo : Int} : ∀ (ss : List Nat) {k : Nat} {x : Rnd}, RndOk R k x sg mo → (∀ s ∈ ss, (s : Int) < sg) → RndOk R (k + ss.length) (rnds R x ss) sg mo
  | [], k, x, h, _ => h
  | s :: ss, k, x, h, q => by
    have := RndOk.rnds ss (h.rnd (q s List.mem_cons_self)) fun z hz => q z (List.mem_cons_of_mem _ hz)
    rw [List.length_cons, show k + (ss.length + 1) = k + 1 + ss.length by omega]
    exact this
theorem mulxC {i j : Int} {a b : Nat} (hi : 0 ≤ i ∧ i ≤ 2 ^ a) (hj : 0 ≤ j ∧ j ≤ 2 ^ b) (ha : a ≤ 10000) (hb : b ≤ 10000) : CMulX i j := by
  have h1 : (2 : Int) ^ a < 2 ^ (a + 1) := by rw [Int.pow_succ]; have := ipow_pos a; omega
  have h2 : (2 : Int) ^ b < 2 ^ (b + 1) := by rw [Int.pow_succ]; have := ipow_pos b; omega
  exact mulx_ok (natAbs_lt (k := a + 1) hi.1 (by omega)) (natAbs_lt (k := b + 1) hj.1 (by omega)) (by omega)
theorem RndOk.big {R k : Nat} {x : Rnd} {sg mo : Int} (h : RndOk R k x sg mo) (hk : k ≤ 70) : (0 ≤ x.lo ∧ x.lo ≤ 2 ^ 1420) ∧ (0 ≤ x.wd ∧ x.wd ≤ 2 ^ 20) := by
  have h1 : (2 : Int) ^ (R + x.mn) ≤ 2 ^ 1420 := ipow_le (by have := h.mn; have := h.r20; omega)
  have h2 : (2 : Int) ^ R ≤ 2 ^ 20 := ipow_le h.r20
  have h3 := h.le
  have h4 := h.wd0
  have h5 := h.wd1
  have h6 := ipow_pos (R - 1)
  exact ⟨⟨h.lo0, by omega⟩, by omega, by omega⟩
/-- 1 << R -/
theorem shl_one {R : Nat} (h : R ≤ 100) : CShl 1 (R : Int) := shl_ok (n := 1) (by decide) (by omega)
theorem one_shl (R : Nat) : (1 : Int) * 2 ^ ((R : Nat) : Int).toNat = 2 ^ R := by rw [Int.one_mul, Int.toNat_natCast]
theorem two_shl {i : Int} {R : Nat} (e : i = (R : Nat)) : (1 : Int) * 2 ^ i.toNat = 2 ^ R := by rw [e, one_shl]
theorem shl_sub {R : Nat} (h1 : 1 ≤ R) (h : R ≤ 100) : CShl 1 ((R : Int) - 1) := by
  rw [show (R : Int) - 1 = ((R - 1 : Nat) : Int) by omega]
  exact shl_one (by omega)
theorem le_mul_pow {a : Int} (h : 0 ≤ a) (k : Nat) : a ≤ a * 2 ^ k := by
  have := Int.mul_le_mul_of_nonneg_left (ipow_pos k) h
  omega
theorem dbl_pow (a : Int) (k : Nat) : 2 * a * 2 ^ k = a * 2 ^ (k + 1) := by
  rw [Int.pow_succ, Int.mul_comm 2 a, Int.mul_assoc, Int.mul_comm 2]
/-- range(i, j) -/
def rgK2 (R : It → Hp → Prop) (vs : List V) (H1 : Hp) : Prop := ∃ i j : Int, vs = [.int i, .int j] ∧ (-(2 ^ 62) ≤ i ∧ i < 2 ^ 62 ∧ -(2 ^ 62) ≤ j ∧ j < 2 ^ 62) ∧ R (Itr i (j - i).toNat) H1
theorem s_rng2 {σ : L2.St} {H : Hp} {t : TA} {R : It → Hp → Prop} (h : t σ H fun vs H1 => rgK2 R vs H1) : iRng2 t σ H R := h
theorem s_rngK2 {H : Hp} {i j : Int} {R : It → Hp → Prop} (h1 : -(2 ^ 62) ≤ i) (h2 : i < 2 ^ 62) (h3 : -(2 ^ 62) ≤ j) (h4 : j < 2 ^ 62) (h : R (Itr i (j - i).toNat) H) : rgK2 R [.int i, .int j] H := ⟨i, j, rfl, ⟨h1, h2, h3, h4⟩, h⟩
theorem c_rng2 {g : TG} {te : TE} {σ : L2.St} {H : Hp} {Q : VK} {L : List SA} {tt : TT} {vs : List Nat} {lo : Int} {k n : Nat} (e : n = k) [hs0 : HS H L] (Pv : Addr → Nat → Hp → Prop) (h0 : ∀ D H', HS H' (pt D (.lst []) :: L) → Pv D 0 H')
    (hs : ∀ D (i : Nat) H, i < k → Pv D i H → g (.int (lo + (i : Int))) (wipe σ vs) H fun σ2 H2 => wipe σ2 vs = wipe σ vs ∧ tt σ2 H2 fun b H3 => if b = true then te σ2 H3 fun y H4 => accK D (Pv D (i + 1)) y H4 else Pv D (i + 1) H3)
    (hd : ∀ D H, Pv D k H → Q (.ref D) H) : lcK g tt te vs σ Q (Itr lo n) H := fun D hD => by
  subst e
  exact lc_range (lo := lo) (Pv D) (h0 D _ (hs0.new hD id)) (fun i H hi p => hs D i H hi p) (hd D)
def spNeedRoom (K : PySem.W.Frag) : Sp := fun vs H Q _ => ∃ x m R L, vs = [x, .int (R : Nat)] ∧ HS H L ∧ MdR K L x m ∧ MOk 3 m ∧ 4 ≤ R ∧ R ≤ 20 ∧ 8 * mst m ≤ 2 ^ R ∧ ∀ H', HS H' L → Q .non H'
def spRounded (K : PySem.W.Frag) : Sp := fun vs H Q _ => ∃ x r m R ss L, vs = [x, .int (R : Nat), .ref r] ∧ HS H L ∧ MdR K L x m ∧ MOk 3 m ∧ 4 ≤ R ∧ R ≤ 20 ∧ 8 * mst m ≤ 2 ^ R ∧ RdL K L r (iv (List.map Int.ofNat ss)) ∧ ss.length ≤ 60 ∧ (∀ s ∈ ss, (s : Int) < nsg m) ∧
  ∀ t H', HS H' (tp t [.int (rnds R (rnd0 R m) ss).lo, .int (rnds R (rnd0 R m) ss).wd, .int ((rnds R (rnd0 R m) ss).mn : Nat)] :: L) → Q (.ref t) H'
def spLRoom (K : PySem.W.Frag) : Sp := fun vs H Q _ => ∃ p x m L, vs = [.ref p, x] ∧ HS H (rowA K p :: L) ∧ MdR K L x m ∧ MOk 3 m ∧ ∀ (R : Nat) H', 4 ≤ R → R ≤ 20 → 8 * mst m ≤ 2 ^ R → HS H' (rowA K p :: L) → Q (.int (R : Nat)) H'
section
variable {K : PySem.W.Frag} {p r : Addr} {H : Hp} {Q : VK} {E : XK} {L F : List SA} {x : V} {m : Mdl} {i : Int}
theorem c_needRoom (R : Nat) (e : i = (R : Nat)) [hs : HS H L] [rm : MdR K L x m] (ok : MOk 3 m) (r4 : 4 ≤ R) (r20 : R ≤ 20) (hm : 8 * mst m ≤ 2 ^ R) (h : ∀ H', HS H' L → Q .non H') : spNeedRoom K [x, .int i] H Q E := ⟨x, m, R, L, by rw [e], hs, rm, ok, r4, r20, hm, h⟩
theorem c_rounded (R : Nat) (ss : List Nat) (e : i = (R : Nat)) [hs : HS H L] [rm : MdR K L x m] [rd : RdL K L r (iv (List.map Int.ofNat ss))] (ok : MOk 3 m) (r4 : 4 ≤ R) (r20 : R ≤ 20) (hm : 8 * mst m ≤ 2 ^ R) (hl : ss.length ≤ 60) (hss : ∀ s ∈ ss, (s : Int) < nsg m)
    (h : ∀ t H', HS H' (tp t [.int (rnds R (rnd0 R m) ss).lo, .int (rnds R (rnd0 R m) ss).wd, .int ((rnds R (rnd0 R m) ss).mn : Nat)] :: L) → Q (.ref t) H') : spRounded K [x, .int i, .ref r] H Q E := ⟨x, r, m, R, ss, L, by rw [e], hs, rm, ok, r4, r20, hm, rd, hl, hss, h⟩
theorem c_lRoom [hs : HS H L] [o : Own L p (rowA K p) F] [rm : MdR K F x m] (ok : MOk 3 m) (h : ∀ (R : Nat) H', 4 ≤ R → R ≤ 20 → 8 * mst m ≤ 2 ^ R → HS H' (rowA K p :: F) → Q (.int (R : Nat)) H') : spLRoom K [.ref p, x] H Q E := ⟨p, x, m, F, rfl, hs.pk o.pk, rm, ok, h⟩
end
end G

namespace G
open PySem L2
theorem dm_uniq {q d r : Int} (h0 : 0 ≤ r) (h1 : r < d) : (q * d + r) / d = q ∧ (q * d + r) % d = r := by
  constructor
  · rw [Int.add_comm, Int.add_mul_ediv_right _ _ (by omega), Int.ediv_eq_zero_of_lt h0 h1, Int.zero_add]
  · rw [Int.add_comm, Int.add_mul_emod_self_right, Int.emod_eq_of_lt h0 h1]
structure Shr (cs : List Int) (s : Nat) (c S A : Int) : Prop where
  ec : cs.getD s 0 = c
  eS : cs.sum = S
  eA : (cs.take s).sum = A
  c1 : 1 ≤ c
  A0 : 0 ≤ A
  le : A + c ≤ S
theorem Good.shr {cs : List Int} (g : Good cs) {s : Nat} (h : s < cs.length) : Shr cs s (cs.getD s 0) cs.sum (cs.take s).sum := by
  have h1 := take_getD cs s h
  have h2 := take_mono cs g.nn (Nat.zero_le s)
  have h3 := take_mono cs g.nn (show s + 1 ≤ cs.length from h)
  rw [List.take_length] at h3
  simp at h2
  exact ⟨rfl, rfl, rfl, g.at_ h, h2, by omega⟩
theorem upon_off {cs : List Int} (g : Good cs) {s : Nat} (h : s < cs.length) {n : Int} (n0 : 0 ≤ n) : offS cs (uponF cs s n) = s ∧ offN cs (uponF cs s n) = n ∧ 0 ≤ uponF cs s n := by
  have q := g.shr h
  have r0 := Int.emod_nonneg n (show cs.getD s 0 ≠ 0 by have := q.c1; omega)
  have r1 := Int.emod_lt_of_pos n (show 0 < cs.getD s 0 by have := q.c1; omega)
  have hd := Int.mul_ediv_add_emod n (cs.getD s 0)
  have d0 := (div_le_self' n0 q.c1).1
  have e : uponF cs s n = n / cs.getD s 0 * cs.sum + ((cs.take s).sum + n % cs.getD s 0) := by unfold uponF; omega
  obtain ⟨e1, e2⟩ := dm_uniq (q := n / cs.getD s 0) (d := cs.sum) (r := (cs.take s).sum + n % cs.getD s 0) (by have := q.A0; omega) (by have := q.le; omega)
  rw [← e] at e1 e2
  have es : offS cs (uponF cs s n) = s := by
    unfold offS
    rw [e2]
    refine (signF_is cs _ s g.nn h (by omega) ?_).symm
    rw [take_getD cs s h]; omega
  refine ⟨es, ?_, ?_⟩
  · unfold offN
    rw [es, e1, e2]
    rw [Int.mul_comm] at hd
    omega
  · rw [e]
    have := Int.mul_nonneg d0 (show 0 ≤ cs.sum by have := q.le; have := q.A0; have := q.c1; omega)
    have := q.A0
    omega
theorem off_upon {cs : List Int} (g : Good cs) {n : Int} (n0 : 0 ≤ n) : offS cs n < cs.length ∧ uponF cs (offS cs n) (offN cs n) = n ∧ 0 ≤ offN cs n ∧ offN cs n ≤ n := by
  have hp := g.sum_pos
  have hr0 := Int.emod_nonneg n (show cs.sum ≠ 0 by omega)
  have hr1 := Int.emod_lt_of_pos n hp
  have hsl : offS cs n < cs.length := g.signF_lt hr1
  have q := g.shr hsl
  obtain ⟨f1, f2, _⟩ := filter_sign g hr0 hr1
  have f1' : (cs.take (offS cs n)).sum ≤ n % cs.sum := f1
  have f2' : n % cs.sum < (cs.take (offS cs n)).sum + cs.getD (offS cs n) 0 := by rw [← take_getD cs _ hsl]; exact f2
  have e : offN cs n = n / cs.sum * cs.getD (offS cs n) 0 + (n % cs.sum - (cs.take (offS cs n)).sum) := by unfold offN; omega
  obtain ⟨e1, e2⟩ := dm_uniq (q := n / cs.sum) (d := cs.getD (offS cs n) 0) (r := n % cs.sum - (cs.take (offS cs n)).sum) (by omega) (by omega)
  rw [← e] at e1 e2
  have d0 := (div_le_self' n0 (show 1 ≤ cs.sum by omega)).1
  have hd := Int.mul_ediv_add_emod n cs.sum
  have c1 := q.c1
  have le := q.le
  have A0 := q.A0
  have h1 : n / cs.sum * cs.getD (offS cs n) 0 ≤ n / cs.sum * cs.sum := Int.mul_le_mul_of_nonneg_left (by omega) d0
  have h2 := Int.mul_nonneg d0 (show 0 ≤ cs.getD (offS cs n) 0 by omega)
  rw [Int.mul_comm] at hd
  refine ⟨hsl, ?_, by omega, by omega⟩
  unfold uponF
  rw [e1, e2]
  omega
theorem upon_bounds {cs : List Int} (g : Good cs) {s : Nat} (h : s < cs.length) {n : Int} (n0 : 0 ≤ n) :
    (n - cs.getD s 0 + 1) * cs.sum ≤ uponF cs s n * cs.getD s 0 ∧ uponF cs s n * cs.getD s 0 < (n + cs.getD s 0) * cs.sum := by
  have q := g.shr h
  have r0 := Int.emod_nonneg n (show cs.getD s 0 ≠ 0 by have := q.c1; omega)
  have r1 := Int.emod_lt_of_pos n (show 0 < cs.getD s 0 by have := q.c1; omega)
  have hd := Int.mul_ediv_add_emod n (cs.getD s 0)
  have c1 := q.c1
  have le := q.le
  have A0 := q.A0
  unfold uponF
  generalize hq : n / cs.getD s 0 = Q at *
  generalize hr : n % cs.getD s 0 = R at *
  generalize cs.getD s 0 = c at *
  generalize cs.sum = S at *
  generalize (cs.take s).sum = A at *
  have e1 : (Q * S + A + R) * c = c * Q * S + (A + R) * c := by
    rw [Int.add_assoc, Int.add_mul, Int.mul_comm c Q, Int.mul_assoc, Int.mul_comm S c, ← Int.mul_assoc]
  have e2 : (n - c + 1) * S = c * Q * S + (R - c + 1) * S := by rw [← hd, ← Int.add_mul]; congr 1; omega
  have e3 : (n + c) * S = c * Q * S + (R + c) * S := by rw [← hd, ← Int.add_mul]; congr 1; omega
  have p1 : 0 ≤ (A + R) * c := Int.mul_nonneg (by omega) (by omega)
  have p2 : (R - c + 1) * S ≤ 0 := Int.mul_nonpos_of_nonpos_of_nonneg (by omega) (by omega)
  have p3 : (A + R) * c < S * c := Int.mul_lt_mul_of_pos_right (by omega) (by omega)
  have p4 : c * S ≤ (R + c) * S := Int.mul_le_mul_of_nonneg_right (by omega) (by omega)
  rw [Int.mul_comm S c] at p3
  rw [e1, e2, e3]
  omega
theorem upon_mono {cs : List Int} (g : Good cs) {s : Nat} (h : s < cs.length) {n m : Int} (n0 : 0 ≤ n) (hm : n < m) : uponF cs s n < uponF cs s m := by
  have q := g.shr h
  have c1 := q.c1
  have le := q.le
  have A0 := q.A0
  have r0 := Int.emod_nonneg n (show cs.getD s 0 ≠ 0 by omega)
  have r1 := Int.emod_lt_of_pos n (show 0 < cs.getD s 0 by omega)
  have s0 := Int.emod_nonneg m (show cs.getD s 0 ≠ 0 by omega)
  have hd := Int.mul_ediv_add_emod n (cs.getD s 0)
  have hd2 := Int.mul_ediv_add_emod m (cs.getD s 0)
  have hle : n / cs.getD s 0 ≤ m / cs.getD s 0 := Int.ediv_le_ediv (by omega) (by omega)
  unfold uponF
  generalize n / cs.getD s 0 = Q at *
  generalize n % cs.getD s 0 = R at *
  generalize m / cs.getD s 0 = Q' at *
  generalize m % cs.getD s 0 = R' at *
  generalize cs.getD s 0 = c at *
  generalize cs.sum = S at *
  generalize (cs.take s).sum = A at *
  by_cases e : Q = Q'
  · subst e; omega
  · have h1 : (Q + 1) * S ≤ Q' * S := Int.mul_le_mul_of_nonneg_right (by omega) (by omega)
    rw [Int.add_mul, Int.one_mul] at h1
    omega
theorem upon_le {cs : List Int} (g : Good cs) {s : Nat} (h : s < cs.length) {n B : Int} (n0 : 0 ≤ n) (hB : n ≤ B) (hs : cs.sum ≤ 32000) : uponF cs s n ≤ B * 32000 + 32000 := by
  have q := g.shr h
  have c1 := q.c1
  have le := q.le
  have A0 := q.A0
  have r1 := Int.emod_lt_of_pos n (show 0 < cs.getD s 0 by omega)
  have hd := div_le_self' n0 c1
  unfold uponF
  have h1 : n / cs.getD s 0 * cs.sum ≤ B * 32000 := Int.le_trans (Int.mul_le_mul_of_nonneg_right (show n / cs.getD s 0 ≤ B by omega) (by omega)) (Int.mul_le_mul_of_nonneg_left hs (by omega))
  omega
theorem p1110 : (2 : Int) ^ 1100 * 32000 + 32000 ≤ 2 ^ 1200 := by
  have : (2 : Nat) ^ 1100 * 32000 + 32000 ≤ 2 ^ 1200 := by decide +kernel
  exact_mod_cast this
/-- 4001 times, and less -/
theorem grow4001 {x t : Int} {k : Nat} (x0 : 0 ≤ x) (h : x < 2 ^ (30 + 12 * k)) (t0 : 0 ≤ t) (t1 : t < 4001) : 0 ≤ x * 4001 + t ∧ x * 4001 + t < 2 ^ (30 + 12 * (k + 1)) := by
  have e : (2 : Int) ^ (30 + 12 * (k + 1)) = 2 ^ (30 + 12 * k) * 4096 := by rw [show 30 + 12 * (k + 1) = (30 + 12 * k) + 12 by omega, Int.pow_add]; rfl
  rw [e]
  generalize (2 : Int) ^ (30 + 12 * k) = B at *
  omega
theorem pow_le_1100 {k : Nat} (h : k ≤ 89) : (2 : Int) ^ (30 + 12 * k) ≤ 2 ^ 1098 := by
  have : (2 : Nat) ^ (30 + 12 * k) ≤ 2 ^ 1098 := Nat.pow_le_pow_right (by decide) (by omega)
  exact_mod_cast this
theorem pow1201 : (2 : Int) ^ 1200 < 2 ^ 1201 := by
  have : (2 : Nat) ^ 1200 < 2 ^ 1201 := Nat.pow_lt_pow_right (by decide) (by decide)
  exact_mod_cast this
theorem natAbs_lt2 {n : Int} {k : Nat} (h0 : -(2 ^ k) < n) (h1 : n < 2 ^ k) : n.natAbs < 2 ^ k := by
  by_cases h : 0 ≤ n
  · exact natAbs_lt h h1
  · rw [← Int.natAbs_neg]; exact natAbs_lt (by omega) (by omega)
theorem p1098 : (2 : Int) ^ 1098 + 100 ≤ 2 ^ 1100 := by
  have : (2 : Nat) ^ 1098 + 100 ≤ 2 ^ 1100 := by decide +kernel
  exact_mod_cast this
/-- x in a list of ints -/
theorem inV_iv (x : Int) (cs : List Int) : inV (.int x) (iv cs) = decide (x ∈ cs) := by
  induction cs with
  | nil => simp [inV, iv]
  | cons c r ih =>
    have e : inV (.int x) (iv (c :: r)) = ((c == x) || inV (.int x) (iv r)) := by simp [inV, iv, eqV]
    rw [e, ih]
    by_cases h : c = x
    · subst h; simp
    · simp [h, Ne.symm h]
theorem iv_flat (cs : List Int) : (iv cs).all flatV = true := by
  induction cs with
  | nil => rfl
  | cons c r ih => simp [iv, flatV]
section
variable {K : PySem.W.Frag} {H : Hp} {Q : VK} {L : List SA} {p q : Addr} {cs : List Int} {x : Int}
theorem s_inIv [hs : HS H L] [m : RdL K L p (iv cs)] (h : Q (.bl (decide (x ∈ cs))) H) : rInG K (.int x) (.ref p) H Q :=
  .inr ⟨p, iv cs, rfl, .inl (m.sq hs), rfl, iv_flat cs, by rw [if_neg (by decide), inV_iv]; exact h⟩
/-- (i, n) == (j, m) -/
theorem s_neT2 {i j n m : Int} [hs : HS H L] [m1 : RdT K L p [.int i, .int n]] [m2 : RdT K L q [.int j, .int m]] (h : Q (.bl (!decide (i = j ∧ n = m))) H) : rNeG K (.ref p) (.ref q) H Q := by
  refine .inr ⟨_, _, .tup (m1.sq hs) (.cons (.int i) (.cons (.int n) .nil)), .tup (m2.sq hs) (.cons (.int j) (.cons (.int m) .nil)), by simp [SeqAt.shaped, PyData.canLay0, PyData.canLayAll0, PyData.depth, PyData.depthAll], by simp [SeqAt.shaped, PyData.canLay0, PyData.canLayAll0, PyData.depth, PyData.depthAll], ?_⟩
  have e : PyData.eqv (.tuple [.int i, .int n]) (.tuple [.int j, .int m]) = decide (i = j ∧ n = m) := by
    simp only [PyData.eqv, PyData.eqvAll, Bool.and_true]
    by_cases h1 : i = j <;> by_cases h2 : n = m <;> simp [h1, h2]
  rw [e]; exact h
end
end G

namespace G
open PySem L2
/-! Rows piled. -/
section
open PySem PySem.Spec PyProof.Rows
theorem pe_rev {X : Cx} {K : PySem.W.Frag} (h : X.K = K) {e : Expr} {te : TE} {k : Nat} {p1 p2 p3 pos : Pos} (he : PE X e te) : PE X (.Subscript e (.Slice none none (some (.UnaryOp .USub (.Constant (.int 1) k p1) p2)) p3) pos) (tRevL K te) := h ▸ pe_revL he
end
def rvK (K : PySem.W.Frag) (Q : VK) (x : V) (H1 : Hp) : Prop := ∃ a xs, x = .ref a ∧ SqL K H1 a xs ∧ ∀ p, H1 p = none → Q (.ref p) (upd H1 p (.lst xs.reverse))
def rg3K (R : It → Hp → Prop) (vs : List V) (H1 : Hp) : Prop := ∃ (i j c : Int) (n : Nat), vs = [.int i, .int j, .int c] ∧ RgC i j c n ∧ R (Itc i c n) H1
section
variable {K : PySem.W.Frag} {σ : L2.St} {H : Hp} {Q : VK} {E : XK} {L F : List SA} {p q : Addr} {xs ys : List V} {D : Ends} {g : TG} {i j : Int}
theorem s_rev {te : TE} (h : te σ H fun x H1 => rvK K Q x H1) : tRevL K te σ H Q := h
theorem s_rvK [hs : HS H L] [m : RdL K L p xs] (h : ∀ q H', HS H' (pt q (.lst xs.reverse) :: L) → Q (.ref q) H') : rvK K Q (.ref p) H := ⟨p, xs, rfl, m.sq hs, s_new h⟩
theorem s_rng3 {t : TA} {R : It → Hp → Prop} (h : t σ H fun vs H1 => rg3K R vs H1) : iRng3 t σ H R := h
theorem s_rngK3 {R : It → Hp → Prop} (h1 : -(2 ^ 62) ≤ i) (h2 : i < 2 ^ 62) (h3 : -(2 ^ 62) ≤ j) (h4 : j < 2 ^ 62) (h : R (Itc i (-1) (i - j).toNat) H) : rg3K R [.int i, .int j, .int (0 - 1)] H := ⟨i, j, -1, _, rfl, RgC.neg h1 h2 h3 h4, h⟩
theorem f_rng3 {tb : TS} {lo c : Int} {n : Nat} (Pv : Nat → L2.St → Hp → Prop) (h0 : Pv 0 σ H)
    (hs : ∀ i σ H, i < n → Pv i σ H → g (.int (lo + (i : Nat) * c)) σ H fun σ2 H2 => tb { D with nx := Pv (i + 1), ct := Pv (i + 1), bk := D.nx } σ2 H2) (hd : ∀ σ H, Pv n σ H → D.nx σ H) : forK g tb D σ (Itc lo c n) H :=
  for_rangeC Pv h0 hs hd
theorem f_zip {tb : TS} (xs ys : List V) (hl : xs.length = ys.length) (Pv : Nat → L2.St → Hp → Prop) (h0 : Pv 0 σ H) (hq : ∀ i σ H, Pv i σ H → SqL K H p xs ∧ SqL K H q ys)
    (hs : ∀ (i : Nat) (x y : V) (T : Addr) (σ : L2.St) (H : Hp), xs[i]? = some x → ys[i]? = some y → Pv i σ H → H T = none → g (.ref T) σ (upd H T (.tup [x, y])) fun σ2 H2 => tb { D with nx := Pv (i + 1), ct := Pv (i + 1), bk := D.nx } σ2 H2) (hd : ∀ σ H, Pv xs.length σ H → D.nx σ H) : forK g tb D σ (Itz K p q) H :=
  RZ.for_zipL hl Pv h0 hq hs hd
end
def mnds (x : Mnd) (ss : List Nat) : Mnd := ss.foldl Mnd.lrn x
theorem mnds_snoc (x : Mnd) (ss : List Nat) (s : Nat) : mnds x (ss ++ [s]) = (mnds x ss).lrn s := by unfold mnds; rw [List.foldl_append]; rfl
theorem NOk.mnds {sg mo : Int} : ∀ (ss : List Nat) {x : Mnd}, NOk 3 x sg mo → (∀ s ∈ ss, (s : Int) < sg) → NOk 3 (mnds x ss) sg mo
  | [], x, h, _ => h
  | s :: ss, x, h, q => NOk.mnds ss (h.lrn (q s List.mem_cons_self)) fun z hz => q z (List.mem_cons_of_mem _ hz)
def cnts : Mnd → List Nat → List (List Int)
  | _, [] => []
  | x, s :: ss => x.now :: cnts (x.lrn s) ss
theorem cnts_len : ∀ (ss : List Nat) (x : Mnd), (cnts x ss).length = ss.length
  | [], x => rfl
  | s :: ss, x => by simp [cnts, cnts_len ss]
theorem cnts_snoc : ∀ (ss : List Nat) (x : Mnd) (s : Nat), cnts x (ss ++ [s]) = cnts x ss ++ [(mnds x ss).now]
  | [], x, s => rfl
  | t :: ss, x, s => by
    show x.now :: cnts (x.lrn t) (ss ++ [s]) = x.now :: (cnts (x.lrn t) ss ++ [(mnds (x.lrn t) ss).now])
    rw [cnts_snoc ss]
theorem cnts_ok {sg mo : Int} : ∀ (ss : List Nat) {x : Mnd}, NOk 3 x sg mo → (∀ s ∈ ss, (s : Int) < sg) → ∀ cs ∈ cnts x ss, Good cs ∧ (∀ c ∈ cs, c ≤ 4000) ∧ (cs.length : Int) = sg ∧ cs.sum ≤ 4000
  | [], x, h, _, cs, hc => by simp [cnts] at hc
  | s :: ss, x, h, q, cs, hc => by
    rcases List.mem_cons.mp hc with rfl | hc
    · exact h.good
    · exact cnts_ok ss (h.lrn (q s List.mem_cons_self)) (fun z hz => q z (List.mem_cons_of_mem _ hz)) cs hc
def pil : List (List Int) → List Nat → Int → Int
  | c :: cs, s :: ss, n => uponF c s (pil cs ss n)
  | _, _, n => n
def pilM (x : Mnd) (ss : List Nat) (n : Int) : Int := pil (cnts x ss) ss n
theorem pil_drop (css : List (List Int)) (ss : List Nat) (n : Int) {j : Nat} {c : List Int} {s : Nat} (h1 : css[j]? = some c) (h2 : ss[j]? = some s) : pil (css.drop j) (ss.drop j) n = uponF c s (pil (css.drop (j + 1)) (ss.drop (j + 1)) n) := by
  obtain ⟨l1, rfl⟩ := List.getElem?_eq_some_iff.mp h1
  obtain ⟨l2, rfl⟩ := List.getElem?_eq_some_iff.mp h2
  rw [List.drop_eq_getElem_cons l1, List.drop_eq_getElem_cons l2]
  rfl
theorem pupon_le {cs : List Int} (g : Good cs) {s : Nat} (h : s < cs.length) (hS : cs.sum ≤ 4000) {n : Int} (n0 : 0 ≤ n) : n ≤ uponF cs s n ∧ uponF cs s n + 1 ≤ 4096 * (n + 1) := by
  have q := g.shr h
  have c1 := q.c1
  have A0 := q.A0
  have le := q.le
  have r0 := Int.emod_nonneg n (show cs.getD s 0 ≠ 0 by omega)
  have r1 := Int.emod_lt_of_pos n (show 0 < cs.getD s 0 by omega)
  have hd := Int.mul_ediv_add_emod n (cs.getD s 0)
  obtain ⟨d0, d1⟩ := div_le_self' n0 c1
  have e1 : n / cs.getD s 0 * cs.getD s 0 ≤ n / cs.getD s 0 * cs.sum := Int.mul_le_mul_of_nonneg_left (by omega) d0
  have e2 : n / cs.getD s 0 * cs.sum ≤ n * 4000 := Int.mul_le_mul d1 hS (by omega) n0
  rw [Int.mul_comm (cs.getD s 0)] at hd
  unfold uponF
  omega
theorem pil_le {sg : Int} : ∀ (css : List (List Int)) (ss : List Nat) {n : Int}, css.length = ss.length → (∀ cs ∈ css, Good cs ∧ (∀ c ∈ cs, c ≤ 4000) ∧ (cs.length : Int) = sg ∧ cs.sum ≤ 4000) → (∀ s ∈ ss, (s : Int) < sg) → 0 ≤ n → n ≤ pil css ss n ∧ pil css ss n + 1 ≤ 2 ^ (12 * css.length) * (n + 1)
  | [], [], n, _, _, _, _ => by simp [pil]
  | [], _ :: _, n, h, _, _, _ => by simp at h
  | _ :: _, [], n, h, _, _, _ => by simp at h
  | c :: cs, s :: ss, n, h, hc, hs, n0 => by
    have ih := pil_le cs ss (n := n) (by simpa using h) (fun z hz => hc z (List.mem_cons_of_mem _ hz)) (fun z hz => hs z (List.mem_cons_of_mem _ hz)) n0
    obtain ⟨g, _, gl, gs⟩ := hc c List.mem_cons_self
    have hs1 := hs s List.mem_cons_self
    have u := pupon_le g (show s < c.length by omega) gs (n := pil cs ss n) (by omega)
    show n ≤ uponF c s (pil cs ss n) ∧ uponF c s (pil cs ss n) + 1 ≤ _
    refine ⟨by omega, ?_⟩
    have e : (2 : Int) ^ (12 * (c :: cs).length) * (n + 1) = 4096 * (2 ^ (12 * cs.length) * (n + 1)) := by
      rw [List.length_cons, Nat.mul_succ, Int.pow_add, Int.mul_comm _ (2 ^ 12), Int.mul_assoc]
      rfl
    rw [e]
    omega
structure Und where
  m : Mnd
  ss : List Nat
  n : Int
def und (u : Und) : Und := ⟨u.m.lrn (offS u.m.now u.n), u.ss ++ [offS u.m.now u.n], offN u.m.now u.n⟩
def unds : Nat → Und → Und
  | 0, u => u
  | k + 1, u => und (unds k u)
structure UndOk (k : Nat) (u : Und) (sg mo N : Int) : Prop where
  ok : NOk 3 u.m sg mo
  n0 : 0 ≤ u.n
  n1 : u.n ≤ N
  len : u.ss.length = k
  sg : ∀ s ∈ u.ss, (s : Int) < sg
theorem UndOk.und {k : Nat} {u : Und} {sg mo N : Int} (h : UndOk k u sg mo N) : UndOk (k + 1) (und u) sg mo N := by
  have g := h.ok.good
  obtain ⟨o1, o2, o3, o4⟩ := off_upon g.1 h.n0
  have hs : ((offS u.m.now u.n : Nat) : Int) < sg := by have := g.2.2.1; omega
  have := h.n1
  refine ⟨h.ok.lrn hs, o3, by show offN u.m.now u.n ≤ N; omega, by show (u.ss ++ [_]).length = k + 1; simp [h.len], fun s q => ?_⟩
  rcases List.mem_append.mp q with q | q
  · exact h.sg s q
  · rw [List.mem_singleton.mp q]; exact hs
theorem UndOk.unds {u : Und} {sg mo N : Int} (h : UndOk 0 u sg mo N) : ∀ k, UndOk k (unds k u) sg mo N
  | 0 => h
  | k + 1 => (UndOk.unds h k).und
def spPiled (K : PySem.W.Frag) : Sp := fun vs H Q _ => ∃ x r m ss n L, vs = [x, .ref r, .int n] ∧ HS H L ∧ MdR K L x m ∧ MOk 3 m ∧ RdL K L r (iv (List.map Int.ofNat ss)) ∧ ss.length ≤ 60 ∧ (∀ s ∈ ss, (s : Int) < nsg m) ∧ 0 ≤ n ∧ n ≤ 2 ^ 1200 ∧
  ∀ H', HS H' L → Q (.int (pilM (mind m) ss n)) H'
def spUnpiled (K : PySem.W.Frag) : Sp := fun vs H Q _ => ∃ x m n k L, vs = [x, .int n, .int (k : Nat)] ∧ HS H L ∧ MdR K L x m ∧ MOk 3 m ∧ 0 ≤ n ∧ n ≤ 2 ^ 1200 ∧ k ≤ 60 ∧
  ∀ t f H', HS H' (tp t [.ref f, .int (unds k ⟨mind m, [], n⟩).n] :: pt f (.lst (iv (List.map Int.ofNat (unds k ⟨mind m, [], n⟩).ss))) :: L) → Q (.ref t) H'
def spNeedCount : Sp := fun vs H Q _ => ∃ k, vs = [.int k] ∧ 0 ≤ k ∧ k ≤ 60 ∧ Q .non H
section
variable {K : PySem.W.Frag} {H : Hp} {Q : VK} {E : XK} {L F : List SA} {p r : Addr} {x : V} {m : Mdl} {n i : Int}
theorem c_needCount {k : Int} (h0 : 0 ≤ k) (h1 : k ≤ 60) (h : Q .non H) : spNeedCount [.int k] H Q E := ⟨k, rfl, h0, h1, h⟩
theorem c_piled (ss : List Nat) [hs : HS H L] [rm : MdR K L x m] [rd : RdL K L r (iv (List.map Int.ofNat ss))] (ok : MOk 3 m) (hl : ss.length ≤ 60) (hss : ∀ s ∈ ss, (s : Int) < nsg m) (n0 : 0 ≤ n) (n1 : n ≤ 2 ^ 1200)
    (h : ∀ H', HS H' L → Q (.int (pilM (mind m) ss n)) H') : spPiled K [x, .ref r, .int n] H Q E := ⟨x, r, m, ss, n, L, rfl, hs, rm, ok, rd, hl, hss, n0, n1, h⟩
theorem c_unpiled (k : Nat) (e : i = (k : Nat)) [hs : HS H L] [rm : MdR K L x m] (ok : MOk 3 m) (n0 : 0 ≤ n) (n1 : n ≤ 2 ^ 1200) (hk : k ≤ 60)
    (h : ∀ t f H', HS H' (tp t [.ref f, .int (unds k ⟨mind m, [], n⟩).n] :: pt f (.lst (iv (List.map Int.ofNat (unds k ⟨mind m, [], n⟩).ss))) :: L) → Q (.ref t) H') : spUnpiled K [x, .int n, .int i] H Q E := ⟨x, m, n, k, L, by rw [e], hs, rm, ok, n0, n1, hk, h⟩
end
theorem big1200 {n : Int} (h : n ≤ 2 ^ 1200) : n < 2 ^ 100000 := by have := pow1200; omega
/-- what is piled is less than this -/
theorem pil_big {m : Mdl} {ss : List Nat} {n : Int} (mok : MOk 3 m) (hl : ss.length ≤ 60) (hss : ∀ s ∈ ss, (s : Int) < nsg m) (n0 : 0 ≤ n) (n1 : n ≤ 2 ^ 1200) : ∀ j, 0 ≤ pil ((cnts (mind m) ss).drop j) (ss.drop j) n ∧ pil ((cnts (mind m) ss).drop j) (ss.drop j) n < 2 ^ 100000 := fun j => by
  have hc := cnts_ok ss (NOk.begun mok) hss
  have h := pil_le (sg := nsg m) ((cnts (mind m) ss).drop j) (ss.drop j) (n := n) (by simp [cnts_len]) (fun z hz => hc z (List.mem_of_mem_drop hz)) (fun z hz => hss z (List.mem_of_mem_drop hz)) n0
  have e1 : ((2 : Int) ^ (12 * ((cnts (mind m) ss).drop j).length)) * (n + 1) ≤ 2 ^ 720 * 2 ^ 1201 := by
    refine Int.mul_le_mul ?_ ?_ (by omega) (by exact Int.pow_nonneg (by decide))
    · have : (2 : Nat) ^ (12 * ((cnts (mind m) ss).drop j).length) ≤ 2 ^ 720 := Nat.pow_le_pow_right (by decide) (by rw [List.length_drop, cnts_len]; omega)
      exact_mod_cast this
    · have : (2 : Int) ^ 1201 = 2 ^ 1200 * 2 := Int.pow_succ 2 1200
      have : (1 : Int) ≤ 2 ^ 1200 := by
        have : (2 : Nat) ^ 0 ≤ 2 ^ 1200 := Nat.pow_le_pow_right (by decide) (by decide)
        exact_mod_cast this
      omega
  rw [← Int.pow_add] at e1
  have e2 : (2 : Int) ^ (720 + 1201) < 2 ^ 100000 := by
    have : (2 : Nat) ^ (720 + 1201) < 2 ^ 100000 := Nat.pow_lt_pow_right (by decide) (by decide)
    exact_mod_cast this
  omega
end G

namespace G
open PySem L2
/-! Digits. -/
abbrev ch (b : Nat) : V := .str ⟨#[48 + b]⟩
def dgs (bs : List Nat) : Str := ⟨(bs.map (48 + ·)).toArray⟩
def valB (bs : List Nat) : Int := bs.foldl (fun (v : Int) (b : Nat) => 2 * v + (b : Int)) 0
theorem valB_snoc (bs : List Nat) (b : Nat) : valB (bs ++ [b]) = 2 * valB bs + b := by unfold valB; rw [List.foldl_append]; rfl
theorem dgs_len (bs : List Nat) : (dgs bs).length = bs.length := by simp [dgs, Str.length]
theorem dgs_at {bs : List Nat} {i c : Nat} (h : (dgs bs).cps[i]? = some c) : ∃ b, bs[i]? = some b ∧ c = 48 + b := by
  have e : (dgs bs).cps[i]? = (bs.map (48 + ·))[i]? := by unfold dgs; simp
  rw [e, List.getElem?_map] at h
  cases hb : bs[i]? with
  | none => rw [hb] at h; cases h
  | some b => rw [hb] at h; cases h; exact ⟨b, rfl, rfl⟩
theorem valB_lt : ∀ (bs : List Nat), (∀ b ∈ bs, b < 2) → 0 ≤ valB bs ∧ valB bs < 2 ^ bs.length := by
  intro bs
  have : ∀ (n : Nat) (bs : List Nat), bs.length = n → (∀ b ∈ bs, b < 2) → 0 ≤ valB bs ∧ valB bs < 2 ^ bs.length := by
    intro n
    induction n with
    | zero => intro bs h _; have : bs = [] := List.length_eq_zero_iff.mp h; subst this; exact ⟨by decide, by decide⟩
    | succ n ih =>
      intro bs h q
      have hne : bs ≠ [] := fun e => by rw [e] at h; cases h
      have e : bs = bs.dropLast ++ [bs.getLast hne] := (List.dropLast_concat_getLast hne).symm
      obtain ⟨i1, i2⟩ := ih bs.dropLast (by rw [List.length_dropLast]; omega) fun b hb => q b (List.dropLast_subset _ hb)
      have hb := q _ (List.getLast_mem hne)
      rw [e, valB_snoc, List.length_append, List.length_singleton, Int.pow_succ]
      omega
  exact this _ bs rfl
def bitsN (n : Int) (k : Nat) : List Nat := (List.range k).map fun i => (n / 2 ^ (k - 1 - i) % 2).toNat
theorem bitsN_len (n : Int) (k : Nat) : (bitsN n k).length = k := by simp [bitsN]
theorem bitsN_lt (n : Int) (k : Nat) : ∀ b ∈ bitsN n k, b < 2 := fun b hb => by
  obtain ⟨i, _, rfl⟩ := List.mem_map.mp hb
  omega
theorem bitsN_snoc (n : Int) (k : Nat) : bitsN n (k + 1) = bitsN (n / 2) k ++ [(n % 2).toNat] := by
  unfold bitsN
  rw [List.range_succ, List.map_append]
  congr 1
  · refine List.map_congr_left fun i hi => ?_
    have hi := List.mem_range.mp hi
    have e : k + 1 - 1 - i = (k - 1 - i) + 1 := by omega
    rw [e, Int.pow_succ, Int.mul_comm, Int.ediv_ediv, if_neg (fun h => absurd h.1 (by decide)), Int.sub_zero]
  · simp
theorem bitsN_val : ∀ (k : Nat) (n : Int), 0 ≤ n → n < 2 ^ k → valB (bitsN n k) = n
  | 0, n, h0, h1 => by
    have : n = 0 := by simp at h1; omega
    subst this; rfl
  | k + 1, n, h0, h1 => by
    rw [Int.pow_succ] at h1
    rw [bitsN_snoc, valB_snoc, bitsN_val k (n / 2) (by omega) (by omega)]
    omega
/-- the ceiling -/
def fewN (lo wh : Int) (k : Nat) : Int := 0 - (0 - lo * 2 ^ k) / wh
def fewOk (lo hi wh : Int) (k : Nat) : Prop := (fewN lo wh k + 1) * wh ≤ hi * 2 ^ k
instance {lo hi wh : Int} {k : Nat} : Decidable (fewOk lo hi wh k) := Int.decLe _ _
def fewF (lo hi wh : Int) : Nat → Nat → Nat
  | 0, k => k
  | f + 1, k => if fewOk lo hi wh k then k else fewF lo hi wh f (k + 1)
def fewK (lo hi wh : Int) : Nat := fewF lo hi wh 1502 0
theorem fewF_ok {lo hi wh : Int} {j : Nat} (hj : fewOk lo hi wh j) : ∀ (f k : Nat), k ≤ j → j ≤ k + f → fewOk lo hi wh (fewF lo hi wh f k) ∧ k ≤ fewF lo hi wh f k ∧ fewF lo hi wh f k ≤ j ∧ ∀ i, k ≤ i → i < fewF lo hi wh f k → ¬ fewOk lo hi wh i
  | 0, k, h1, h2 => by
    have : j = k := by omega
    subst this
    exact ⟨hj, Nat.le_refl _, Nat.le_refl _, fun i a b => by simp only [fewF] at b; omega⟩
  | f + 1, k, h1, h2 => by
    simp only [fewF]
    split
    · rename_i q
      exact ⟨q, Nat.le_refl _, h1, fun i a b => by omega⟩
    · rename_i q
      have hk : k ≠ j := fun e => q (e ▸ hj)
      obtain ⟨a, b, c, d⟩ := fewF_ok hj f (k + 1) (by omega) (by omega)
      refine ⟨a, by omega, c, fun i u v => ?_⟩
      by_cases e : i = k
      · rw [e]; exact q
      · exact d i (by omega) v
theorem fewN_ceil {lo wh : Int} (hw : 1 ≤ wh) (k : Nat) : lo * 2 ^ k ≤ fewN lo wh k * wh ∧ fewN lo wh k * wh < lo * 2 ^ k + wh := by
  have h1 := Int.mul_ediv_add_emod (0 - lo * 2 ^ k) wh
  have h2 := Int.emod_nonneg (0 - lo * 2 ^ k) (show wh ≠ 0 by omega)
  have h3 := Int.emod_lt_of_pos (0 - lo * 2 ^ k) (show 0 < wh by omega)
  unfold fewN
  rw [Int.sub_mul, Int.mul_comm ((0 - lo * 2 ^ k) / wh)]
  omega
structure FewOk (lo hi wh : Int) : Prop where
  lo0 : 0 ≤ lo
  lt : lo < hi
  hi1 : hi ≤ 2 ^ 1500
  wh1 : 1 ≤ wh
  wh2 : wh ≤ 2 ^ 1500
theorem FewOk.ex {lo hi wh : Int} (h : FewOk lo hi wh) : fewOk lo hi wh 1501 := by
  obtain ⟨c1, c2⟩ := fewN_ceil (lo := lo) h.wh1 1501
  have e1 : (2 : Int) ^ 1501 = 2 * 2 ^ 1500 := pow_half (by decide)
  have e2 : lo * 2 ^ 1501 + 2 ^ 1501 ≤ hi * 2 ^ 1501 := by
    have := Int.mul_le_mul_of_nonneg_right (show lo + 1 ≤ hi from h.lt) (show (0 : Int) ≤ 2 ^ 1501 by have := ipow_pos 1501; omega)
    rw [Int.add_mul, Int.one_mul] at this
    exact this
  have := h.wh2
  unfold fewOk
  rw [Int.add_mul, Int.one_mul]
  omega
theorem FewOk.few {lo hi wh : Int} (h : FewOk lo hi wh) : fewOk lo hi wh (fewK lo hi wh) ∧ fewK lo hi wh ≤ 1501 ∧ ∀ i, i < fewK lo hi wh → ¬ fewOk lo hi wh i := by
  obtain ⟨a, b, c, d⟩ := fewF_ok h.ex 1502 0 (by decide) (by decide)
  exact ⟨a, c, fun i hi => d i (Nat.zero_le _) hi⟩
theorem FewOk.le {lo hi wh : Int} (h : FewOk lo hi wh) {j : Nat} (hj : fewOk lo hi wh j) : fewK lo hi wh ≤ j := by
  rcases Nat.lt_or_ge j (fewK lo hi wh) with q | q
  · exact absurd hj (h.few.2.2 j q)
  · exact q
theorem FewOk.n0 {lo hi wh : Int} (h : FewOk lo hi wh) (k : Nat) : 0 ≤ fewN lo wh k := by
  obtain ⟨c1, c2⟩ := fewN_ceil (lo := lo) h.wh1 k
  have p := ipow_pos k
  have e := Int.mul_nonneg h.lo0 (show (0 : Int) ≤ 2 ^ k by omega)
  rcases Int.lt_or_le (fewN lo wh k) 0 with q | q
  · have : fewN lo wh k * wh ≤ (-1) * wh := Int.mul_le_mul_of_nonneg_right (by omega) (by have := h.wh1; omega)
    have := h.wh1
    omega
  · exact q
theorem FewOk.n1 {lo hi wh : Int} (h : FewOk lo hi wh) (k : Nat) : fewN lo wh k ≤ 2 ^ (1500 + k) := by
  obtain ⟨c1, c2⟩ := fewN_ceil (lo := lo) h.wh1 k
  have p := ipow_pos k
  have n0 := h.n0 k
  have e : lo * 2 ^ k ≤ (2 ^ 1500 - 1) * 2 ^ k := Int.mul_le_mul_of_nonneg_right (by have := h.lt; have := h.hi1; omega) (by omega)
  have e2 : (fewN lo wh k - 1) * 1 ≤ (fewN lo wh k - 1) * wh ∨ fewN lo wh k = 0 := by
    by_cases z : fewN lo wh k = 0
    · exact .inr z
    · exact .inl (Int.mul_le_mul_of_nonneg_left h.wh1 (by omega))
  rw [Int.pow_add]
  have q := ipow_pos 1500
  rw [Int.sub_mul, Int.one_mul] at e
  have h2 : (0 : Int) ≤ 2 ^ 1500 * 2 ^ k := Int.mul_nonneg (by omega) (by omega)
  rcases e2 with e2 | e2
  · rw [Int.sub_mul, Int.sub_mul, Int.one_mul] at e2
    omega
  · omega
/-! what is read -/
def stK (R : It → Hp → Prop) (x : V) (H1 : Hp) : Prop := ∃ z, x = .str z ∧ R (Its z) H1
def rJoin (K : PySem.W.Frag) : V → List V → Hp → VK → Prop := fun x xs H Q => ∃ a p, ∃ ys : List Str, x = .str a ∧ xs = [.ref p] ∧ (SqL K H p (ys.map V.str) ∨ SqT K H p (ys.map V.str)) ∧ (ys.map (·.length)).sum + ys.length * a.length ≤ 16777216 ∧ Q (.str (Txt.join a ys)) H
def tJoin (K : PySem.W.Frag) (to te : TE) : TE := tM1 (rJoin K) to te
def joK (K : PySem.W.Frag) (te : TE) (σ : L2.St) (Q : VK) (x : V) (H1 : Hp) : Prop := (∃ a, x = .str a) ∧ te σ H1 fun y H2 => rJoin K x [y] H2 Q
section
open PySem PySem.Spec PyProof.Rows
theorem pe_joinK {X : Cx} {K : PySem.W.Frag} (h : X.K = K) {o e : Expr} {to te : TE} {apos pos : Pos} (ho : PE X o to) (he : PE X e te) (hs : starEach [e] X.env = [(false, eval e X.env)] := by rfl) (hbase : attributeBase o "join" X.env (eval o X.env) = eval o X.env := by rfl) (hline : (apos.endLine == pos.line) = true := by rfl) :
    PE X (.Call (.Attribute o "join" apos) [e] [] pos) (tJoin K to te) := by
  subst h; exact pe_join ho he hs hbase hline
end
theorem join_bits (bs : List Nat) : Txt.join (Str.ofString "") (bs.map fun b => (⟨#[48 + b]⟩ : Str)) = dgs bs := by
  rw [show Str.ofString "" = (⟨#[]⟩ : Str) from rfl]
  show Builtin.Str.glued (⟨#[]⟩ : Str) _ = _
  rw [StrLaws.glued_eq_join]
  have := PyProof.Rows.join_ones (bs.map (48 + ·))
  rw [List.map_map] at this
  exact this
section
variable {K : PySem.W.Frag} {σ : L2.St} {H : Hp} {Q : VK} {E : XK} {L F : List SA} {p r : Addr} {D : Ends} {g : TG} {te : TE} {x : V} {m : Mdl} {i n lo hi wh : Int} {b : Nat}
theorem s_anySK {R : It → Hp → Prop} (h : te σ H fun x H1 => stK R x H1) : iAny K te σ H R := .inr (.inr h)
theorem s_stK {R : It → Hp → Prop} {z : Str} (h : R (Its z) H) : stK R (.str z) H := ⟨z, rfl, h⟩
theorem f_str {tb : TS} (bs : List Nat) (Pv : Nat → L2.St → Hp → Prop) (h0 : Pv 0 σ H)
    (hs : ∀ i b σ H, bs[i]? = some b → Pv i σ H → g (ch b) σ H fun σ2 H2 => tb { D with nx := Pv (i + 1), ct := Pv (i + 1), bk := D.nx } σ2 H2) (hd : ∀ σ H, Pv bs.length σ H → D.nx σ H) : forK g tb D σ (Its (dgs bs)) H := by
  have e : (dgs bs).cps.size = bs.length := by simp [dgs]
  exact for_it walk_str Pv h0 (fun _ _ _ _ _ => trivial) (fun i x σ H H' _ pv y => by
    obtain ⟨rfl, c, hc, rfl⟩ := y
    obtain ⟨b, hb, rfl⟩ := dgs_at hc
    exact hs i b σ H' hb pv) (by rw [e]; exact hd)
theorem c_str {tt : TT} {vs : List Nat} (bs : List Nat) [hs0 : HS H L] (Pv : Addr → Nat → Hp → Prop) (h0 : ∀ D H', HS H' (pt D (.lst []) :: L) → Pv D 0 H')
    (hs : ∀ D i b H, bs[i]? = some b → Pv D i H → g (ch b) (wipe σ vs) H fun σ2 H2 => wipe σ2 vs = wipe σ vs ∧ tt σ2 H2 fun b H3 => if b = true then te σ2 H3 fun y H4 => accK D (Pv D (i + 1)) y H4 else Pv D (i + 1) H3)
    (hd : ∀ D H, Pv D bs.length H → Q (.ref D) H) : lcK g tt te vs σ Q (Its (dgs bs)) H := fun D hD => by
  have e : (dgs bs).cps.size = bs.length := by simp [dgs]
  exact lc_it walk_str (Pv D) (h0 D _ (hs0.new hD id)) (fun _ _ _ _ => trivial) (fun i x H H' _ pv y => by
    obtain ⟨rfl, c, hc, rfl⟩ := y
    obtain ⟨b, hb, rfl⟩ := dgs_at hc
    exact hs D i b H' hb pv) (by rw [e]; exact hd D)
theorem c_rng3 {tt : TT} {vs : List Nat} {lo c : Int} {n : Nat} [hs0 : HS H L] (Pv : Addr → Nat → Hp → Prop) (h0 : ∀ D H', HS H' (pt D (.lst []) :: L) → Pv D 0 H')
    (hs : ∀ D i H, i < n → Pv D i H → g (.int (lo + (i : Nat) * c)) (wipe σ vs) H fun σ2 H2 => wipe σ2 vs = wipe σ vs ∧ tt σ2 H2 fun b H3 => if b = true then te σ2 H3 fun y H4 => accK D (Pv D (i + 1)) y H4 else Pv D (i + 1) H3)
    (hd : ∀ D H, Pv D n H → Q (.ref D) H) : lcK g tt te vs σ Q (Itc lo c n) H := fun D hD =>
  lc_it walk_rangeC (Pv D) (h0 D _ (hs0.new hD id)) (fun _ _ _ _ => trivial) (fun i x H H' hi pv y => by
    obtain ⟨rfl, rfl⟩ := y
    exact hs D i H' hi pv) (hd D)
theorem s_join {to : TE} (h : to σ H fun x H1 => joK K te σ Q x H1) : tJoin K to te σ H Q := h
theorem s_joK {a : Str} (h : te σ H fun y H2 => rJoin K (.str a) [y] H2 Q) : joK K te σ Q (.str a) H := ⟨⟨a, rfl⟩, h⟩
theorem s_joinB (bs : List Nat) [hs : HS H L] [m : RdL K L p (bs.map ch)] (hl : bs.length ≤ 100000) (h : Q (.str (dgs bs)) H) : rJoin K (.str (Str.ofString "")) [.ref p] H Q := by
  refine ⟨_, p, bs.map fun b => (⟨#[48 + b]⟩ : Str), rfl, rfl, .inl ?_, ?_, ?_⟩
  · rw [List.map_map]; exact m.sq hs
  · have : ((bs.map fun b => (⟨#[48 + b]⟩ : Str)).map (·.length)).sum = bs.length := by
      clear h m hs hl
      induction bs with
      | nil => rfl
      | cons a l ih => rw [List.map_cons, List.map_cons, List.sum_cons, ih]; show 1 + l.length = l.length + 1; omega
    rw [this]
    have e0 : (Str.ofString "").length = 0 := by decide
    rw [e0]; omega
  · rw [join_bits]; exact h
theorem s_intC (hb : b < 2) (h : Q (.int b) H) : rIntG [ch b] H Q := by
  refine .inr ⟨_, (b : Int), rfl, ?_, ?_, h⟩
  · have : b = 0 ∨ b = 1 := by omega
    rcases this with rfl | rfl <;> decide +kernel
  · show 1 ≤ 640; decide
theorem s_notIn01 (hb : b < 2) (h : Q (.bl false) H) : rNotInG K (ch b) (.str (Str.ofString "01")) H Q := by
  refine .inl ⟨48 + b, _, rfl, rfl, ?_⟩
  have : b = 0 ∨ b = 1 := by omega
  rcases this with rfl | rfl
  · rw [show (!decide (48 + 0 ∈ (Str.ofString "01").cps.toList)) = false by decide]; exact h
  · rw [show (!decide (48 + 1 ∈ (Str.ofString "01").cps.toList)) = false by decide]; exact h
theorem s_strB {i : Int} (h0 : 0 ≤ i) (h1 : i < 2) (h : Q (ch i.toNat) H) : rStrI [.int i] H Q := by
  have : i = 0 ∨ i = 1 := by omega
  rcases this with rfl | rfl
  · exact ⟨0, rfl, by decide, h⟩
  · exact ⟨1, rfl, by decide, h⟩
end
def spNeedDigits : Sp := fun vs H Q _ => ∃ bs L, vs = [.str (dgs bs)] ∧ (∀ b ∈ bs, b < 2) ∧ bs.length ≤ 900 ∧ HS H L ∧ ∀ H', HS H' L → Q .non H'
def spNumberOf : Sp := fun vs H Q _ => ∃ bs, vs = [.str (dgs bs)] ∧ (∀ b ∈ bs, b < 2) ∧ bs.length ≤ 2000 ∧ Q (.int (valB bs)) H
def spDigitsOf : Sp := fun vs H Q _ => ∃ n k L, vs = [.int n, .int (k : Nat)] ∧ 0 ≤ n ∧ k ≤ 2000 ∧ HS H L ∧ ∀ H', HS H' L → Q (.str (dgs (bitsN n k))) H'
def spFewest : Sp := fun vs H Q _ => ∃ lo hi wh L, vs = [.int lo, .int hi, .int wh] ∧ FewOk lo hi wh ∧ HS H L ∧ ∀ t H', HS H' (tp t [.int (fewN lo wh (fewK lo hi wh)), .int (fewK lo hi wh : Nat)] :: L) → Q (.ref t) H'
def codeK (y : Nar) : Nat := fewK y.lo (y.lo + y.wd) y.pa
def codeB (y : Nar) : List Nat := bitsN (fewN y.lo y.pa (codeK y)) (codeK y)
theorem NarOk.few {k : Nat} {x : Nar} {sg mo : Int} (h : NarOk k x sg mo) (hk : k ≤ 70) : FewOk x.lo (x.lo + x.wd) x.pa := by
  obtain ⟨b1, b2, b3⟩ := h.big hk
  have e : (2 : Int) ^ 840 ≤ 2 ^ 1500 := ipow_le (by decide)
  have := h.le
  exact ⟨h.lo0, by have := h.wd0; omega, by omega, by have := h.wd0; have := h.lo0; omega, by omega⟩
def spCode (K : PySem.W.Frag) : Sp := fun vs H Q _ => ∃ x r m ss L, vs = [x, .ref r] ∧ HS H L ∧ MdR K L x m ∧ MOk 3 m ∧ RdL K L r (iv (List.map Int.ofNat ss)) ∧ ss.length ≤ 60 ∧ (∀ s ∈ ss, (s : Int) < nsg m) ∧
  ∀ H', HS H' L → Q (.str (dgs (codeB (nars (nar0 m) ss)))) H'
section
variable {K : PySem.W.Frag} {H : Hp} {Q : VK} {E : XK} {L F : List SA} {p r : Addr} {x : V} {m : Mdl} {i n lo hi wh : Int}
theorem c_needDigits (bs : List Nat) (hb : ∀ b ∈ bs, b < 2) (hl : bs.length ≤ 900) [hs : HS H L] (h : ∀ H', HS H' L → Q .non H') : spNeedDigits [.str (dgs bs)] H Q E := ⟨bs, L, rfl, hb, hl, hs, h⟩
theorem c_numberOf (bs : List Nat) (hb : ∀ b ∈ bs, b < 2) (hl : bs.length ≤ 2000) (h : Q (.int (valB bs)) H) : spNumberOf [.str (dgs bs)] H Q E := ⟨bs, rfl, hb, hl, h⟩
theorem c_digitsOf (k : Nat) (e : i = (k : Nat)) (n0 : 0 ≤ n) (hk : k ≤ 2000) [hs : HS H L] (h : ∀ H', HS H' L → Q (.str (dgs (bitsN n k))) H') : spDigitsOf [.int n, .int i] H Q E := ⟨n, k, L, by rw [e], n0, hk, hs, h⟩
theorem c_fewest (ok : FewOk lo hi wh) [hs : HS H L] (h : ∀ t H', HS H' (tp t [.int (fewN lo wh (fewK lo hi wh)), .int (fewK lo hi wh : Nat)] :: L) → Q (.ref t) H') : spFewest [.int lo, .int hi, .int wh] H Q E := ⟨lo, hi, wh, L, rfl, ok, hs, h⟩
theorem c_code (ss : List Nat) [hs : HS H L] [rm : MdR K L x m] [rd : RdL K L r (iv (List.map Int.ofNat ss))] (ok : MOk 3 m) (hl : ss.length ≤ 60) (hss : ∀ s ∈ ss, (s : Int) < nsg m)
    (h : ∀ H', HS H' L → Q (.str (dgs (codeB (nars (nar0 m) ss)))) H') : spCode K [x, .ref r] H Q E := ⟨x, r, m, ss, L, rfl, hs, rm, ok, rd, hl, hss, h⟩
end
end G

namespace G
open PySem L2
/-! How long codes are. -/
theorem few_wide {lo hi wh : Int} (h : FewOk lo hi wh) : wh ≤ (hi - lo) * 2 ^ fewK lo hi wh ∧ (1 ≤ fewK lo hi wh → (hi - lo) * 2 ^ (fewK lo hi wh - 1) < 2 * wh) := by
  obtain ⟨a, b, c⟩ := h.few
  have hw := h.wh1
  constructor
  · obtain ⟨c1, c2⟩ := fewN_ceil (lo := lo) hw (fewK lo hi wh)
    unfold fewOk at a
    rw [Int.add_mul, Int.one_mul] at a
    rw [Int.sub_mul]
    omega
  · intro h1
    have hn := c (fewK lo hi wh - 1) (by omega)
    obtain ⟨c1, c2⟩ := fewN_ceil (lo := lo) hw (fewK lo hi wh - 1)
    unfold fewOk at hn
    rw [Int.add_mul, Int.one_mul] at hn
    rw [Int.sub_mul]
    omega
theorem nar_in {k : Nat} {x : Nar} {sg mo : Int} {s : Nat} (h : NarOk k x sg mo) (hs : (s : Int) < sg) : (nar x s).pa = x.pa * x.m.now.sum ∧ x.lo * x.m.now.sum ≤ (nar x s).lo ∧ (nar x s).lo + (nar x s).wd ≤ (x.lo + x.wd) * x.m.now.sum := by
  obtain ⟨hl, c1, t0, tc, s1, s4⟩ := h.cs hs
  have wd0 := h.wd0
  have e2 : 0 ≤ x.wd * (x.m.now.take s).sum := Int.mul_nonneg (by omega) t0
  have e4 : x.wd * (x.m.now.take s).sum + x.wd * x.m.now.getD s 0 ≤ x.wd * x.m.now.sum := by
    rw [← Int.mul_add]; exact Int.mul_le_mul_of_nonneg_left tc (by omega)
  refine ⟨rfl, ?_, ?_⟩
  · show x.lo * x.m.now.sum ≤ x.lo * x.m.now.sum + x.wd * (x.m.now.take s).sum; omega
  · show x.lo * x.m.now.sum + x.wd * (x.m.now.take s).sum + x.wd * x.m.now.getD s 0 ≤ _
    rw [Int.add_mul]; omega
theorem code_nar {k : Nat} {x : Nar} {sg mo : Int} {s : Nat} (h : NarOk k x sg mo) (hk : k ≤ 69) (hs : (s : Int) < sg) : codeK x ≤ codeK (nar x s) := by
  obtain ⟨e1, e2, e3⟩ := nar_in h hs
  obtain ⟨hl, c1, t0, tc, s1, s4⟩ := h.cs hs
  have fx := h.few (by omega)
  have fy := (h.nar hs).few (by omega)
  refine fx.le ?_
  have hok := fy.few.1
  obtain ⟨y1, y2⟩ := fewN_ceil (lo := (nar x s).lo) fy.wh1 (codeK (nar x s))
  obtain ⟨x1, x2⟩ := fewN_ceil (lo := x.lo) fx.wh1 (codeK (nar x s))
  have hok : fewOk (nar x s).lo ((nar x s).lo + (nar x s).wd) (nar x s).pa (codeK (nar x s)) := hok
  unfold fewOk at hok ⊢
  generalize codeK (nar x s) = j at *
  generalize fewN (nar x s).lo (nar x s).pa j = c at *
  generalize fewN x.lo x.pa j = d at *
  have hp := ipow_pos j
  have hS : 0 < x.m.now.sum := by omega
  rw [e1] at y1 y2 hok
  -- c * pa * S ≥ lo * S * 2^j, so d ≤ c
  have q1 : x.lo * 2 ^ j ≤ c * x.pa := by
    have a1 : x.lo * x.m.now.sum * 2 ^ j ≤ (nar x s).lo * 2 ^ j := Int.mul_le_mul_of_nonneg_right e2 (by omega)
    have a2 : (x.lo * 2 ^ j) * x.m.now.sum ≤ (c * x.pa) * x.m.now.sum := by
      have f1 : x.lo * x.m.now.sum * 2 ^ j = x.lo * 2 ^ j * x.m.now.sum := by simp only [Int.mul_assoc, Int.mul_comm, Int.mul_left_comm]
      have f2 : c * (x.pa * x.m.now.sum) = c * x.pa * x.m.now.sum := by simp only [Int.mul_assoc]
      rw [f1] at a1
      rw [f2] at y1
      omega
    exact Int.le_of_mul_le_mul_right a2 hS
  have q2 : (c + 1) * x.pa ≤ (x.lo + x.wd) * 2 ^ j := by
    have a1 : ((nar x s).lo + (nar x s).wd) * 2 ^ j ≤ (x.lo + x.wd) * x.m.now.sum * 2 ^ j := Int.mul_le_mul_of_nonneg_right e3 (by omega)
    have f1 : (x.lo + x.wd) * x.m.now.sum * 2 ^ j = (x.lo + x.wd) * 2 ^ j * x.m.now.sum := by simp only [Int.mul_assoc, Int.mul_comm, Int.mul_left_comm]
    have f2 : (c + 1) * (x.pa * x.m.now.sum) = (c + 1) * x.pa * x.m.now.sum := by simp only [Int.mul_assoc]
    rw [f1] at a1
    rw [f2] at hok
    exact Int.le_of_mul_le_mul_right (by omega : (c + 1) * x.pa * x.m.now.sum ≤ (x.lo + x.wd) * 2 ^ j * x.m.now.sum) hS
  have q3 : d ≤ c := by
    rcases Int.lt_or_le c d with q | q
    · have : (c + 1) * x.pa ≤ d * x.pa := Int.mul_le_mul_of_nonneg_right (by omega) (by have := fx.wh1; omega)
      rw [Int.add_mul, Int.one_mul] at this
      omega
    · exact q
  have : (d + 1) * x.pa ≤ (c + 1) * x.pa := Int.mul_le_mul_of_nonneg_right (by omega) (by have := fx.wh1; omega)
  omega
theorem code_nil (m : Mdl) : codeK (nar0 m) = 0 := by
  have h : FewOk (nar0 m).lo ((nar0 m).lo + (nar0 m).wd) (nar0 m).pa := by
    have := ipow_pos 1500
    exact ⟨by show (0 : Int) ≤ 0; decide, by show (0 : Int) < 0 + 1; decide, by show (0 : Int) + 1 ≤ _; omega, by show (1 : Int) ≤ 1; decide, by show (1 : Int) ≤ _; omega⟩
  have := h.le (j := 0) (by show (fewN 0 1 0 + 1) * 1 ≤ (0 + 1) * 2 ^ 0; decide)
  exact Nat.le_zero.mp this
theorem code_init {m : Mdl} {ss : List Nat} (mok : MOk 3 m) (hl : ss.length ≤ 60) (hss : ∀ s ∈ ss, (s : Int) < nsg m) (hne : ss ≠ []) : codeK (nars (nar0 m) ss.dropLast) ≤ codeK (nars (nar0 m) ss) := by
  have e : ss = ss.dropLast ++ [ss.getLast hne] := (List.dropLast_concat_getLast hne).symm
  have nk := (NarOk.begun mok).nars ss.dropLast fun s hs => hss s (List.dropLast_subset _ hs)
  have := code_nar nk (by rw [List.length_dropLast]; omega) (hss _ (List.getLast_mem hne))
  rw [← nars_snoc, ← e] at this
  exact this
theorem codeB_len (y : Nar) : (codeB y).length = codeK y := bitsN_len _ _
theorem codeB_lt (y : Nar) : ∀ b ∈ codeB y, b < 2 := bitsN_lt _ _
end G

namespace G
open PySem L2
/-! Rounded stretches against exact ones. -/
theorem rn_mind (R : Nat) : ∀ (ss : List Nat) (x : Rnd) (y : Nar), x.m = y.m → (rnds R x ss).m = (nars y ss).m
  | [], x, y, h => h
  | s :: ss, x, y, h => rn_mind R ss (rnd R x s) (nar y s) (by show x.m.lrn s = y.m.lrn s; rw [h])
/-- no wider -/
theorem rn_le {R k : Nat} {x : Rnd} {y : Nar} {sg mo : Int} {s : Nat} (ok : RndOk R k x sg mo) (oy : NarOk k y sg mo) (hs : (s : Int) < sg) (em : x.m = y.m) (h : x.wd * y.pa ≤ y.wd * 2 ^ (R + x.mn)) :
    (rnd R x s).wd * (nar y s).pa ≤ (nar y s).wd * 2 ^ (R + (rnd R x s).mn) := by
  obtain ⟨cl, c1, t0, tc, q1, q4, m4⟩ := ok.cs hs
  obtain ⟨p4, pm, pw⟩ := ok.part hs
  have hT := ipow_pos (rsh R x s)
  have hpa : 0 ≤ y.pa := by have := oy.le; have := oy.lo0; have := oy.wd0; omega
  have hcT : 0 ≤ x.m.now.getD s 0 * 2 ^ rsh R x s := Int.mul_nonneg (by omega) (by omega)
  show rpart x * x.m.now.getD s 0 * 2 ^ rsh R x s * (y.pa * y.m.now.sum) ≤ y.wd * y.m.now.getD s 0 * 2 ^ (R + (x.mn + rsh R x s))
  rw [← em, ← Nat.add_assoc, Int.pow_add]
  have e1 : rpart x * x.m.now.sum * (y.pa * (x.m.now.getD s 0 * 2 ^ rsh R x s)) ≤ x.wd * (y.pa * (x.m.now.getD s 0 * 2 ^ rsh R x s)) := Int.mul_le_mul_of_nonneg_right pm (Int.mul_nonneg hpa hcT)
  have e2 : x.wd * y.pa * (x.m.now.getD s 0 * 2 ^ rsh R x s) ≤ y.wd * 2 ^ (R + x.mn) * (x.m.now.getD s 0 * 2 ^ rsh R x s) := Int.mul_le_mul_of_nonneg_right h hcT
  have f1 : rpart x * x.m.now.getD s 0 * 2 ^ rsh R x s * (y.pa * x.m.now.sum) = rpart x * x.m.now.sum * (y.pa * (x.m.now.getD s 0 * 2 ^ rsh R x s)) := by simp only [Int.mul_assoc, Int.mul_comm, Int.mul_left_comm]
  have f2 : x.wd * (y.pa * (x.m.now.getD s 0 * 2 ^ rsh R x s)) = x.wd * y.pa * (x.m.now.getD s 0 * 2 ^ rsh R x s) := by simp only [Int.mul_assoc]
  have f3 : y.wd * x.m.now.getD s 0 * (2 ^ (R + x.mn) * 2 ^ rsh R x s) = y.wd * 2 ^ (R + x.mn) * (x.m.now.getD s 0 * 2 ^ rsh R x s) := by simp only [Int.mul_assoc, Int.mul_comm, Int.mul_left_comm]
  rw [f1, f3]
  rw [f2] at e1
  omega
/-- a part by itself, in wholes -/
theorem part_half {R k : Nat} {x : Rnd} {sg mo : Int} {s : Nat} (ok : RndOk R k x sg mo) (hs : (s : Int) < sg) : x.wd * (2 ^ (R - 1) - mo) ≤ rpart x * x.m.now.sum * 2 ^ (R - 1) := by
  obtain ⟨cl, c1, t0, tc, q1, q4, m4⟩ := ok.cs hs
  have hh := ipow_pos (R - 1)
  have hw := ok.wd0
  have e0 : x.wd - x.m.now.sum ≤ rpart x * x.m.now.sum := by
    have h1 := Int.emod_lt_of_pos x.wd (show 0 < x.m.now.sum by omega)
    have h2 := Int.mul_ediv_add_emod x.wd x.m.now.sum
    have h3 : x.m.now.sum * (x.wd / x.m.now.sum) = rpart x * x.m.now.sum := Int.mul_comm _ _
    omega
  have e1 : (x.wd - x.m.now.sum) * 2 ^ (R - 1) ≤ rpart x * x.m.now.sum * 2 ^ (R - 1) := Int.mul_le_mul_of_nonneg_right e0 (by omega)
  have e2 : x.m.now.sum * 2 ^ (R - 1) ≤ mo * x.wd := Int.mul_le_mul q4 hw (by omega) (by omega)
  rw [Int.mul_sub, Int.mul_comm x.wd mo]
  rw [Int.sub_mul] at e1
  omega
theorem rn_ge {R k n : Nat} {x : Rnd} {y : Nar} {sg mo : Int} {s : Nat} (ok : RndOk R k x sg mo) (oy : NarOk k y sg mo) (hs : (s : Int) < sg) (em : x.m = y.m) (hD : 0 ≤ (2 : Int) ^ (R - 1) - mo)
    (h : y.wd * 2 ^ (R + x.mn) * (2 ^ (R - 1) - mo) ^ n ≤ x.wd * y.pa * (2 ^ (R - 1)) ^ n) :
    (nar y s).wd * 2 ^ (R + (rnd R x s).mn) * (2 ^ (R - 1) - mo) ^ (n + 1) ≤ (rnd R x s).wd * (nar y s).pa * (2 ^ (R - 1)) ^ (n + 1) := by
  obtain ⟨cl, c1, t0, tc, q1, q4, m4⟩ := ok.cs hs
  have hq := part_half ok hs
  have hT := ipow_pos (rsh R x s)
  have hpa : 0 ≤ y.pa := by have := oy.le; have := oy.lo0; have := oy.wd0; omega
  have hcT : 0 ≤ x.m.now.getD s 0 * 2 ^ rsh R x s := Int.mul_nonneg (by omega) (by omega)
  have hh := ipow_pos (R - 1)
  have hhn : (0 : Int) ≤ (2 ^ (R - 1)) ^ n := by rw [← Int.pow_mul]; have := ipow_pos ((R - 1) * n); omega
  show y.wd * y.m.now.getD s 0 * 2 ^ (R + (x.mn + rsh R x s)) * (2 ^ (R - 1) - mo) ^ (n + 1) ≤ rpart x * x.m.now.getD s 0 * 2 ^ rsh R x s * (y.pa * y.m.now.sum) * (2 ^ (R - 1)) ^ (n + 1)
  rw [← em, ← Nat.add_assoc, Int.pow_add, Int.pow_succ, Int.pow_succ]
  generalize (2 : Int) ^ (R - 1) - mo = D at *
  generalize (2 : Int) ^ (R - 1) = hf at *
  generalize (2 : Int) ^ (R + x.mn) = E at *
  generalize (2 : Int) ^ rsh R x s = T at *
  generalize x.m.now.getD s 0 = c at *
  generalize D ^ n = Dn at *
  generalize hf ^ n = hn at *
  have e1 : y.wd * E * Dn * (D * (c * T)) ≤ x.wd * y.pa * hn * (D * (c * T)) := Int.mul_le_mul_of_nonneg_right h (Int.mul_nonneg hD hcT)
  have e2 : x.wd * D * (y.pa * hn * (c * T)) ≤ rpart x * x.m.now.sum * hf * (y.pa * hn * (c * T)) := Int.mul_le_mul_of_nonneg_right hq (Int.mul_nonneg (Int.mul_nonneg hpa hhn) hcT)
  have f1 : y.wd * c * (E * T) * (Dn * D) = y.wd * E * Dn * (D * (c * T)) := by simp only [Int.mul_assoc, Int.mul_comm, Int.mul_left_comm]
  have f2 : x.wd * y.pa * hn * (D * (c * T)) = x.wd * D * (y.pa * hn * (c * T)) := by simp only [Int.mul_assoc, Int.mul_comm, Int.mul_left_comm]
  have f3 : rpart x * c * T * (y.pa * x.m.now.sum) * (hn * hf) = rpart x * x.m.now.sum * hf * (y.pa * hn * (c * T)) := by simp only [Int.mul_assoc, Int.mul_comm, Int.mul_left_comm]
  rw [f1, f3]
  rw [f2] at e1
  omega
theorem rn_all {R : Nat} {sg mo : Int} : ∀ (ss : List Nat) {k n : Nat} {x : Rnd} {y : Nar}, RndOk R k x sg mo → NarOk k y sg mo → (∀ s ∈ ss, (s : Int) < sg) → x.m = y.m → 0 ≤ (2 : Int) ^ (R - 1) - mo →
    x.wd * y.pa ≤ y.wd * 2 ^ (R + x.mn) → y.wd * 2 ^ (R + x.mn) * (2 ^ (R - 1) - mo) ^ n ≤ x.wd * y.pa * (2 ^ (R - 1)) ^ n →
    (rnds R x ss).wd * (nars y ss).pa ≤ (nars y ss).wd * 2 ^ (R + (rnds R x ss).mn) ∧ (nars y ss).wd * 2 ^ (R + (rnds R x ss).mn) * (2 ^ (R - 1) - mo) ^ (n + ss.length) ≤ (rnds R x ss).wd * (nars y ss).pa * (2 ^ (R - 1)) ^ (n + ss.length)
  | [], k, n, x, y, _, _, _, _, _, h1, h2 => ⟨h1, h2⟩
  | s :: ss, k, n, x, y, ok, oy, hs, em, hD, h1, h2 => by
    have hs1 := hs s List.mem_cons_self
    have := rn_all ss (ok.rnd hs1) (oy.nar hs1) (fun z hz => hs z (List.mem_cons_of_mem _ hz)) (show x.m.lrn s = y.m.lrn s by rw [em]) hD (rn_le ok oy hs1 em h1) (rn_ge ok oy hs1 em hD h2)
    rw [List.length_cons, show n + (ss.length + 1) = n + 1 + ss.length by omega]
    exact this
theorem rn_first {R : Nat} {m : Mdl} {ss : List Nat} (mok : MOk 3 m) (r4 : 4 ≤ R) (r20 : R ≤ 20) (h8 : 8 * mst m ≤ 2 ^ R) (hss : ∀ s ∈ ss, (s : Int) < nsg m) :
    (rnds R (rnd0 R m) ss).wd * (nars (nar0 m) ss).pa ≤ (nars (nar0 m) ss).wd * 2 ^ (R + (rnds R (rnd0 R m) ss).mn) ∧ (nars (nar0 m) ss).wd * 2 ^ (R + (rnds R (rnd0 R m) ss).mn) * (2 ^ (R - 1) - mst m) ^ ss.length ≤ (rnds R (rnd0 R m) ss).wd * (nars (nar0 m) ss).pa * (2 ^ (R - 1)) ^ ss.length := by
  have e := pow_half (show 1 ≤ R by omega)
  have hm := mok.mst
  have := rn_all (n := 0) ss (RndOk.begun mok r4 r20 h8) (NarOk.begun mok) hss rfl (by omega) (by show (2 : Int) ^ R * 1 ≤ 1 * 2 ^ (R + 0); simp) (by show (1 : Int) * 2 ^ (R + 0) * (2 ^ (R - 1) - mst m) ^ 0 ≤ 2 ^ R * 1 * (2 ^ (R - 1)) ^ 0; simp)
  rw [Nat.zero_add] at this
  exact this
theorem mul_pow_le {x y : Int} {a b : Nat} (hx : 0 ≤ x ∧ x ≤ 2 ^ a) (hy : 0 ≤ y ∧ y ≤ 2 ^ b) : 0 ≤ x * y ∧ x * y ≤ 2 ^ (a + b) := by
  refine ⟨Int.mul_nonneg hx.1 hy.1, ?_⟩
  rw [Int.pow_add]
  exact Int.mul_le_mul hx.2 hy.2 hy.1 (by have := ipow_pos a; omega)
theorem pow_le_pow {b : Int} {a : Nat} (h0 : 0 ≤ b) (h1 : b ≤ 2 ^ a) : ∀ n : Nat, 0 ≤ b ^ n ∧ b ^ n ≤ 2 ^ (a * n)
  | 0 => by simp
  | n + 1 => by
    have ih := pow_le_pow h0 h1 n
    have := mul_pow_le ih ⟨h0, h1⟩
    rw [Int.pow_succ, Nat.mul_succ]
    exact this
theorem s_min2' {K : PySem.W.Frag} {H : Hp} {Q : VK} {i j : Int} (h : ∀ z, z ≤ i → z ≤ j → (z = i ∨ z = j) → Q (.int z) H) : rMinG K [.int i, .int j] H Q := by
  refine .inl ⟨i, j, rfl, ?_⟩
  split
  · exact h _ (by omega) (by omega) (by omega)
  · exact h _ (by omega) (by omega) (by omega)
def spPower : Sp := fun vs H Q _ => ∃ b n, vs = [.int b, .int (n : Nat)] ∧ 0 ≤ b ∧ b ≤ 2 ^ 20 ∧ n ≤ 60 ∧ Q (.int (b ^ n)) H
theorem c_power {H : Hp} {Q : VK} {E : XK} {b i : Int} (n : Nat) (e : i = (n : Nat)) (h0 : 0 ≤ b) (h1 : b ≤ 2 ^ 20) (hn : n ≤ 60) (k : Q (.int (b ^ n)) H) : spPower [.int b, .int i] H Q E := ⟨b, n, by rw [e], h0, h1, hn, k⟩
end G

namespace G
open PySem L2
/-! What digits tell. -/
/-- n by 2 ^ D lies in the stretch -/
def InS (x : Nar) (n : Int) (D : Nat) : Prop := x.lo * 2 ^ D ≤ n * x.pa ∧ n * x.pa < (x.lo + x.wd) * 2 ^ D
def sgnQ (x : Nar) (n : Int) (D : Nat) : Int := (n * x.pa - x.lo * 2 ^ D) * x.m.now.sum / (x.wd * 2 ^ D)
def sgn (x : Nar) (n : Int) (D : Nat) : Nat := signF x.m.now (sgnQ x n D)
theorem sgnQ_ok {k : Nat} {x : Nar} {sg mo : Int} {n : Int} {D : Nat} (h : NarOk k x sg mo) (hi : InS x n D) : 0 ≤ sgnQ x n D ∧ sgnQ x n D < x.m.now.sum ∧ 0 ≤ n * x.pa - x.lo * 2 ^ D ∧ n * x.pa - x.lo * 2 ^ D < x.wd * 2 ^ D := by
  obtain ⟨i1, i2⟩ := hi
  have g := h.ok.good
  have hS := g.1.sum_pos
  have hp := ipow_pos D
  have hW : 0 < x.wd * 2 ^ D := by
    have := Int.mul_le_mul h.wd0 hp (by decide) (by have := h.wd0; omega)
    omega
  rw [Int.add_mul] at i2
  have f0 : 0 ≤ n * x.pa - x.lo * 2 ^ D := by omega
  have f1 : n * x.pa - x.lo * 2 ^ D < x.wd * 2 ^ D := by omega
  refine ⟨Int.ediv_nonneg (Int.mul_nonneg f0 (by omega)) (by omega), ?_, f0, f1⟩
  unfold sgnQ
  rw [Int.ediv_lt_iff_lt_mul hW, Int.mul_comm x.m.now.sum]
  exact Int.mul_lt_mul_of_pos_right f1 hS
theorem ins_step {k : Nat} {x : Nar} {sg mo : Int} {n : Int} {D : Nat} (h : NarOk k x sg mo) (hi : InS x n D) : ((sgn x n D : Nat) : Int) < sg ∧ InS (nar x (sgn x n D)) n D := by
  obtain ⟨q0, q1, f0, f1⟩ := sgnQ_ok h hi
  have g := h.ok.good
  obtain ⟨a1, a2, a3⟩ := filter_sign g.1 q0 q1
  have hl : sgn x n D < x.m.now.length := g.1.signF_lt q1
  have hs : ((sgn x n D : Nat) : Int) < sg := by have := g.2.2.1; omega
  have hp := ipow_pos D
  have hW : 0 < x.wd * 2 ^ D := by
    have := Int.mul_le_mul h.wd0 hp (by decide) (by have := h.wd0; omega)
    omega
  have a1 : (x.m.now.take (sgn x n D)).sum ≤ sgnQ x n D := a1
  have a2 : sgnQ x n D < (x.m.now.take (sgn x n D + 1)).sum := a2
  rw [take_getD _ _ hl] at a2
  have b1 : (x.m.now.take (sgn x n D)).sum * (x.wd * 2 ^ D) ≤ (n * x.pa - x.lo * 2 ^ D) * x.m.now.sum := (Int.le_ediv_iff_mul_le hW).mp a1
  have b2 : (n * x.pa - x.lo * 2 ^ D) * x.m.now.sum < ((x.m.now.take (sgn x n D)).sum + x.m.now.getD (sgn x n D) 0) * (x.wd * 2 ^ D) := (Int.ediv_lt_iff_lt_mul hW).mp a2
  refine ⟨hs, ?_, ?_⟩
  · show (x.lo * x.m.now.sum + x.wd * (x.m.now.take (sgn x n D)).sum) * 2 ^ D ≤ n * (x.pa * x.m.now.sum)
    rw [Int.sub_mul] at b1
    have e1 : (x.lo * x.m.now.sum + x.wd * (x.m.now.take (sgn x n D)).sum) * 2 ^ D = x.lo * 2 ^ D * x.m.now.sum + (x.m.now.take (sgn x n D)).sum * (x.wd * 2 ^ D) := by
      rw [Int.add_mul]; congr 1 <;> simp only [Int.mul_assoc, Int.mul_comm, Int.mul_left_comm]
    have e2 : n * (x.pa * x.m.now.sum) = n * x.pa * x.m.now.sum := by simp only [Int.mul_assoc]
    rw [e1, e2]; omega
  · show n * (x.pa * x.m.now.sum) < (x.lo * x.m.now.sum + x.wd * (x.m.now.take (sgn x n D)).sum + x.wd * x.m.now.getD (sgn x n D) 0) * 2 ^ D
    rw [Int.sub_mul, Int.add_mul] at b2
    have e1 : (x.lo * x.m.now.sum + x.wd * (x.m.now.take (sgn x n D)).sum + x.wd * x.m.now.getD (sgn x n D) 0) * 2 ^ D = x.lo * 2 ^ D * x.m.now.sum + ((x.m.now.take (sgn x n D)).sum * (x.wd * 2 ^ D) + x.m.now.getD (sgn x n D) 0 * (x.wd * 2 ^ D)) := by
      rw [Int.add_mul, Int.add_mul, Int.add_assoc, show x.lo * x.m.now.sum * 2 ^ D = x.lo * 2 ^ D * x.m.now.sum by simp only [Int.mul_assoc, Int.mul_comm, Int.mul_left_comm], show x.wd * (x.m.now.take (sgn x n D)).sum * 2 ^ D = (x.m.now.take (sgn x n D)).sum * (x.wd * 2 ^ D) by simp only [Int.mul_assoc, Int.mul_comm, Int.mul_left_comm], show x.wd * x.m.now.getD (sgn x n D) 0 * 2 ^ D = x.m.now.getD (sgn x n D) 0 * (x.wd * 2 ^ D) by simp only [Int.mul_assoc, Int.mul_comm, Int.mul_left_comm]]
    have e2 : n * (x.pa * x.m.now.sum) = n * x.pa * x.m.now.sum := by simp only [Int.mul_assoc]
    rw [e1, e2]; omega
theorem ins_up {k : Nat} {x : Nar} {sg mo : Int} {n : Int} {D s : Nat} (h : NarOk k x sg mo) (hs : (s : Int) < sg) (hi : InS (nar x s) n D) : InS x n D := by
  obtain ⟨e1, e2, e3⟩ := nar_in h hs
  obtain ⟨i1, i2⟩ := hi
  have hS : 0 < x.m.now.sum := by have := (h.cs hs).2.2.2.2.1; omega
  have hp := ipow_pos D
  rw [e1] at i1 i2
  have a1 : x.lo * x.m.now.sum * 2 ^ D ≤ (nar x s).lo * 2 ^ D := Int.mul_le_mul_of_nonneg_right e2 (by omega)
  have a2 : ((nar x s).lo + (nar x s).wd) * 2 ^ D ≤ (x.lo + x.wd) * x.m.now.sum * 2 ^ D := Int.mul_le_mul_of_nonneg_right e3 (by omega)
  have f1 : x.lo * x.m.now.sum * 2 ^ D = x.lo * 2 ^ D * x.m.now.sum := by simp only [Int.mul_assoc, Int.mul_comm, Int.mul_left_comm]
  have f2 : (x.lo + x.wd) * x.m.now.sum * 2 ^ D = (x.lo + x.wd) * 2 ^ D * x.m.now.sum := by simp only [Int.mul_assoc, Int.mul_comm, Int.mul_left_comm]
  have f3 : n * (x.pa * x.m.now.sum) = n * x.pa * x.m.now.sum := by simp only [Int.mul_assoc]
  rw [f1] at a1
  rw [f2] at a2
  rw [f3] at i1 i2
  exact ⟨Int.le_of_mul_le_mul_right (by omega : x.lo * 2 ^ D * x.m.now.sum ≤ n * x.pa * x.m.now.sum) hS, Int.lt_of_mul_lt_mul_right (by omega : n * x.pa * x.m.now.sum < (x.lo + x.wd) * 2 ^ D * x.m.now.sum) (by omega)⟩
theorem ins_sign {k : Nat} {x : Nar} {sg mo : Int} {n : Int} {D s : Nat} (h : NarOk k x sg mo) (hs : (s : Int) < sg) (hi : InS (nar x s) n D) : sgn x n D = s := by
  have hx := ins_up h hs hi
  obtain ⟨q0, q1, f0, f1⟩ := sgnQ_ok h hx
  have g := h.ok.good
  obtain ⟨a1, a2, a3⟩ := filter_sign g.1 q0 q1
  obtain ⟨hl, c1, t0, tc, s1, s4⟩ := h.cs hs
  have hp := ipow_pos D
  have hW : 0 < x.wd * 2 ^ D := by
    have := Int.mul_le_mul h.wd0 hp (by decide) (by have := h.wd0; omega)
    omega
  obtain ⟨i1, i2⟩ := hi
  have i1 : (x.lo * x.m.now.sum + x.wd * (x.m.now.take s).sum) * 2 ^ D ≤ n * (x.pa * x.m.now.sum) := i1
  have i2 : n * (x.pa * x.m.now.sum) < (x.lo * x.m.now.sum + x.wd * (x.m.now.take s).sum + x.wd * x.m.now.getD s 0) * 2 ^ D := i2
  have e1 : (x.lo * x.m.now.sum + x.wd * (x.m.now.take s).sum) * 2 ^ D = x.lo * 2 ^ D * x.m.now.sum + (x.m.now.take s).sum * (x.wd * 2 ^ D) := by
    rw [Int.add_mul]; congr 1 <;> simp only [Int.mul_assoc, Int.mul_comm, Int.mul_left_comm]
  have e3 : (x.lo * x.m.now.sum + x.wd * (x.m.now.take s).sum + x.wd * x.m.now.getD s 0) * 2 ^ D = x.lo * 2 ^ D * x.m.now.sum + ((x.m.now.take s).sum * (x.wd * 2 ^ D) + x.m.now.getD s 0 * (x.wd * 2 ^ D)) := by
    rw [Int.add_mul, Int.add_mul, Int.add_assoc, show x.lo * x.m.now.sum * 2 ^ D = x.lo * 2 ^ D * x.m.now.sum by simp only [Int.mul_assoc, Int.mul_comm, Int.mul_left_comm], show x.wd * (x.m.now.take s).sum * 2 ^ D = (x.m.now.take s).sum * (x.wd * 2 ^ D) by simp only [Int.mul_assoc, Int.mul_comm, Int.mul_left_comm], show x.wd * x.m.now.getD s 0 * 2 ^ D = x.m.now.getD s 0 * (x.wd * 2 ^ D) by simp only [Int.mul_assoc, Int.mul_comm, Int.mul_left_comm]]
  have e2 : n * (x.pa * x.m.now.sum) = n * x.pa * x.m.now.sum := by simp only [Int.mul_assoc]
  rw [e1, e2] at i1
  rw [e3, e2] at i2
  refine (a3 s hl ?_ ?_).symm
  · show (x.m.now.take s).sum ≤ sgnQ x n D
    unfold sgnQ
    rw [Int.le_ediv_iff_mul_le hW, Int.sub_mul]
    omega
  · show sgnQ x n D < (x.m.now.take (s + 1)).sum
    unfold sgnQ
    rw [take_getD _ _ hl, Int.ediv_lt_iff_lt_mul hW, Int.sub_mul, Int.add_mul]
    omega
def tldS (m : Mdl) (n : Int) (D : Nat) : Nat → List Nat
  | 0 => []
  | j + 1 => tldS m n D j ++ [sgn (nars (nar0 m) (tldS m n D j)) n D]
structure TldOk (m : Mdl) (n : Int) (D j : Nat) : Prop where
  len : (tldS m n D j).length = j
  sg : ∀ s ∈ tldS m n D j, (s : Int) < nsg m
  ins : InS (nars (nar0 m) (tldS m n D j)) n D
theorem tld_ok {m : Mdl} {n : Int} {D : Nat} (mok : MOk 3 m) (n0 : 0 ≤ n) (n1 : n < 2 ^ D) : ∀ j, TldOk m n D j
  | 0 => ⟨rfl, by simp [tldS], by show (0 : Int) * 2 ^ D ≤ n * 1 ∧ n * 1 < (0 + 1) * 2 ^ D; omega⟩
  | j + 1 => by
    have ih := tld_ok mok n0 n1 j
    have nk := (NarOk.begun mok).nars _ ih.sg
    obtain ⟨s1, s2⟩ := ins_step nk ih.ins
    refine ⟨by simp [tldS, ih.len], fun s hs => ?_, ?_⟩
    · rcases List.mem_append.mp hs with q | q
      · exact ih.sg s q
      · rw [List.mem_singleton.mp q]; exact s1
    · show InS (nars (nar0 m) (tldS m n D j ++ [_])) n D
      rw [nars_snoc]; exact s2
/-- a number of a row's stretch tells the row -/
theorem ins_take {m : Mdl} {n : Int} {D : Nat} {ss : List Nat} (mok : MOk 3 m) (hss : ∀ s ∈ ss, (s : Int) < nsg m) (hi : InS (nars (nar0 m) ss) n D) : ∀ d, d ≤ ss.length → InS (nars (nar0 m) (ss.take (ss.length - d))) n D
  | 0, _ => by rw [Nat.sub_zero, List.take_length]; exact hi
  | d + 1, h => by
    have ih := ins_take mok hss hi d (by omega)
    have hj : ss.length - (d + 1) < ss.length := by omega
    have ht : ss.take (ss.length - d) = ss.take (ss.length - (d + 1)) ++ [ss[ss.length - (d + 1)]] := by
      rw [show ss.length - d = ss.length - (d + 1) + 1 by omega, List.take_add_one, List.getElem?_eq_getElem hj]; rfl
    have nk := (NarOk.begun mok).nars (ss.take (ss.length - (d + 1))) fun s hs => hss s (List.mem_of_mem_take hs)
    rw [ht, nars_snoc] at ih
    exact ins_up nk (hss _ (List.getElem_mem hj)) ih
theorem tld_row {m : Mdl} {n : Int} {D : Nat} {ss : List Nat} (mok : MOk 3 m) (hss : ∀ s ∈ ss, (s : Int) < nsg m) (hi : InS (nars (nar0 m) ss) n D) : ∀ j, j ≤ ss.length → tldS m n D j = ss.take j
  | 0, _ => by simp [tldS]
  | j + 1, h => by
    have ih := tld_row mok hss hi j (by omega)
    have hj : j < ss.length := h
    have ht : ss.take (j + 1) = ss.take j ++ [ss[j]] := by rw [List.take_add_one, List.getElem?_eq_getElem hj]; rfl
    have nk := (NarOk.begun mok).nars (ss.take j) fun s hs => hss s (List.mem_of_mem_take hs)
    have hin := ins_take mok hss hi (ss.length - (j + 1)) (by omega)
    rw [show ss.length - (ss.length - (j + 1)) = j + 1 by omega, ht, nars_snoc] at hin
    show tldS m n D j ++ [_] = _
    rw [ih, ht, ins_sign nk (hss _ (List.getElem_mem hj)) hin]
theorem valB_app (a b : List Nat) : valB (a ++ b) = valB a * 2 ^ b.length + valB b := by
  have : ∀ (n : Nat) (b : List Nat), b.length = n → valB (a ++ b) = valB a * 2 ^ b.length + valB b := by
    intro n
    induction n with
    | zero => intro b h; have : b = [] := List.length_eq_zero_iff.mp h; subst this; simp [valB]
    | succ n ih =>
      intro b h
      have hne : b ≠ [] := fun e => by rw [e] at h; cases h
      have e : b = b.dropLast ++ [b.getLast hne] := (List.dropLast_concat_getLast hne).symm
      have i1 := ih b.dropLast (by rw [List.length_dropLast]; omega)
      rw [e, ← List.append_assoc, valB_snoc, valB_snoc, i1, List.length_append, List.length_singleton, Int.pow_succ, Int.mul_add, ← Int.mul_assoc]
      have : 2 * valB a * 2 ^ b.dropLast.length = valB a * (2 ^ b.dropLast.length * 2) := by simp only [Int.mul_assoc, Int.mul_comm, Int.mul_left_comm]
      rw [this, Int.add_assoc]
  exact this _ b rfl
theorem codeB_val {lo hi wh : Int} (h : FewOk lo hi wh) (hw : hi ≤ wh) : valB (bitsN (fewN lo wh (fewK lo hi wh)) (fewK lo hi wh)) = fewN lo wh (fewK lo hi wh) ∧ fewN lo wh (fewK lo hi wh) < 2 ^ fewK lo hi wh := by
  have a := h.few.1
  have n0 := h.n0 (fewK lo hi wh)
  have hp := ipow_pos (fewK lo hi wh)
  unfold fewOk at a
  have b : hi * 2 ^ fewK lo hi wh ≤ wh * 2 ^ fewK lo hi wh := Int.mul_le_mul_of_nonneg_right hw (by omega)
  have c : fewN lo wh (fewK lo hi wh) + 1 ≤ 2 ^ fewK lo hi wh := by
    refine Int.le_of_mul_le_mul_right (?_ : _ * wh ≤ _ * wh) (show 0 < wh from h.wh1)
    rw [Int.mul_comm (2 ^ _) wh]
    omega
  exact ⟨bitsN_val _ _ n0 (by omega), by omega⟩
/-- all numbers that begin with a row's code lie in its stretch -/
theorem code_ins {k : Nat} {y : Nar} {sg mo : Int} {t : List Nat} (h : NarOk k y sg mo) (hk : k ≤ 70) (ht : ∀ b ∈ t, b < 2) : InS y (valB (codeB y ++ t)) (codeB y ++ t).length := by
  have fw := h.few hk
  obtain ⟨e1, e2⟩ := codeB_val fw h.le
  obtain ⟨c1, c2⟩ := fewN_ceil (lo := y.lo) fw.wh1 (codeK y)
  have ok : fewOk y.lo (y.lo + y.wd) y.pa (codeK y) := fw.few.1
  have e1 : valB (codeB y) = fewN y.lo y.pa (codeK y) := e1
  obtain ⟨t0, t1⟩ := valB_lt t ht
  have hp := ipow_pos t.length
  have hpa := fw.wh1
  unfold fewOk at ok
  unfold InS
  rw [valB_app, e1, List.length_append, codeB_len, Int.pow_add]
  generalize fewN y.lo y.pa (codeK y) = c at *
  generalize (2 : Int) ^ codeK y = A at *
  generalize (2 : Int) ^ t.length = T at *
  have m1 : y.lo * A * T ≤ c * y.pa * T := Int.mul_le_mul_of_nonneg_right c1 (by omega)
  have m2 : (c + 1) * y.pa * T ≤ (y.lo + y.wd) * A * T := Int.mul_le_mul_of_nonneg_right ok (by omega)
  have m3 : 0 ≤ valB t * y.pa := Int.mul_nonneg t0 (by omega)
  have m4 : valB t * y.pa + 1 * y.pa ≤ T * y.pa := by
    rw [← Int.add_mul]; exact Int.mul_le_mul_of_nonneg_right (by omega) (by omega)
  have r1 : (c * T + valB t) * y.pa = c * y.pa * T + valB t * y.pa := by
    rw [Int.add_mul]; congr 1; simp only [Int.mul_assoc, Int.mul_comm, Int.mul_left_comm]
  have r2 : (c + 1) * y.pa * T = c * y.pa * T + T * y.pa := by
    rw [Int.add_mul, Int.add_mul, Int.one_mul, Int.mul_comm y.pa T]
  constructor
  · rw [r1, ← Int.mul_assoc]; omega
  · rw [r1, ← Int.mul_assoc]
    rw [r2] at m2
    omega
section
variable (K : PySem.W.Frag) (Sh Pl Le Ah Bl Ex : Addr)
def spExSign : Sp := fun vs H Q _ => ∃ p x k sg mo n D L, vs = [.ref p, .int n, .int (D : Nat)] ∧ NarOk k x sg mo ∧ k ≤ 69 ∧ InS x n D ∧ D ≤ 2000 ∧ 0 ≤ n ∧ n < 2 ^ D ∧ HS H (exS K Sh Pl Le Ah Bl Ex p x :: L) ∧ ∀ H', HS H' (exS K Sh Pl Le Ah Bl Ex p x :: L) → Q (.int (sgn x n D : Nat)) H'
end
def spTold (K : PySem.W.Frag) : Sp := fun vs H Q _ => ∃ x m bs j L, vs = [x, .str (dgs bs), .int (j : Nat)] ∧ HS H L ∧ MdR K L x m ∧ MOk 3 m ∧ (∀ b ∈ bs, b < 2) ∧ bs.length ≤ 900 ∧ j ≤ 60 ∧
  ∀ f H', HS H' (pt f (.lst (iv (List.map Int.ofNat (tldS m (valB bs) bs.length j)))) :: L) → Q (.ref f) H'
section
variable {K : PySem.W.Frag} {Sh Pl Le Ah Bl Ex p : Addr} {H : Hp} {Q : VK} {E : XK} {L F : List SA} {x : V} {y : Nar} {m : Mdl} {sg mo i n : Int} {k : Nat}
theorem c_exSign (D : Nat) (e : i = (D : Nat)) [hs : HS H L] [o : Own L p (exS K Sh Pl Le Ah Bl Ex p y) F] (ok : NarOk k y sg mo) (hk : k ≤ 69) (hi : InS y n D) (hD : D ≤ 2000) (n0 : 0 ≤ n) (n1 : n < 2 ^ D) (h : ∀ H', HS H' (exS K Sh Pl Le Ah Bl Ex p y :: F) → Q (.int (sgn y n D : Nat)) H') : spExSign K Sh Pl Le Ah Bl Ex [.ref p, .int n, .int i] H Q E :=
  ⟨p, y, k, sg, mo, n, D, F, by rw [e], ok, hk, hi, hD, n0, n1, hs.pk o.pk, h⟩
theorem c_told (bs : List Nat) (j : Nat) (e : i = (j : Nat)) [hs : HS H L] [rm : MdR K L x m] (ok : MOk 3 m) (hb : ∀ b ∈ bs, b < 2) (hl : bs.length ≤ 900) (hj : j ≤ 60)
    (h : ∀ f H', HS H' (pt f (.lst (iv (List.map Int.ofNat (tldS m (valB bs) bs.length j)))) :: L) → Q (.ref f) H') : spTold K [x, .str (dgs bs), .int i] H Q E := ⟨x, m, bs, j, L, by rw [e], hs, rm, ok, hb, hl, hj, h⟩
end
theorem dgs_app (a b : List Nat) : dgs a ++ dgs b = dgs (a ++ b) := by
  apply TL.ext_tl
  rw [TL.tl_append]
  simp [dgs, TL.tl]
theorem s_ixC {K : PySem.W.Frag} {H : Hp} {Q : VK} {i : Int} (i0 : 0 ≤ i) (i1 : i < 2) (h : Q (ch i.toNat) H) : rIx K (.str (Str.ofString "01")) (.int i) H Q := by
  have : i = 0 ∨ i = 1 := by omega
  rcases this with rfl | rfl
  · exact .inr (.inr ⟨_, 0, 48, rfl, rfl, by decide, by decide +kernel, h⟩)
  · exact .inr (.inr ⟨_, 1, 49, rfl, rfl, by decide, by decide +kernel, h⟩)
def spLTail (K : PySem.W.Frag) : Sp := fun vs H Q _ => ∃ p L, vs = [.ref p] ∧ HS H (rowA K p :: L) ∧ ∀ bs H', (∀ b ∈ bs, b < 2) → bs.length ≤ 30 → HS H' (rowA K p :: L) → Q (.str (dgs bs)) H'
theorem c_lTail {K : PySem.W.Frag} {H : Hp} {Q : VK} {E : XK} {L F : List SA} {p : Addr} [hs : HS H L] [o : Own L p (rowA K p) F] (h : ∀ bs H', (∀ b ∈ bs, b < 2) → bs.length ≤ 30 → HS H' (rowA K p :: F) → Q (.str (dgs bs)) H') : spLTail K [.ref p] H Q E := ⟨p, F, rfl, hs.pk o.pk, h⟩
end G

namespace G
open PySem L2
/-! The law's own look at a code. -/
section
open PySem PySem.Spec PyProof.Rows
def rIndexS : V → List V → Hp → VK → Prop := fun x xs H Q => ∃ (a b : Str) (k : Nat), x = .str a ∧ xs = [.str b] ∧ Txt.index0 a b = some k ∧ Q (.int (k : Nat)) H
theorem mt_indexS {X : Cx} : MtR X "str.index" rIndexS := by
  intro pins s σ H x xs v us Q I rx rs h
  obtain ⟨a, b, k, rfl, rfl, hk, w⟩ := h
  obtain ⟨t, rfl⟩ := rx
  cases rs with
  | cons r1 rs =>
    cases rs
    obtain ⟨u, rfl⟩ := r1
    cases q : Builtin.Str.occurrences a b 0 a.length 1 with
    | nil => unfold Txt.index0 at hk; rw [q] at hk; cases hk
    | cons k' rest =>
      have : k' = k := by unfold Txt.index0 at hk; rw [q] at hk; exact Option.some.inj hk
      subst this
      exact PySem.SC.index q ⟨.int (k' : Nat), H, I.tok _, ⟨_, rfl⟩, w⟩
def tIdx (to te : TE) : TE := tM1 rIndexS to te
theorem pe_indexS {X : Cx} {o e : Expr} {to te : TE} {apos pos : Pos} (ho : PE X o to) (he : PE X e te) (hs : starEach [e] X.env = [(false, eval e X.env)] := by rfl) (hbase : attributeBase o "index" X.env (eval o X.env) = eval o X.env := by rfl) (hline : (apos.endLine == pos.line) = true := by rfl) :
    PE X (.Call (.Attribute o "index" apos) [e] [] pos) (tIdx to te) := pe_m1 F.slot_str_index F.type_str_index mt_indexS ho he hs hbase hline
end
def idK (te : TE) (σ : L2.St) (Q : VK) (x : V) (H1 : Hp) : Prop := (∃ a, x = .str a) ∧ te σ H1 fun y H2 => rIndexS x [y] H2 Q
section
variable {K : PySem.W.Frag} {σ : L2.St} {H : Hp} {Q : VK} {E : XK} {L F : List SA} {te to : TE} {b : Nat}
theorem s_idx (h : to σ H fun x H1 => idK te σ Q x H1) : tIdx to te σ H Q := h
theorem s_idK {a : Str} (h : te σ H fun y H2 => rIndexS (.str a) [y] H2 Q) : idK te σ Q (.str a) H := ⟨⟨a, rfl⟩, h⟩
theorem s_index01 (hb : b < 2) (h : Q (.int (b : Nat)) H) : rIndexS (.str (Str.ofString "01")) [ch b] H Q := by
  have : b = 0 ∨ b = 1 := by omega
  rcases this with rfl | rfl
  · exact ⟨_, _, 0, rfl, rfl, by decide +kernel, h⟩
  · exact ⟨_, _, 1, rfl, rfl, by decide +kernel, h⟩
theorem s_max2 {i j : Int} (h : ∀ z, i ≤ z → j ≤ z → (z = i ∨ z = j) → Q (.int z) H) : rMaxG K [.int i, .int j] H Q := by
  refine .inl ⟨i, j, rfl, ?_⟩
  split
  · exact h _ (by omega) (by omega) (by omega)
  · exact h _ (by omega) (by omega) (by omega)
theorem f_rng2 {g : TG} {D : Ends} {tb : TS} {lo : Int} {k : Nat} (Pv : Nat → L2.St → Hp → Prop) (h0 : Pv 0 σ H)
    (hs : ∀ (i : Nat) σ H, i < k → Pv i σ H → g (.int (lo + (i : Int))) σ H fun σ2 H2 => tb { D with nx := Pv (i + 1), ct := Pv (i + 1), bk := D.nx } σ2 H2) (hd : ∀ σ H, Pv k σ H → D.nx σ H) : forK g tb D σ (Itr lo k) H :=
  for_range (lo := lo) Pv h0 hs hd
end
def spLValue : Sp := fun vs H Q _ => ∃ bs, vs = [.str (dgs bs)] ∧ (∀ b ∈ bs, b < 2) ∧ bs.length ≤ 2000 ∧ Q (.int (valB bs)) H
structure IsC (bs : List Nat) (lo hi pa : Int) : Prop where
  few : FewOk lo hi pa
  bit : ∀ b ∈ bs, b < 2
  len : bs.length ≤ 1501
  lo1 : lo * 2 ^ bs.length ≤ valB bs * pa
  hi1 : (valB bs + 1) * pa ≤ hi * 2 ^ bs.length
  ls : 0 < valB bs → (valB bs - 1) * pa < lo * 2 ^ bs.length
  fw : ∀ j, j < bs.length → ¬ fewOk lo hi pa j
def spIsCode (K : PySem.W.Frag) : Sp := fun vs H Q _ => ∃ bs lo hi pa L, vs = [.str (dgs bs), .int lo, .int hi, .int pa] ∧ IsC bs lo hi pa ∧ HS H L ∧ ∀ H', HS H' L → Q (.bl true) H'
theorem c_lValue {H : Hp} {Q : VK} {E : XK} (bs : List Nat) (hb : ∀ b ∈ bs, b < 2) (hl : bs.length ≤ 2000) (h : Q (.int (valB bs)) H) : spLValue [.str (dgs bs)] H Q E := ⟨bs, rfl, hb, hl, h⟩
theorem c_isCode {K : PySem.W.Frag} {H : Hp} {Q : VK} {E : XK} {L : List SA} {bs : List Nat} {lo hi pa : Int} (ok : IsC bs lo hi pa) [hs : HS H L] (h : ∀ H', HS H' L → Q (.bl true) H') : spIsCode K [.str (dgs bs), .int lo, .int hi, .int pa] H Q E := ⟨bs, lo, hi, pa, L, rfl, ok, hs, h⟩
theorem ceil_alt {x w : Int} (hw : 1 ≤ w) : (x + w - 1) / w = 0 - (0 - x) / w := by
  have h1 := Int.mul_ediv_add_emod (0 - x) w
  have h2 := Int.emod_nonneg (0 - x) (show w ≠ 0 by omega)
  have h3 := Int.emod_lt_of_pos (0 - x) (show 0 < w by omega)
  have e : x + w - 1 = w * (0 - (0 - x) / w) + (w - 1 - (0 - x) % w) := by rw [Int.mul_sub]; omega
  rw [e, Int.add_comm, Int.add_mul_ediv_left _ _ (by omega), Int.ediv_eq_zero_of_lt (by omega) (by omega), Int.zero_add]
theorem isC_few {lo hi wh : Int} (h : FewOk lo hi wh) (hw : hi ≤ wh) : IsC (bitsN (fewN lo wh (fewK lo hi wh)) (fewK lo hi wh)) lo hi wh := by
  obtain ⟨e1, e2⟩ := codeB_val h hw
  obtain ⟨a, b, c⟩ := h.few
  obtain ⟨c1, c2⟩ := fewN_ceil (lo := lo) h.wh1 (fewK lo hi wh)
  refine ⟨h, bitsN_lt _ _, by rw [bitsN_len]; exact b, ?_, ?_, ?_, ?_⟩
  · rw [e1, bitsN_len]; exact c1
  · rw [e1, bitsN_len]; exact a
  · rw [e1, bitsN_len, Int.sub_mul, Int.one_mul]; intro _; omega
  · rw [bitsN_len]; exact c
end G

namespace G
open PySem L2
/-! Writers. -/
def wtn (w : Nat) : List Nat := if 0 < w then 0 :: List.replicate (w - 1) 1 else []
def crd (w : Nat) : List Nat := 1 :: List.replicate (w - 1) 0
theorem wtn_len (w : Nat) : (wtn w).length = w := by
  unfold wtn
  split
  · rw [List.length_cons, List.length_replicate]; omega
  · rw [List.length_nil]; omega
theorem crd_len {w : Nat} (h : 1 ≤ w) : (crd w).length = w := by unfold crd; rw [List.length_cons, List.length_replicate]; omega
theorem wtn_bit (w : Nat) : ∀ b ∈ wtn w, b < 2 := fun b hb => by
  unfold wtn at hb
  split at hb
  · rcases List.mem_cons.mp hb with rfl | q
    · decide
    · rw [List.eq_of_mem_replicate q]; decide
  · cases hb
theorem crd_bit (w : Nat) : ∀ b ∈ crd w, b < 2 := fun b hb => by
  unfold crd at hb
  rcases List.mem_cons.mp hb with rfl | q
  · decide
  · rw [List.eq_of_mem_replicate q]; decide
theorem valB_ones : ∀ n, valB (List.replicate n 1) = 2 ^ n - 1
  | 0 => rfl
  | n + 1 => by rw [List.replicate_succ', valB_snoc, valB_ones n, Int.pow_succ]; omega
theorem valB_zeros : ∀ n, valB (List.replicate n 0) = 0
  | 0 => rfl
  | n + 1 => by rw [List.replicate_succ', valB_snoc, valB_zeros n]; rfl
theorem valB_cons (b : Nat) (bs : List Nat) : valB (b :: bs) = (b : Int) * 2 ^ bs.length + valB bs := by
  have := valB_app [b] bs
  rw [List.singleton_append] at this
  rw [this]
  congr 2
  show 2 * (0 : Int) + b = b
  omega
theorem crd_val {w : Nat} (h : 1 ≤ w) (sure : List Nat) : valB (sure ++ crd w) = valB (sure ++ wtn w) + 1 := by
  rw [valB_app, valB_app, crd_len h, wtn_len]
  have e1 : valB (crd w) = 2 ^ (w - 1) := by unfold crd; rw [valB_cons, valB_zeros, List.length_replicate]; omega
  have e2 : valB (wtn w) = 2 ^ (w - 1) - 1 := by unfold wtn; rw [if_pos (show 0 < w from h), valB_cons, valB_ones, List.length_replicate]; omega
  rw [e1, e2]; omega
theorem wtn_succ {w : Nat} (h : 0 < w) : wtn (w + 1) = wtn w ++ [1] := by
  unfold wtn
  rw [if_pos (Nat.succ_pos w), if_pos h, List.cons_append, ← List.replicate_succ', Nat.add_sub_cancel, show w - 1 + 1 = w by omega]
structure Wv (R : Nat) (lo wd : Int) (mn : Nat) (sure : List Nat) (w : Nat) : Prop where
  bit : ∀ b ∈ sure, b < 2
  len : sure.length + w = mn
  lo1 : valB (sure ++ wtn w) * 2 ^ R ≤ lo
  lo2 : lo < (valB (sure ++ wtn w) + 1) * 2 ^ R
  w0 : w = 0 → lo + wd ≤ (valB (sure ++ wtn w) + 1) * 2 ^ R
/-- what of lo is kept -/
def wlow (R : Nat) (lo : Int) (sure : List Nat) (w : Nat) : Int := lo - valB (sure ++ wtn w) * 2 ^ R
theorem Wv.low {R : Nat} {lo wd : Int} {mn : Nat} {sure : List Nat} {w : Nat} (h : Wv R lo wd mn sure w) : 0 ≤ wlow R lo sure w ∧ wlow R lo sure w < 2 ^ R := by
  have := h.lo1
  have := h.lo2
  unfold wlow
  rw [Int.add_mul, Int.one_mul] at this
  omega
theorem Wv.sub {R : Nat} {lo wd lo' wd' : Int} {mn : Nat} {sure : List Nat} {w : Nat} (h : Wv R lo wd mn sure w) (h1 : lo ≤ lo') (h2 : lo' + wd' ≤ lo + wd) (h3 : wlow R lo' sure w < 2 ^ R) : Wv R lo' wd' mn sure w := by
  have a1 := h.lo1
  unfold wlow at h3
  exact ⟨h.bit, h.len, by omega, by rw [Int.add_mul, Int.one_mul]; omega, fun q => by have := h.w0 q; omega⟩
theorem Wv.carry {R : Nat} {lo wd lo' wd' : Int} {mn : Nat} {sure : List Nat} {w : Nat} (h : Wv R lo wd mn sure w) (hw : wd ≤ 2 ^ R) (h0 : 1 ≤ wd') (h1 : lo ≤ lo') (h2 : lo' + wd' ≤ lo + wd) (h3 : 2 ^ R ≤ wlow R lo' sure w) :
    1 ≤ w ∧ Wv R lo' wd' mn (sure ++ crd w) 0 ∧ wlow R lo' (sure ++ crd w) 0 = wlow R lo' sure w - 2 ^ R := by
  have a1 := h.lo1
  have a2 := h.lo2
  have hp := ipow_pos R
  unfold wlow at h3
  have w1 : 1 ≤ w := by
    rcases Nat.eq_zero_or_pos w with q | q
    · have := h.w0 q
      rw [Int.add_mul, Int.one_mul] at this
      omega
    · exact q
  have e := crd_val w1 sure
  have e0 : sure ++ crd w ++ wtn 0 = sure ++ crd w := by show sure ++ crd w ++ [] = _; rw [List.append_nil]
  rw [Int.add_mul, Int.one_mul] at a2
  refine ⟨w1, ⟨fun b hb => ?_, ?_, ?_, ?_, fun _ => ?_⟩, ?_⟩
  · rcases List.mem_append.mp hb with q | q
    · exact h.bit b q
    · exact crd_bit w b q
  · rw [List.length_append, crd_len w1]; exact h.len
  · rw [e0, e, Int.add_mul, Int.one_mul]; omega
  · rw [e0, e, Int.add_mul, Int.add_mul, Int.one_mul]; omega
  · rw [e0, e, Int.add_mul, Int.add_mul, Int.one_mul]; omega
  · unfold wlow; rw [e0, e, Int.add_mul, Int.one_mul]; omega
theorem Wv.shift0 {R : Nat} {lo wd : Int} {mn : Nat} {sure : List Nat} {w : Nat} (h : Wv R lo wd mn sure w) (hd : 2 * wlow R lo sure w < 2 ^ R) :
    Wv R (2 * lo) (2 * wd) (mn + 1) (sure ++ wtn w) 1 ∧ wlow R (2 * lo) (sure ++ wtn w) 1 = 2 * wlow R lo sure w := by
  have a1 := h.lo1
  have a2 := h.lo2
  have e : valB (sure ++ wtn w ++ wtn 1) = 2 * valB (sure ++ wtn w) := by show valB (sure ++ wtn w ++ [0]) = _; rw [valB_snoc]; omega
  unfold wlow at hd
  rw [Int.add_mul, Int.one_mul] at a2
  refine ⟨⟨fun b hb => ?_, ?_, ?_, ?_, fun q => by cases q⟩, ?_⟩
  · rcases List.mem_append.mp hb with q | q
    · exact h.bit b q
    · exact wtn_bit w b q
  · rw [List.length_append, wtn_len]; have := h.len; omega
  · rw [e, Int.mul_assoc]; omega
  · rw [e, Int.add_mul, Int.one_mul, Int.mul_assoc]; omega
  · unfold wlow; rw [e, Int.mul_assoc]; omega
theorem Wv.shift1 {R : Nat} {lo wd : Int} {mn : Nat} {sure : List Nat} {w : Nat} (h : Wv R lo wd mn sure w) (hd : 2 ^ R ≤ 2 * wlow R lo sure w) (hw : 0 < w) :
    Wv R (2 * lo) (2 * wd) (mn + 1) sure (w + 1) ∧ wlow R (2 * lo) sure (w + 1) = 2 * wlow R lo sure w - 2 ^ R := by
  have a1 := h.lo1
  have a2 := h.lo2
  have e : valB (sure ++ wtn (w + 1)) = 2 * valB (sure ++ wtn w) + 1 := by rw [wtn_succ hw, ← List.append_assoc, valB_snoc]; omega
  unfold wlow at hd
  rw [Int.add_mul, Int.one_mul] at a2
  refine ⟨⟨h.bit, by have := h.len; omega, ?_, ?_, fun q => by cases q⟩, ?_⟩
  · rw [e, Int.add_mul, Int.one_mul, Int.mul_assoc]; omega
  · rw [e, Int.add_mul, Int.add_mul, Int.one_mul, Int.mul_assoc]; omega
  · unfold wlow; rw [e, Int.add_mul, Int.one_mul, Int.mul_assoc]; omega
theorem Wv.shift2 {R : Nat} {lo wd : Int} {mn : Nat} {sure : List Nat} (h : Wv R lo wd mn sure 0) (hd : 2 ^ R ≤ 2 * wlow R lo sure 0) :
    Wv R (2 * lo) (2 * wd) (mn + 1) (sure ++ [1]) 0 ∧ wlow R (2 * lo) (sure ++ [1]) 0 = 2 * wlow R lo sure 0 - 2 ^ R := by
  have a1 := h.lo1
  have a2 := h.lo2
  have a3 := h.w0 rfl
  have e0 : sure ++ wtn 0 = sure := by show sure ++ [] = _; rw [List.append_nil]
  have e1 : sure ++ [1] ++ wtn 0 = sure ++ [1] := by show sure ++ [1] ++ [] = _; rw [List.append_nil]
  have e : valB (sure ++ [1] ++ wtn 0) = 2 * valB (sure ++ wtn 0) + 1 := by rw [e1, e0, valB_snoc]; omega
  unfold wlow at hd
  rw [Int.add_mul, Int.one_mul] at a2 a3
  refine ⟨⟨fun b hb => ?_, ?_, ?_, ?_, fun _ => ?_⟩, ?_⟩
  · rcases List.mem_append.mp hb with q | q
    · exact h.bit b q
    · rw [List.mem_singleton.mp q]; decide
  · rw [List.length_append, List.length_singleton]; have := h.len; omega
  · rw [e, Int.add_mul, Int.one_mul, Int.mul_assoc]; omega
  · rw [e, Int.add_mul, Int.add_mul, Int.one_mul, Int.mul_assoc]; omega
  · rw [e, Int.add_mul, Int.add_mul, Int.one_mul, Int.mul_assoc]; omega
  · unfold wlow; rw [e, Int.add_mul, Int.one_mul, Int.mul_assoc]; omega
/-- digits of one length and one number are the same -/
theorem valB_inj : ∀ (as bs : List Nat), as.length = bs.length → (∀ b ∈ as, b < 2) → (∀ b ∈ bs, b < 2) → valB as = valB bs → as = bs
  | [], [], _, _, _, _ => rfl
  | [], _ :: _, h, _, _, _ => by cases h
  | _ :: _, [], h, _, _, _ => by cases h
  | a :: as, b :: bs, h, ha, hb, e => by
    rw [valB_cons, valB_cons] at e
    have hl : as.length = bs.length := by simpa using h
    obtain ⟨v0, v1⟩ := valB_lt as fun z hz => ha z (List.mem_cons_of_mem _ hz)
    obtain ⟨u0, u1⟩ := valB_lt bs fun z hz => hb z (List.mem_cons_of_mem _ hz)
    have a2 := ha a List.mem_cons_self
    have b2 := hb b List.mem_cons_self
    rw [hl] at e v1
    have hp := ipow_pos bs.length
    have eab : a = b ∧ valB as = valB bs := by
      have ha : a = 0 ∨ a = 1 := by omega
      have hb : b = 0 ∨ b = 1 := by omega
      rcases ha with rfl | rfl <;> rcases hb with rfl | rfl <;> simp at e <;> first | exact ⟨rfl, by omega⟩ | (exfalso; omega)
    rw [eab.1, valB_inj as bs hl (fun z hz => ha z (List.mem_cons_of_mem _ hz)) (fun z hz => hb z (List.mem_cons_of_mem _ hz)) eab.2]
/-- the ceiling, behind digits that are sure -/
theorem fewN_shift {lo D : Int} {R mn i : Nat} : fewN lo (2 ^ (R + mn)) (mn + i) = D * 2 ^ i + fewN (lo - D * 2 ^ R) (2 ^ R) i := by
  have hR := ipow_pos R
  have hm := ipow_pos mn
  unfold fewN
  have e1 : (0 : Int) - lo * 2 ^ (mn + i) = (0 - lo * 2 ^ i) * 2 ^ mn := by rw [Int.pow_add, Int.sub_mul, Int.zero_mul, Int.mul_assoc, Int.mul_comm (2 ^ mn)]
  rw [e1, Int.pow_add, Int.mul_ediv_mul_of_pos_left _ _ (show (0 : Int) < 2 ^ mn by omega)]
  have e2 : (0 : Int) - (lo - D * 2 ^ R) * 2 ^ i = (0 - lo * 2 ^ i) + (D * 2 ^ i) * 2 ^ R := by
    rw [Int.sub_mul, show D * 2 ^ R * 2 ^ i = D * 2 ^ i * 2 ^ R by simp only [Int.mul_assoc, Int.mul_comm, Int.mul_left_comm]]
    omega
  rw [e2, Int.add_mul_ediv_right _ _ (show (2 : Int) ^ R ≠ 0 by omega)]
  omega
end G

namespace G
open PySem L2
theorem wv_few {R : Nat} {lo wd : Int} {mn : Nat} {sure : List Nat} {w : Nat} (h : Wv R lo wd mn sure w) (r20 : R ≤ 20) (w1 : 1 ≤ wd) (w2 : wd ≤ 2 ^ R) : FewOk (wlow R lo sure w) (wlow R lo sure w + wd) (2 ^ R) := by
  obtain ⟨l0, l1⟩ := h.low
  have e1 : (2 : Int) ^ R ≤ 2 ^ 20 := ipow_le r20
  have e2 : (2 : Int) ^ 21 ≤ 2 ^ 1500 := ipow_le (by decide)
  have e3 : (2 : Int) ^ 21 = 2 * 2 ^ 20 := pow_half (by decide)
  have := ipow_pos R
  exact ⟨l0, by omega, by omega, by omega, by omega⟩
theorem wv_few2 {R : Nat} {lo wd : Int} {mn : Nat} (hm : R + mn ≤ 1420) (l0 : 0 ≤ lo) (w1 : 1 ≤ wd) (hle : lo + wd ≤ 2 ^ (R + mn)) : FewOk lo (lo + wd) (2 ^ (R + mn)) := by
  have e1 : (2 : Int) ^ (R + mn) ≤ 2 ^ 1500 := ipow_le (by omega)
  have := ipow_pos (R + mn)
  exact ⟨l0, by omega, by omega, by omega, by omega⟩
theorem wv_ok {R : Nat} {lo wd : Int} {mn : Nat} {sure : List Nat} {w : Nat} (i : Nat) : fewOk lo (lo + wd) (2 ^ (R + mn)) (mn + i) ↔ fewOk (wlow R lo sure w) (wlow R lo sure w + wd) (2 ^ R) i := by
  have hm := ipow_pos mn
  have ef := fewN_shift (lo := lo) (D := valB (sure ++ wtn w)) (R := R) (mn := mn) (i := i)
  unfold fewOk
  rw [ef]
  show _ ↔ (fewN (lo - valB (sure ++ wtn w) * 2 ^ R) (2 ^ R) i + 1) * 2 ^ R ≤ (lo - valB (sure ++ wtn w) * 2 ^ R + wd) * 2 ^ i
  generalize valB (sure ++ wtn w) = D
  generalize fewN (lo - D * 2 ^ R) (2 ^ R) i = c
  have e1 : (D * 2 ^ i + c + 1) * 2 ^ (R + mn) = ((D * 2 ^ i) * 2 ^ R + (c + 1) * 2 ^ R) * 2 ^ mn := by
    rw [Int.pow_add, ← Int.mul_assoc, Int.add_assoc, Int.add_mul]
  have e2 : (lo + wd) * 2 ^ (mn + i) = (lo + wd) * 2 ^ i * 2 ^ mn := by
    rw [Int.pow_add, Int.mul_comm (2 ^ mn), ← Int.mul_assoc]
  have e3 : (lo - D * 2 ^ R + wd) * 2 ^ i = (lo + wd) * 2 ^ i - (D * 2 ^ i) * 2 ^ R := by
    rw [show lo - D * 2 ^ R + wd = lo + wd - D * 2 ^ R by omega, Int.sub_mul, show D * 2 ^ R * 2 ^ i = D * 2 ^ i * 2 ^ R by simp only [Int.mul_assoc, Int.mul_comm, Int.mul_left_comm]]
  rw [e1, e2, e3]
  constructor
  · intro q
    have := Int.le_of_mul_le_mul_right q (by omega)
    omega
  · intro q
    exact Int.mul_le_mul_of_nonneg_right (by omega) (by omega)
theorem wv_key {R : Nat} {lo wd : Int} {mn : Nat} {sure : List Nat} {w : Nat} (h : Wv R lo wd mn sure w) (r20 : R ≤ 20) (hm : R + mn ≤ 1420) (l0 : 0 ≤ lo) (w1 : 1 ≤ wd) (w2 : wd ≤ 2 ^ R) (hle : lo + wd ≤ 2 ^ (R + mn)) :
    fewK lo (lo + wd) (2 ^ (R + mn)) = mn + fewK (wlow R lo sure w) (wlow R lo sure w + wd) (2 ^ R) := by
  have f1 := wv_few h r20 w1 w2
  have f2 := wv_few2 hm l0 w1 hle
  obtain ⟨a1, a2, a3⟩ := f1.few
  obtain ⟨b1, b2, b3⟩ := f2.few
  have c1 := f2.le ((wv_ok (lo := lo) (wd := wd) (mn := mn) (sure := sure) (w := w) _).mpr a1)
  have c2 : mn ≤ fewK lo (lo + wd) (2 ^ (R + mn)) := by
    rcases Nat.lt_or_ge (fewK lo (lo + wd) (2 ^ (R + mn))) mn with q | q
    · obtain ⟨d1, d2⟩ := few_wide f2
      rw [show lo + wd - lo = wd by omega] at d1
      have d3 : wd * 2 ^ fewK lo (lo + wd) (2 ^ (R + mn)) ≤ 2 ^ R * 2 ^ (mn - 1) := Int.mul_le_mul w2 (ipow_le (by omega)) (by have := ipow_pos (fewK lo (lo + wd) (2 ^ (R + mn))); omega) (by have := ipow_pos R; omega)
      rw [← Int.pow_add] at d3
      have d4 : (2 : Int) ^ (R + mn) = 2 * 2 ^ (R + mn - 1) := pow_half (by omega)
      rw [show R + (mn - 1) = R + mn - 1 by omega] at d3
      have := ipow_pos (R + mn - 1)
      omega
    · exact q
  obtain ⟨i, hi⟩ : ∃ i, fewK lo (lo + wd) (2 ^ (R + mn)) = mn + i := ⟨fewK lo (lo + wd) (2 ^ (R + mn)) - mn, by omega⟩
  rw [hi] at b1 c1 ⊢
  have := f1.le ((wv_ok (lo := lo) (wd := wd) (mn := mn) (sure := sure) (w := w) i).mp b1)
  omega
def wbits (R : Nat) (y : Rnd) : List Nat := bitsN (fewN y.lo (2 ^ (R + y.mn)) (fewK y.lo (y.lo + y.wd) (2 ^ (R + y.mn)))) (fewK y.lo (y.lo + y.wd) (2 ^ (R + y.mn)))
theorem wv_end {R : Nat} {y : Rnd} {sure : List Nat} {w : Nat} (h : Wv R y.lo y.wd y.mn sure w) (r20 : R ≤ 20) (hm : R + y.mn ≤ 1420) (l0 : 0 ≤ y.lo) (w1 : 1 ≤ y.wd) (w2 : y.wd ≤ 2 ^ R) (hle : y.lo + y.wd ≤ 2 ^ (R + y.mn)) :
    (fewN (wlow R y.lo sure w) (2 ^ R) (fewK (wlow R y.lo sure w) (wlow R y.lo sure w + y.wd) (2 ^ R)) < 2 ^ fewK (wlow R y.lo sure w) (wlow R y.lo sure w + y.wd) (2 ^ R) →
      sure ++ wtn w ++ bitsN (fewN (wlow R y.lo sure w) (2 ^ R) (fewK (wlow R y.lo sure w) (wlow R y.lo sure w + y.wd) (2 ^ R))) (fewK (wlow R y.lo sure w) (wlow R y.lo sure w + y.wd) (2 ^ R)) = wbits R y) ∧
    (¬ fewN (wlow R y.lo sure w) (2 ^ R) (fewK (wlow R y.lo sure w) (wlow R y.lo sure w + y.wd) (2 ^ R)) < 2 ^ fewK (wlow R y.lo sure w) (wlow R y.lo sure w + y.wd) (2 ^ R) →
      1 ≤ w ∧ sure ++ crd w ++ bitsN (fewN (wlow R y.lo sure w) (2 ^ R) (fewK (wlow R y.lo sure w) (wlow R y.lo sure w + y.wd) (2 ^ R)) - 2 ^ fewK (wlow R y.lo sure w) (wlow R y.lo sure w + y.wd) (2 ^ R)) (fewK (wlow R y.lo sure w) (wlow R y.lo sure w + y.wd) (2 ^ R)) = wbits R y) := by
  have key := wv_key h r20 hm l0 w1 w2 hle
  have f1 := wv_few h r20 w1 w2
  have f2 := wv_few2 hm l0 w1 hle
  obtain ⟨v1, v2⟩ := codeB_val f2 hle
  obtain ⟨a1, a2, a3⟩ := f1.few
  have n0 := f1.n0 (fewK (wlow R y.lo sure w) (wlow R y.lo sure w + y.wd) (2 ^ R))
  have ef := fewN_shift (lo := y.lo) (D := valB (sure ++ wtn w)) (R := R) (mn := y.mn) (i := fewK (wlow R y.lo sure w) (wlow R y.lo sure w + y.wd) (2 ^ R))
  obtain ⟨q0, q1⟩ := h.low
  unfold wbits
  rw [key] at v1 v2 ⊢
  rw [show y.lo - valB (sure ++ wtn w) * 2 ^ R = wlow R y.lo sure w from rfl] at ef
  have hl := h.len
  have hb := h.bit
  have hw0 := h.w0
  have hlo2 := h.lo2
  have hwl : wlow R y.lo sure w = y.lo - valB (sure ++ wtn w) * 2 ^ R := rfl
  generalize fewK (wlow R y.lo sure w) (wlow R y.lo sure w + y.wd) (2 ^ R) = k0 at *
  have hk := ipow_pos k0
  have hR := ipow_pos R
  rw [ef] at v1 v2 ⊢
  unfold fewOk at a1
  generalize fewN (wlow R y.lo sure w) (2 ^ R) k0 = c at *
  constructor
  · intro hc
    refine valB_inj _ _ ?_ ?_ (bitsN_lt _ _) ?_
    · rw [List.length_append, List.length_append, wtn_len, bitsN_len, bitsN_len]; omega
    · intro b hb2
      rcases List.mem_append.mp hb2 with q | q
      · rcases List.mem_append.mp q with q | q
        · exact hb b q
        · exact wtn_bit w b q
      · exact bitsN_lt _ _ b q
    · rw [v1, valB_app, bitsN_len, bitsN_val _ _ n0 hc]
  · intro hc
    have m1 : (wlow R y.lo sure w + y.wd) * 2 ^ k0 ≤ (2 * 2 ^ R) * 2 ^ k0 := Int.mul_le_mul_of_nonneg_right (by omega) (by omega)
    have c2 : c + 1 ≤ 2 * 2 ^ k0 := by
      refine Int.le_of_mul_le_mul_right (?_ : (c + 1) * (2 : Int) ^ R ≤ 2 * 2 ^ k0 * 2 ^ R) (show (0 : Int) < 2 ^ R by omega)
      have : 2 * 2 ^ R * 2 ^ k0 = 2 * 2 ^ k0 * (2 : Int) ^ R := by simp only [Int.mul_assoc, Int.mul_comm, Int.mul_left_comm]
      omega
    have ww : 1 ≤ w := by
      rcases Nat.eq_zero_or_pos w with q | q
      · have := hw0 q
        rw [Int.add_mul, Int.one_mul] at this
        have m2 : (wlow R y.lo sure w + y.wd) * 2 ^ k0 ≤ 2 ^ R * 2 ^ k0 := Int.mul_le_mul_of_nonneg_right (by omega) (by omega)
        have m3 : (2 ^ k0 + 1) * 2 ^ R ≤ (c + 1) * 2 ^ R := Int.mul_le_mul_of_nonneg_right (by omega) (by omega)
        rw [Int.add_mul, Int.one_mul, Int.mul_comm (2 ^ k0)] at m3
        omega
      · exact q
    refine ⟨ww, valB_inj _ _ ?_ ?_ (bitsN_lt _ _) ?_⟩
    · rw [List.length_append, List.length_append, crd_len ww, bitsN_len, bitsN_len]; omega
    · intro b hb2
      rcases List.mem_append.mp hb2 with q | q
      · rcases List.mem_append.mp q with q | q
        · exact hb b q
        · exact crd_bit w b q
      · exact bitsN_lt _ _ b q
    · rw [v1, valB_app, bitsN_len, bitsN_val _ _ (by omega) (by omega), crd_val ww, Int.add_mul, Int.one_mul]
      omega
/-! strings -/
theorem mul_dgs (b n : Nat) : Txt.mul (dgs [b]) (n : Int) = dgs (List.replicate n b) := by
  have fold : ∀ (n : Nat) (acc : Array Nat), (List.replicate n (dgs [b]).cps).foldl (· ++ ·) acc = acc ++ (dgs (List.replicate n b)).cps := by
    intro n
    induction n with
    | zero => intro acc; simp [dgs]
    | succ n ih =>
      intro acc
      rw [List.replicate_succ, List.foldl_cons, ih]
      apply Array.toList_inj.mp
      simp [dgs, List.replicate_succ]
  unfold Txt.mul
  by_cases h : (n : Int) < 1
  · have : n = 0 := by omega
    subst this
    rw [if_pos h]; rfl
  · rw [if_neg h]
    by_cases h1 : n = 1
    · subst h1
      rfl
    · rw [if_neg (by
        intro q
        simp only [Bool.or_eq_true, beq_iff_eq] at q
        rcases q with q | q
        · omega
        · simp [dgs, Str.length] at q)]
      rw [Int.toNat_natCast, fold]
      simp
theorem mulOk_dgs {b n : Nat} (h : n ≤ 10000) : PySem.MulOk (dgs [b]) (n : Int) := by
  have hl : (dgs [b]).length = 1 := rfl
  refine ⟨?_, fun h1 h2 => ?_, fun h1 h2 => ?_⟩
  · have e1 : decide ((n : Int) < -(2 ^ 63)) = false := decide_eq_false (by omega)
    have e2 : decide ((n : Int) ≥ 2 ^ 63) = false := decide_eq_false (by omega)
    rw [e1, e2]; rfl
  · rw [hl]
    have h0 : 0 < (n : Int) := by omega
    intro q
    have q : (2 ^ 63 - 1) / (n : Int) < 1 := q
    rw [Int.ediv_lt_iff_lt_mul h0] at q
    omega
  · rw [hl, Int.toNat_natCast, Nat.one_mul]
    refine decide_eq_false ?_
    have : n ≤ sizeLine := small_line (by omega)
    omega
end G
namespace G
open PySem L2
/-- a writer's own -/
abbrev wrO (C p q : Addr) (R : Nat) (sg lo wd : Int) (sure : List Nat) (w mn : Nat) : SA := ob p C [("signs", .int sg), ("mind", .ref q), ("room", .int (R : Nat)), ("full", .int (2 ^ R)), ("low", .int lo), ("width", .int wd), ("sure", .str (dgs sure)), ("wait", .int (w : Nat)), ("many", .int (mn : Nat))]
def spWCarried (K : PySem.W.Frag) (C : Addr) : Sp := fun vs H Q _ => ∃ p q R sg lo wd sure w mn L, vs = [.ref p] ∧ 1 ≤ w ∧ w ≤ 3000 ∧ HS H (wrO C p q R sg lo wd sure w mn :: L) ∧ ∀ H', HS H' (wrO C p q R sg lo wd sure w mn :: L) → Q (.str (dgs (crd w))) H'
def spWWaiting (K : PySem.W.Frag) (C : Addr) : Sp := fun vs H Q _ => ∃ p q R sg lo wd sure w mn L, vs = [.ref p] ∧ w ≤ 3000 ∧ HS H (wrO C p q R sg lo wd sure w mn :: L) ∧ ∀ H', HS H' (wrO C p q R sg lo wd sure w mn :: L) → Q (.str (dgs (wtn w))) H'
def spWCarry (K : PySem.W.Frag) (C : Addr) : Sp := fun vs H Q _ => ∃ p q R sg lo wd sure w mn L, vs = [.ref p] ∧ 1 ≤ w ∧ w ≤ 3000 ∧ sure.length ≤ 3000 ∧ HS H (wrO C p q R sg lo wd sure w mn :: L) ∧ ∀ H', HS H' (wrO C p q R sg (lo - 2 ^ R) wd (sure ++ crd w) 0 mn :: L) → Q .non H'
end G
namespace G
open PySem L2
def spWShift (K : PySem.W.Frag) (C : Addr) : Sp := fun vs H Q _ => ∃ p q R sg lo wd sure w mn L, vs = [.ref p] ∧ 0 ≤ lo ∧ lo < 2 ^ R ∧ R ≤ 20 ∧ 0 ≤ wd ∧ wd ≤ 2 ^ 20 ∧ w ≤ 2900 ∧ sure.length ≤ 2900 ∧ HS H (wrO C p q R sg lo wd sure w mn :: L) ∧
  (2 * lo < 2 ^ R → ∀ H', HS H' (wrO C p q R sg (2 * lo) (2 * wd) (sure ++ wtn w) 1 mn :: L) → Q .non H') ∧ (2 ^ R ≤ 2 * lo → 0 < w → ∀ H', HS H' (wrO C p q R sg (2 * lo - 2 ^ R) (2 * wd) sure (w + 1) mn :: L) → Q .non H') ∧
  (2 ^ R ≤ 2 * lo → w = 0 → ∀ H', HS H' (wrO C p q R sg (2 * lo - 2 ^ R) (2 * wd) (sure ++ [1]) 0 mn :: L) → Q .non H')
theorem wv_init (R : Nat) : Wv R 0 (2 ^ R) 0 [] 0 := by
  have := ipow_pos R
  refine ⟨by simp, rfl, ?_, ?_, fun _ => ?_⟩
  · show (0 : Int) * 2 ^ R ≤ 0; omega
  · show (0 : Int) < (0 + 1) * 2 ^ R; omega
  · show (0 : Int) + 2 ^ R ≤ (0 + 1) * 2 ^ R; omega
section
variable (K : PySem.W.Frag) (Sh Pl Le Ah Bl Wr : Addr)
def wrS (p : Addr) (R : Nat) (y : Rnd) (k : Nat) (sg : Int) : SA := exA fun q : Addr => exA fun sure : List Nat => exA fun w : Nat => G.st (wrO Wr p q R sg (wlow R y.lo sure w) y.wd sure w k) (G.st (msa K Sh Pl Le Ah Bl y.m q) (pu (Wv R y.lo y.wd y.mn sure w)))
def spWInit : Sp := fun vs H Q _ => ∃ p x m R L, vs = [.ref p, x, .int (R : Nat)] ∧ HS H (ob p Wr [] :: L) ∧ MdR K L x m ∧ MOk 3 m ∧ 4 ≤ R ∧ R ≤ 20 ∧ 8 * mst m ≤ 2 ^ R ∧ ∀ H', HS H' (wrS K Sh Pl Le Ah Bl Wr p R (rnd0 R m) 0 (nsg m) :: L) → Q .non H'
def spWPut : Sp := fun vs H Q _ => ∃ p R y k sg mo s L, vs = [.ref p, .int (s : Nat)] ∧ RndOk R k y sg mo ∧ k < 60 ∧ (s : Int) < sg ∧ HS H (wrS K Sh Pl Le Ah Bl Wr p R y k sg :: L) ∧ ∀ H', HS H' (wrS K Sh Pl Le Ah Bl Wr p R (rnd R y s) (k + 1) sg :: L) → Q .non H'
def spWEnd : Sp := fun vs H Q _ => ∃ p R y k sg mo L, vs = [.ref p] ∧ RndOk R k y sg mo ∧ k ≤ 60 ∧ HS H (wrS K Sh Pl Le Ah Bl Wr p R y k sg :: L) ∧ ∀ H', HS H' (wrS K Sh Pl Le Ah Bl Wr p R y k sg :: L) → Q (.str (dgs (wbits R y))) H'
end
def spWritten (K : PySem.W.Frag) : Sp := fun vs H Q _ => ∃ x r m R ss L, vs = [x, .int (R : Nat), .ref r] ∧ HS H L ∧ MdR K L x m ∧ MOk 3 m ∧ 4 ≤ R ∧ R ≤ 20 ∧ 8 * mst m ≤ 2 ^ R ∧ RdL K L r (iv (List.map Int.ofNat ss)) ∧ ss.length ≤ 60 ∧ (∀ s ∈ ss, (s : Int) < nsg m) ∧ ∀ H', HS H' L → Q (.str (dgs (wbits R (rnds R (rnd0 R m) ss)))) H'
section
variable {K : PySem.W.Frag} {Sh Pl Le Ah Bl Wr p q r : Addr} {H : Hp} {Q : VK} {E : XK} {L F : List SA} {x : V} {y : Rnd} {m : Mdl} {sg mo i : Int} {R k : Nat}
instance : Key (wrS K Sh Pl Le Ah Bl Wr p R y k sg) p := ⟨⟩
theorem HS.wr_in (h : HS H (wrS K Sh Pl Le Ah Bl Wr p R y k sg :: L)) : ∃ q sure w, Wv R y.lo y.wd y.mn sure w ∧ HS H (wrO Wr p q R sg (wlow R y.lo sure w) y.wd sure w k :: msa K Sh Pl Le Ah Bl y.m q :: L) := by
  obtain ⟨q, h⟩ := HS.ex_in h
  obtain ⟨sure, h⟩ := HS.ex_in h
  obtain ⟨w, h⟩ := HS.ex_in h
  have h1 := HS.st3 h
  obtain ⟨v, h2⟩ := (h1.pk (.there (.there .here))).pu_in
  exact ⟨q, sure, w, v, h2⟩
theorem HS.wr_out {sure : List Nat} {w : Nat} (v : Wv R y.lo y.wd y.mn sure w) (h : HS H (wrO Wr p q R sg (wlow R y.lo sure w) y.wd sure w k :: msa K Sh Pl Le Ah Bl y.m q :: L)) : HS H (wrS K Sh Pl Le Ah Bl Wr p R y k sg :: L) := by
  refine HS.ex_out q (HS.ex_out sure (HS.ex_out w ?_))
  have h0 := HS.pu_out v h
  exact HS.st3o ((h0.pk (.there (.there .here))).pk (.there (.there .here)))
theorem s_mthWr {a C : Addr} {σ : L2.St} {L' : List SA} {mt : Str} {sp : Sp} {t : TA} [hs : HS H L] [o : Own L a (wrS K Sh Pl Le Ah Bl C a R y k sg) L'] (l : ∀ v1 v2 v3 v4 v5 v6 v7 v8 v9 : V, List.lookup mt [(("signs" : Str), v1), ("mind", v2), ("room", v3), ("full", v4), ("low", v5), ("width", v6), ("sure", v7), ("wait", v8), ("many", v9)] = none) (h : t σ H fun vs H2 => sp (.ref a :: (vs ++ [])) H2 Q E) : mthK C mt sp E t σ Q (.ref a) H := by
  obtain ⟨q, sure, w, v, h2⟩ := (hs.pk o.pk).wr_in
  obtain ⟨dx, e⟩ := h2.ins
  exact ⟨a, dx, _, rfl, e, l _ _ _ _ _ _ _ _ _, h⟩
theorem c_wInit (e : i = (R : Nat)) [hs : HS H L] [o : Own L p (ob p Wr []) F] [rd : MdR K F x m] (ok : MOk 3 m) (r4 : 4 ≤ R) (r20 : R ≤ 20) (hm : 8 * mst m ≤ 2 ^ R) (h : ∀ H', HS H' (wrS K Sh Pl Le Ah Bl Wr p R (rnd0 R m) 0 (nsg m) :: F) → Q .non H') : spWInit K Sh Pl Le Ah Bl Wr [.ref p, x, .int i] H Q E := ⟨p, x, m, R, F, by rw [e], hs.pk o.pk, rd, ok, r4, r20, hm, h⟩
theorem c_wPut (s : Nat) (e : i = (s : Nat)) [hs : HS H L] [o : Own L p (wrS K Sh Pl Le Ah Bl Wr p R y k sg) F] (ok : RndOk R k y sg mo) (hk : k < 60) (hl : (s : Int) < sg) (h : ∀ H', HS H' (wrS K Sh Pl Le Ah Bl Wr p R (rnd R y s) (k + 1) sg :: F) → Q .non H') : spWPut K Sh Pl Le Ah Bl Wr [.ref p, .int i] H Q E := ⟨p, R, y, k, sg, mo, s, F, by rw [e], ok, hk, hl, hs.pk o.pk, h⟩
theorem c_wEnd [hs : HS H L] [o : Own L p (wrS K Sh Pl Le Ah Bl Wr p R y k sg) F] (ok : RndOk R k y sg mo) (hk : k ≤ 60) (h : ∀ H', HS H' (wrS K Sh Pl Le Ah Bl Wr p R y k sg :: F) → Q (.str (dgs (wbits R y))) H') : spWEnd K Sh Pl Le Ah Bl Wr [.ref p] H Q E := ⟨p, R, y, k, sg, mo, F, rfl, ok, hk, hs.pk o.pk, h⟩
theorem c_written (R : Nat) (ss : List Nat) (e : i = (R : Nat)) [hs : HS H L] [rm : MdR K L x m] [rd : RdL K L r (iv (List.map Int.ofNat ss))] (ok : MOk 3 m) (r4 : 4 ≤ R) (r20 : R ≤ 20) (hm : 8 * mst m ≤ 2 ^ R) (hl : ss.length ≤ 60) (hss : ∀ s ∈ ss, (s : Int) < nsg m)
    (h : ∀ H', HS H' L → Q (.str (dgs (wbits R (rnds R (rnd0 R m) ss)))) H') : spWritten K [x, .int i, .ref r] H Q E := ⟨x, r, m, R, ss, L, by rw [e], hs, rm, ok, r4, r20, hm, rd, hl, hss, h⟩
end
end G

namespace G
open PySem L2
/-! The digits with which all numbers of a stretch begin. -/
def cp : List Nat → List Nat → List Nat
  | a :: as, b :: bs => if a = b then a :: cp as bs else []
  | _, _ => []
theorem cp_app : ∀ (a x y : List Nat), cp (a ++ x) (a ++ y) = a ++ cp x y
  | [], x, y => rfl
  | c :: a, x, y => by
    show (if c = c then c :: cp (a ++ x) (a ++ y) else []) = _
    rw [if_pos rfl, cp_app a]; rfl
theorem cp_ne {a b : Nat} {x y : List Nat} (h : a ≠ b) : cp (a :: x) (b :: y) = [] := if_neg h
theorem cp_le : ∀ (x y : List Nat), (cp x y).length ≤ x.length
  | [], y => by cases y <;> simp [cp]
  | a :: x, [] => by simp [cp]
  | a :: x, b :: y => by
    simp only [cp]
    split
    · have := cp_le x y
      simp only [List.length_cons]; omega
    · simp
/-- two lists of one length that are not the same part at their common begin's end -/
theorem cp_end : ∀ (x y : List Nat), x.length = y.length → x ≠ y → (cp x y).length < x.length ∧ x.take (cp x y).length = cp x y ∧ y.take (cp x y).length = cp x y ∧ x[(cp x y).length]? ≠ y[(cp x y).length]?
  | [], [], _, h => absurd rfl h
  | [], _ :: _, h, _ => by cases h
  | _ :: _, [], h, _ => by cases h
  | a :: x, b :: y, h, hne => by
    by_cases e : a = b
    · subst e
      have hl : x.length = y.length := by simpa using h
      obtain ⟨c1, c2, c3, c4⟩ := cp_end x y hl (fun q => hne (by rw [q]))
      have ec : cp (a :: x) (a :: y) = a :: cp x y := if_pos rfl
      rw [ec, List.length_cons, List.length_cons, List.take_succ_cons, List.take_succ_cons, c2, c3, List.getElem?_cons_succ, List.getElem?_cons_succ]
      exact ⟨by omega, rfl, rfl, c4⟩
    · rw [cp_ne e]
      refine ⟨by simp, rfl, rfl, ?_⟩
      simpa using e
theorem bits_split {bs : List Nat} {r : Int} {n : Nat} (hb : ∀ b ∈ bs, b < 2) (r0 : 0 ≤ r) (r1 : r < 2 ^ n) : bitsN (valB bs * 2 ^ n + r) (bs.length + n) = bs ++ bitsN r n := by
  obtain ⟨v0, v1⟩ := valB_lt bs hb
  have hn := ipow_pos n
  have h0 : 0 ≤ valB bs * 2 ^ n := Int.mul_nonneg v0 (by omega)
  have h1 : valB bs * 2 ^ n + 1 * 2 ^ n ≤ 2 ^ bs.length * 2 ^ n := by rw [← Int.add_mul]; exact Int.mul_le_mul_of_nonneg_right (by omega) (by omega)
  rw [← Int.pow_add] at h1
  refine valB_inj _ _ (by rw [List.length_append, bitsN_len, bitsN_len]) (bitsN_lt _ _) (fun b q => ?_) ?_
  · rcases List.mem_append.mp q with q | q
    · exact hb b q
    · exact bitsN_lt _ _ b q
  · rw [bitsN_val _ _ (by omega) (by omega), valB_app, bitsN_len, bitsN_val _ _ r0 r1]
theorem bits_head {r : Int} {n : Nat} (b : Nat) (hb : b < 2) (r0 : (b : Int) * 2 ^ n ≤ r) (r1 : r < (b + 1) * 2 ^ n) : bitsN r (n + 1) = b :: bitsN (r - b * 2 ^ n) n := by
  have := bits_split (bs := [b]) (r := r - b * 2 ^ n) (n := n) (fun c hc => by rw [List.mem_singleton.mp hc]; exact hb) (by omega) (by rw [Int.add_mul, Int.one_mul] at r1; omega)
  rw [show valB [b] = (b : Int) by show 2 * (0 : Int) + b = b; omega, show (b : Int) * 2 ^ n + (r - b * 2 ^ n) = r by omega, List.length_singleton, Nat.add_comm 1 n] at this
  exact this
def wdig (R : Nat) (y : Rnd) : List Nat := cp (bitsN y.lo (R + y.mn)) (bitsN (y.lo + y.wd - 1) (R + y.mn))
theorem wv_dig {R : Nat} {y : Rnd} {sure : List Nat} {w : Nat} (h : Wv R y.lo y.wd y.mn sure w) (w1 : 1 ≤ y.wd) (w2 : y.wd ≤ 2 ^ R) :
    (wlow R y.lo sure w + y.wd - 1 < 2 ^ R → wdig R y = sure ++ wtn w ++ cp (bitsN (wlow R y.lo sure w) R) (bitsN (wlow R y.lo sure w + y.wd - 1) R)) ∧
    (2 ^ R ≤ wlow R y.lo sure w + y.wd - 1 → wdig R y = sure) := by
  obtain ⟨l0, l1⟩ := h.low
  have hl := h.len
  have hb : ∀ b ∈ sure ++ wtn w, b < 2 := fun b q => by
    rcases List.mem_append.mp q with q | q
    · exact h.bit b q
    · exact wtn_bit w b q
  have elen : (sure ++ wtn w).length = y.mn := by rw [List.length_append, wtn_len]; exact hl
  have hw : wlow R y.lo sure w = y.lo - valB (sure ++ wtn w) * 2 ^ R := rfl
  have e1 : bitsN y.lo (R + y.mn) = sure ++ wtn w ++ bitsN (wlow R y.lo sure w) R := by
    have := bits_split (r := wlow R y.lo sure w) (n := R) hb l0 l1
    rw [elen, show valB (sure ++ wtn w) * 2 ^ R + wlow R y.lo sure w = y.lo by omega, Nat.add_comm] at this
    exact this
  unfold wdig
  rw [e1]
  constructor
  · intro hlt
    have := bits_split (r := wlow R y.lo sure w + y.wd - 1) (n := R) hb (by omega) hlt
    rw [elen, show valB (sure ++ wtn w) * 2 ^ R + (wlow R y.lo sure w + y.wd - 1) = y.lo + y.wd - 1 by omega, Nat.add_comm] at this
    rw [this, cp_app]
  · intro hge
    have ww : 1 ≤ w := by
      rcases Nat.eq_zero_or_pos w with q | q
      · have := h.w0 q
        rw [Int.add_mul, Int.one_mul] at this
        omega
      · exact q
    have hc : ∀ b ∈ sure ++ crd w, b < 2 := fun b q => by
      rcases List.mem_append.mp q with q | q
      · exact h.bit b q
      · exact crd_bit w b q
    have := bits_split (r := wlow R y.lo sure w + y.wd - 1 - 2 ^ R) (n := R) hc (by omega) (by omega)
    rw [crd_val ww, List.length_append, crd_len ww, hl, Int.add_mul, Int.one_mul, show valB (sure ++ wtn w) * 2 ^ R + 2 ^ R + (wlow R y.lo sure w + y.wd - 1 - 2 ^ R) = y.lo + y.wd - 1 by omega, Nat.add_comm] at this
    rw [this, List.append_assoc, List.append_assoc, cp_app]
    have e2 : wtn w = 0 :: List.replicate (w - 1) 1 := by unfold wtn; rw [if_pos (show 0 < w from ww)]
    rw [e2]
    unfold crd
    rw [List.cons_append, List.cons_append, cp_ne (by decide), List.append_nil]
/-- halving towards a stretch: found so far -/
structure Cmn (lo hi : Int) (deep j : Nat) (found : List Nat) (bg : Int) : Prop where
  bit : ∀ b ∈ found, b < 2
  len : found.length = j
  le : j ≤ deep
  bg1 : bg = valB found * 2 ^ (deep - j)
  lo1 : bg ≤ lo
  hi1 : hi ≤ bg + 2 ^ (deep - j)
theorem Cmn.zero {lo hi : Int} {deep j : Nat} {found : List Nat} {bg : Int} (h : Cmn lo hi deep j found bg) (hj : j < deep) (q : hi ≤ bg + 2 ^ (deep - (j + 1))) : Cmn lo hi deep (j + 1) (found ++ [0]) bg := by
  obtain ⟨a, b, c, d, e, f⟩ := h
  have e2 : (2 : Int) ^ (deep - j) = 2 * 2 ^ (deep - (j + 1)) := by rw [pow_half (show 1 ≤ deep - j by omega), show deep - j - 1 = deep - (j + 1) by omega]
  refine ⟨fun x hx => ?_, by simp [b], hj, ?_, e, q⟩
  · rcases List.mem_append.mp hx with z | z
    · exact a x z
    · rw [List.mem_singleton.mp z]; decide
  · rw [valB_snoc, d, e2, Int.mul_comm 2 (valB found), Int.add_mul, Int.mul_assoc]; simp
theorem Cmn.one {lo hi : Int} {deep j : Nat} {found : List Nat} {bg : Int} (h : Cmn lo hi deep j found bg) (hj : j < deep) (q : bg + 2 ^ (deep - (j + 1)) ≤ lo) : Cmn lo hi deep (j + 1) (found ++ [1]) (bg + 2 ^ (deep - (j + 1))) := by
  obtain ⟨a, b, c, d, e, f⟩ := h
  have e2 : (2 : Int) ^ (deep - j) = 2 * 2 ^ (deep - (j + 1)) := by rw [pow_half (show 1 ≤ deep - j by omega), show deep - j - 1 = deep - (j + 1) by omega]
  refine ⟨fun x hx => ?_, by simp [b], hj, ?_, q, by omega⟩
  · rcases List.mem_append.mp hx with z | z
    · exact a x z
    · rw [List.mem_singleton.mp z]; decide
  · rw [valB_snoc, d, e2, Int.mul_comm 2 (valB found), Int.add_mul, Int.mul_assoc]; simp
theorem Cmn.stop {lo hi : Int} {deep j : Nat} {found : List Nat} {bg : Int} (h : Cmn lo hi deep j found bg) (hj : j < deep) (q1 : lo < bg + 2 ^ (deep - (j + 1))) (q2 : bg + 2 ^ (deep - (j + 1)) < hi) : cp (bitsN lo deep) (bitsN (hi - 1) deep) = found := by
  obtain ⟨a, b, c, d, e, f⟩ := h
  have e2 : (2 : Int) ^ (deep - j) = 2 * 2 ^ (deep - (j + 1)) := by rw [pow_half (show 1 ≤ deep - j by omega), show deep - j - 1 = deep - (j + 1) by omega]
  have hp := ipow_pos (deep - (j + 1))
  have s1 := bits_split (r := lo - bg) (n := deep - j) a (by omega) (by omega)
  have s2 := bits_split (r := hi - 1 - bg) (n := deep - j) a (by omega) (by omega)
  rw [← d, b, show j + (deep - j) = deep by omega] at s1 s2
  rw [show bg + (lo - bg) = lo by omega] at s1
  rw [show bg + (hi - 1 - bg) = hi - 1 by omega] at s2
  rw [s1, s2, cp_app, show deep - j = deep - (j + 1) + 1 by omega, bits_head 0 (by decide) (by omega) (by omega), bits_head 1 (by decide) (by omega) (by omega), cp_ne (by decide), List.append_nil]
end G
namespace G
open PySem L2
section
variable (K : PySem.W.Frag) (Sh Pl Le Ah Bl Wr : Addr)
def spWDigits : Sp := fun vs H Q _ => ∃ p R y k sg mo L, vs = [.ref p] ∧ RndOk R k y sg mo ∧ k ≤ 60 ∧ HS H (wrS K Sh Pl Le Ah Bl Wr p R y k sg :: L) ∧ ∀ H', HS H' (wrS K Sh Pl Le Ah Bl Wr p R y k sg :: L) → Q (.str (dgs (wdig R y))) H'
end
def spCommon (K : PySem.W.Frag) : Sp := fun vs H Q _ => ∃ lo hi deep L, vs = [.int lo, .int hi, .int (deep : Nat)] ∧ 0 ≤ lo ∧ lo + 2 ≤ hi ∧ hi ≤ 2 ^ deep ∧ deep ≤ 1500 ∧ HS H L ∧ ∀ H', HS H' L → Q (.str (dgs (cp (bitsN lo deep) (bitsN (hi - 1) deep)))) H'
section
variable {K : PySem.W.Frag} {Sh Pl Le Ah Bl Wr p : Addr} {H : Hp} {Q : VK} {E : XK} {L F : List SA} {y : Rnd} {sg mo i lo hi : Int} {R k : Nat}
theorem c_wDigits [hs : HS H L] [o : Own L p (wrS K Sh Pl Le Ah Bl Wr p R y k sg) F] (ok : RndOk R k y sg mo) (hk : k ≤ 60) (h : ∀ H', HS H' (wrS K Sh Pl Le Ah Bl Wr p R y k sg :: F) → Q (.str (dgs (wdig R y))) H') : spWDigits K Sh Pl Le Ah Bl Wr [.ref p] H Q E := ⟨p, R, y, k, sg, mo, F, rfl, ok, hk, hs.pk o.pk, h⟩
theorem c_common (deep : Nat) (e : i = (deep : Nat)) (l0 : 0 ≤ lo) (l2 : lo + 2 ≤ hi) (h1 : hi ≤ 2 ^ deep) (hd : deep ≤ 1500) [hs : HS H L] (h : ∀ H', HS H' L → Q (.str (dgs (cp (bitsN lo deep) (bitsN (hi - 1) deep)))) H') : spCommon K [.int lo, .int hi, .int i] H Q E := ⟨lo, hi, deep, L, by rw [e], l0, l2, h1, hd, hs, h⟩
theorem s_ixD {bs : List Nat} {j b : Nat} (hz : bs.length ≤ 100000) (h : bs[j]? = some b) (k : Q (ch b) H) : rIx K (.str (dgs bs)) (.int (j : Int)) H Q := by
  refine .inr (.inr ⟨_, _, 48 + b, rfl, rfl, small_line (by rw [dgs_len]; exact hz), ?_, k⟩)
  have e : (dgs bs).cps.toList = bs.map (48 + ·) := rfl
  rw [e]
  exact atI_nat (by rw [List.getElem?_map, h]; rfl)
theorem s_slD {bs : List Nat} {j : Nat} (hz : bs.length ≤ 100000) (k : Q (.str (dgs (bs.take j))) H) : rSlG K (.str (dgs bs)) none (some (j : Int)) H Q := by
  refine .inr (.inr ⟨_, rfl, small_line (by rw [dgs_len]; exact hz), ?_⟩)
  have e : cutS (dgs bs) none (some (j : Int)) = dgs (bs.take j) := by
    unfold cutS
    rw [HT.sIx_none, HT.sIx_nat, List.drop_zero, Nat.sub_zero]
    have e1 : (dgs bs).cps.toList = bs.map (48 + ·) := rfl
    rw [e1, dgs_len]
    unfold dgs
    rw [← List.map_take]
    congr 3
    rw [← List.take_eq_take_min]
  rw [e]; exact k
end
end G

namespace G
open PySem L2
/-! `<` of data of one shape (lists of ints). -/
def rLtD (K : PySem.W.Frag) : R2 := fun x y H Q => ∃ dx dy, Dp K H x dx ∧ Dp K H y dy ∧ PySem.W.alike dx dy = true ∧ dx ≠ .none ∧ min dx.depth dy.depth ≤ 5 ∧ Q (.bl (PySem.W.dataLt dx dy)) H
section
open PySem PySem.Spec PyProof.Rows
theorem op_ltD {X : Cx} (hu : X.A.units + 64 < cLine) : OpR X (compareOp .Lt) (rLtD X.K) := by
  intro pins s σ H x y v u Q I rx ry h
  obtain ⟨dx, dy, h1, h2, ha, hn, hd, q⟩ := h
  obtain ⟨as, r1⟩ := Dp.reads I dx x v h1 rx
  obtain ⟨bs, r2⟩ := Dp.reads I dy y u h2 ry
  exact PySem.W.rcLt_alike dx dy _ s v u as bs r1 r2 ha hn (by omega) _ _ _ _ ⟨.bl _, H, I, rfl, q⟩
end
/-- lists of ints, one after the other -/
theorem alike_iv : ∀ (as bs : List Int), PySem.W.alikeAll (as.map .int) (bs.map .int) = true
  | [], bs => by cases bs <;> simp [PySem.W.alikeAll]
  | a :: as, [] => by simp [PySem.W.alikeAll]
  | a :: as, b :: bs => by simp [PySem.W.alikeAll, PySem.W.alike, alike_iv as bs]
end G

namespace G
open PySem L2
/-! rows in their order -/
def ltR : List Nat → List Nat → Bool
  | a :: as, b :: bs => if a = b then ltR as bs else decide (a < b)
  | [], _ :: _ => true
  | _, [] => false
def rowD (ss : List Nat) : PyData := .list ((ss.map Int.ofNat).map .int)
theorem ltR_toks : ∀ (as bs : List Nat), PyProof.Rows.lexLt PyProof.Rows.itemOrd (PySem.W.keyToksAll ((as.map Int.ofNat).map .int)) (PySem.W.keyToksAll ((bs.map Int.ofNat).map .int)) = ltR as bs
  | [], [] => by simp [PySem.W.keyToksAll, PyProof.Rows.lex_irrefl, ltR]
  | [], b :: bs => by
    rw [List.map_cons, List.map_cons, PySem.W.toks_all_cons]
    simp only [List.map_nil, PySem.W.keyToksAll]
    rw [PyProof.Rows.lex_diff (O := PyProof.Rows.itemOrd) (by simp)]
    simp [PyProof.Rows.itemLt, ltR]
  | a :: as, [] => by
    rw [List.map_cons, List.map_cons, PySem.W.toks_all_cons]
    simp only [List.map_nil, PySem.W.keyToksAll]
    rw [PyProof.Rows.lex_diff (O := PyProof.Rows.itemOrd) (by simp)]
    simp [PyProof.Rows.itemLt, ltR]
  | a :: as, b :: bs => by
    have ih := ltR_toks as bs
    simp only [List.map_cons]
    by_cases e : a = b
    · subst e
      rw [PySem.W.dataLt_all_yes (by simp [PySem.W.alike]) (by simp [PyData.eqv]), ih]
      simp [ltR]
    · rw [PySem.W.dataLt_all_no (by simp [PySem.W.alike]) (by simp [PyData.eqv]; exact fun q => e (by omega)), PySem.W.dataLt_int]
      simp [ltR, e]
theorem dataLt_row (as bs : List Nat) : PySem.W.dataLt (rowD as) (rowD bs) = ltR as bs := by
  rw [← ltR_toks]
  simp [PySem.W.dataLt, rowD, PySem.W.keyToks]
theorem s_ltRow {K : PySem.W.Frag} {H : Hp} {Q : VK} {L : List SA} {p q : Addr} (as bs : List Nat) [hs : HS H L] [m : RdL K L p (iv (as.map Int.ofNat))] [m2 : RdL K L q (iv (bs.map Int.ofNat))] (h : Q (.bl (ltR as bs)) H) : rLtD K (.ref p) (.ref q) H Q := by
  refine ⟨rowD as, rowD bs, .lst (m.sq hs) (dpAll_iv _), .lst (m2.sq hs) (dpAll_iv _), ?_, (fun e => by cases e), ?_, ?_⟩
  · show PySem.W.alike (.list _) (.list _) = true
    rw [PySem.W.alike]; exact alike_iv _ _
  · have : (rowD as).depth ≤ 5 := by
      show (PyData.list _).depth ≤ 5
      simp only [PyData.depth]
      rw [iv_depth]
      omega
    omega
  · rw [dataLt_row]; exact h
theorem op_ltDK {X : Cx} {K : PySem.W.Frag} (h : X.K = K) (hu : X.A.units + 64 < cLine) : OpR X (compareOp .Lt) (rLtD K) := h ▸ op_ltD hu
/-! what digits tell rises with the number -/
theorem sgnQ_mono {k : Nat} {x : Nar} {sg mo : Int} {n n' : Int} {D : Nat} (h : NarOk k x sg mo) (hn : n ≤ n') : sgnQ x n D ≤ sgnQ x n' D := by
  have g := h.ok.good
  have hS := g.1.sum_pos
  have hp := ipow_pos D
  have hW : 0 < x.wd * 2 ^ D := by
    have := Int.mul_le_mul h.wd0 hp (by decide) (by have := h.wd0; omega)
    omega
  have hpa : 0 ≤ x.pa := by have := h.le; have := h.lo0; have := h.wd0; omega
  unfold sgnQ
  refine Int.ediv_le_ediv hW (Int.mul_le_mul_of_nonneg_right ?_ (by omega))
  have := Int.mul_le_mul_of_nonneg_right hn hpa
  omega
theorem signF_mono {cs : List Int} (g : Good cs) {x y : Int} (x0 : 0 ≤ x) (y1 : y < cs.sum) (h : x ≤ y) : signF cs x ≤ signF cs y := by
  obtain ⟨a1, a2, _⟩ := filter_sign g x0 (by omega)
  obtain ⟨b1, b2, _⟩ := filter_sign g (show 0 ≤ y by omega) y1
  rcases Nat.lt_or_ge (signF cs y) (signF cs x) with q | q
  · exfalso
    have a1 : (cs.take (signF cs x)).sum ≤ x := a1
    have b2 : y < (cs.take (signF cs y + 1)).sum := b2
    have := take_mono cs g.nn (show signF cs y + 1 ≤ signF cs x from q)
    omega
  · exact q
theorem ltR_snoc : ∀ (as bs : List Nat) (s t : Nat), as.length = bs.length → (as ≠ bs → ltR (as ++ [s]) (bs ++ [t]) = ltR as bs) ∧ (as = bs → ltR (as ++ [s]) (bs ++ [t]) = decide (s < t))
  | [], [], s, t, _ => by
    refine ⟨fun h => absurd rfl h, fun _ => ?_⟩
    simp only [List.nil_append, ltR]
    split
    · subst_vars; simp
    · rfl
  | [], _ :: _, s, t, h => by cases h
  | _ :: _, [], s, t, h => by cases h
  | a :: as, b :: bs, s, t, h => by
    have hl : as.length = bs.length := by simpa using h
    obtain ⟨i1, i2⟩ := ltR_snoc as bs s t hl
    simp only [List.cons_append, ltR]
    by_cases e : a = b
    · subst e
      simp only [if_true, List.cons.injEq, true_and]
      exact ⟨fun q => i1 fun z => q (by rw [z]), fun q => i2 q⟩
    · simp only [if_neg e]
      exact ⟨fun _ => trivial, fun q => absurd (List.cons.inj q).1 e⟩
theorem ltR_irr : ∀ as : List Nat, ltR as as = false
  | [] => rfl
  | a :: as => by simp only [ltR, if_true]; exact ltR_irr as
theorem tld_mono {m : Mdl} {n n' : Int} {D : Nat} (mok : MOk 3 m) (n0 : 0 ≤ n) (hn : n ≤ n') (n1 : n' < 2 ^ D) : ∀ j, ltR (tldS m n' D j) (tldS m n D j) = false
  | 0 => by simp [tldS, ltR]
  | j + 1 => by
    have ih := tld_mono mok n0 hn n1 j
    have a := tld_ok mok n0 (show n < 2 ^ D by omega) j
    have b := tld_ok mok (show 0 ≤ n' by omega) n1 j
    obtain ⟨i1, i2⟩ := ltR_snoc (tldS m n' D j) (tldS m n D j) (sgn (nars (nar0 m) (tldS m n' D j)) n' D) (sgn (nars (nar0 m) (tldS m n D j)) n D) (by rw [a.len, b.len])
    show ltR (tldS m n' D j ++ [_]) (tldS m n D j ++ [_]) = false
    by_cases e : tldS m n' D j = tldS m n D j
    · rw [i2 e, e, decide_eq_false_iff_not, Nat.not_lt]
      have nk := (NarOk.begun mok).nars _ a.sg
      have bi := b.ins
      rw [e] at bi
      obtain ⟨q0, q1, _⟩ := sgnQ_ok nk a.ins
      obtain ⟨r0, r1, _⟩ := sgnQ_ok nk bi
      exact signF_mono nk.ok.good.1 q0 r1 (sgnQ_mono nk hn)
    · rw [i1 e]; exact ih
/-! noughts behind -/
theorem ins_zero {x : Nar} {n : Int} {D : Nat} (h : InS x n D) (t : Nat) : InS x (n * 2 ^ t) (D + t) := by
  obtain ⟨a, b⟩ := h
  have hp := ipow_pos t
  unfold InS
  rw [Int.pow_add, ← Int.mul_assoc, ← Int.mul_assoc, show n * 2 ^ t * x.pa = n * x.pa * 2 ^ t by simp only [Int.mul_assoc, Int.mul_comm, Int.mul_left_comm]]
  exact ⟨Int.mul_le_mul_of_nonneg_right a (by omega), Int.mul_lt_mul_of_pos_right b (by omega)⟩
theorem tld_zero {m : Mdl} {n : Int} {D : Nat} (mok : MOk 3 m) (n0 : 0 ≤ n) (n1 : n < 2 ^ D) (t j : Nat) : tldS m (n * 2 ^ t) (D + t) j = tldS m n D j := by
  have a := tld_ok mok n0 n1 j
  have := tld_row (D := D + t) (n := n * 2 ^ t) mok a.sg (ins_zero a.ins t) j (by rw [a.len]; exact Nat.le_refl _)
  rw [this]
  exact List.take_of_length_le (by rw [a.len]; exact Nat.le_refl _)
theorem tld_take {m : Mdl} {n : Int} {D : Nat} (mok : MOk 3 m) (n0 : 0 ≤ n) (n1 : n < 2 ^ D) {i j : Nat} (h : i ≤ j) : tldS m n D i = (tldS m n D j).take i := by
  have a := tld_ok mok n0 n1 j
  exact tld_row mok a.sg a.ins i (by rw [a.len]; exact h)
/-- a nought made a one -/
theorem val_up {bs : List Nat} {k : Nat} (h : bs[k]? = some 0) : valB bs ≤ valB (bs.take k ++ [1] ++ bs.drop (k + 1)) := by
  have hk := (List.getElem?_eq_some_iff.mp h).1
  have e : bs = bs.take k ++ [0] ++ bs.drop (k + 1) := by
    have h1 : bs.take (k + 1) = bs.take k ++ [0] := by rw [List.take_add_one, h]; rfl
    rw [← h1, List.take_append_drop]
  conv => lhs; rw [e]
  rw [valB_app, valB_app, valB_app (bs.take k ++ [1]), valB_app (bs.take k)]
  have hp := ipow_pos (bs.drop (k + 1)).length
  have : valB [0] ≤ valB [1] := by decide
  have := Int.mul_le_mul_of_nonneg_right (show valB (bs.take k) * 2 ^ [0].length + valB [0] ≤ valB (bs.take k) * 2 ^ [1].length + valB [1] by simp only [List.length_singleton]; omega) (show (0 : Int) ≤ 2 ^ (bs.drop (k + 1)).length by omega)
  omega
end G
namespace G
open PySem L2
/-! parts of digits -/
theorem dgs_list (bs : List Nat) : (dgs bs).cps.toList = bs.map (48 + ·) := rfl
theorem s_slDD {K : PySem.W.Frag} {H : Hp} {Q : VK} {bs : List Nat} {i j : Nat} (hz : bs.length ≤ 100000) (k : Q (.str (dgs ((bs.take j).drop i))) H) : rSlG K (.str (dgs bs)) (some (i : Int)) (some (j : Int)) H Q := by
  refine .inr (.inr ⟨_, rfl, small_line (by rw [dgs_len]; exact hz), ?_⟩)
  have e : cutS (dgs bs) (some (i : Int)) (some (j : Int)) = dgs ((bs.take j).drop i) := by
    unfold cutS
    rw [HT.sIx_nat, HT.sIx_nat, dgs_list, dgs_len]
    unfold dgs
    rw [← List.map_drop, ← List.map_take]
    congr 3
    apply List.ext_getElem?
    intro n
    simp only [List.getElem?_take, List.getElem?_drop]
    by_cases h1 : i ≤ bs.length
    · rw [Nat.min_eq_left h1]
      by_cases h2 : n < min j bs.length - i
      · rw [if_pos h2, if_pos (by omega)]
      · rw [if_neg h2]
        split
        · rw [List.getElem?_eq_none (by omega)]
        · rfl
    · rw [if_neg (by omega)]
      split
      · rw [List.getElem?_eq_none (by omega)]
      · rfl
  rw [e]; exact k
theorem s_slDr {K : PySem.W.Frag} {H : Hp} {Q : VK} {bs : List Nat} {i : Nat} (hz : bs.length ≤ 100000) (k : Q (.str (dgs (bs.drop i))) H) : rSlG K (.str (dgs bs)) (some (i : Int)) none H Q := by
  refine .inr (.inr ⟨_, rfl, small_line (by rw [dgs_len]; exact hz), ?_⟩)
  have e : cutS (dgs bs) (some (i : Int)) none = dgs (bs.drop i) := by
    unfold cutS
    rw [HT.sIx_nat, HT.sIx_none, dgs_list, dgs_len]
    unfold dgs
    rw [← List.map_drop, ← List.map_take]
    congr 3
    by_cases h1 : i ≤ bs.length
    · rw [Nat.min_eq_left h1]
      exact List.take_of_length_le (by rw [List.length_drop]; exact Nat.le_refl _)
    · rw [List.drop_of_length_le (show bs.length ≤ i by omega), Nat.min_eq_right (by omega), Nat.sub_self]; rfl
  rw [e]; exact k
theorem dgs_inj {as bs : List Nat} (h : dgs as = dgs bs) : as = bs := by
  have e1 : as.map (48 + ·) = bs.map (48 + ·) := congrArg (fun z : Str => z.cps.toList) h
  induction as generalizing bs with
  | nil => cases bs with
    | nil => rfl
    | cons b bs => cases e1
  | cons a as ih => cases bs with
    | nil => cases e1
    | cons b bs =>
      simp only [List.map_cons, List.cons.injEq] at e1
      have : a = b := by omega
      rw [this, ih (by unfold dgs; rw [e1.2]) e1.2]
theorem dgs_eq {as bs : List Nat} : (dgs as = dgs bs) ↔ as = bs := ⟨dgs_inj, fun h => by rw [h]⟩
theorem dec0 {b : Nat} : decide ((⟨#[48 + b]⟩ : Str) = Str.ofString "0") = decide (b = 0) :=
  decide_eq_decide.mpr ⟨fun q => (List.cons.inj (dgs_inj (as := [b]) (bs := [0]) q)).1, fun q => by rw [q]; rfl⟩
/-- b == "0" -/
theorem s_eq0 {K : PySem.W.Frag} {H : Hp} {Q : VK} {b : Nat} (h : Q (.bl (decide (b = 0))) H) : rEqG K (ch b) (.str (Str.ofString "0")) H Q := by
  refine s_eqS ?_
  have e : decide ((⟨#[48 + b]⟩ : Str) = Str.ofString "0") = decide (b = 0) := by
    refine decide_eq_decide.mpr ⟨fun q => ?_, fun q => by rw [q]; rfl⟩
    exact (List.cons.inj (dgs_inj (as := [b]) (bs := [0]) q)).1
  rw [e]; exact h
end G

namespace G
open PySem L2
/-! A list's methods without arguments; what comes behind a statement, behind a test, once. -/
section
open PySem PySem.Spec PyProof.Rows
theorem pe_bm0G {X : Cx} {K : PySem.W.Frag} {T name id : String} {r : V → List V → Hp → VK → Prop} {o : Expr} {to : TE} {apos cpos : Pos} (h : X.K = K) (pa : PlainAttrs T) (slot : Slot T name id) (hty : typeOf (.builtin id) = pure (.type "method_descriptor")) (hm : MtR X id r) (ho : PE X o to)
    (hbase : attributeBase o name X.env (eval o X.env) = eval o X.env := by rfl) (hline : (apos.endLine == cpos.line) = true := by rfl) : PE X (.Call (.Attribute o name apos) [] [] cpos) (tBM0 K T r to) := h ▸ pe_bm0 pa slot hty hm ho hbase hline
end
def bm0K (K : PySem.W.Frag) (T : String) (r : V → List V → Hp → VK → Prop) (Q : VK) (x : V) (H1 : Hp) : Prop := tyV K T x H1 ∧ r x [] H1 Q
section
variable {K : PySem.W.Frag} {σ : L2.St} {H : Hp} {Q : VK} {L : List SA} {te : TE} {p : Addr} {xs : List V} {T : String} {r : V → List V → Hp → VK → Prop}
theorem s_bm0 (h : te σ H fun x H1 => bm0K K T r Q x H1) : tBM0 K T r te σ H Q := h
theorem s_bm0K [hs : HS H L] [m : RdL K L p xs] (h : r (.ref p) [] H Q) : bm0K K "list" r Q (.ref p) H := ⟨.inl ⟨rfl, xs, m.sq hs⟩, h⟩
theorem tt_gen {c : TT} {Q : Bool → Hp → Prop} (P : Bool → Hp → Prop) (rest : ∀ b H', P b H' → Q b H') (h : ∀ Q' : Bool → Hp → Prop, (∀ b H', P b H' → Q' b H') → c σ H Q') : c σ H Q := h Q rest
theorem s_stR {t : TS} {D : Ends} (M : L2.St → Hp → Prop) (rest : ∀ σ' H', M σ' H' → D.nx σ' H') (h : ∀ N : L2.St → Hp → Prop, (∀ σ' H', M σ' H' → N σ' H') → t { D with nx := N } σ H) : t D σ H := h D.nx rest
theorem te_gen {t : TE} (P : V → Hp → Prop) (rest : ∀ v H', P v H' → Q v H') (h : ∀ Q' : VK, (∀ v H', P v H' → Q' v H') → t σ H Q') : t σ H Q := h Q rest
end
end G

namespace G
open PySem L2
/-! Readers. -/
/-- v by 2 ^ L lies in the rounded stretch; all numbers that begin with these digits do -/
def InR (R : Nat) (y : Rnd) (v : Int) (L : Nat) : Prop := y.lo * 2 ^ L ≤ v * 2 ^ (R + y.mn) ∧ v * 2 ^ (R + y.mn) < (y.lo + y.wd) * 2 ^ L
def AllR (R : Nat) (y : Rnd) (v : Int) (L : Nat) : Prop := y.lo * 2 ^ L ≤ v * 2 ^ (R + y.mn) ∧ (v + 1) * 2 ^ (R + y.mn) ≤ (y.lo + y.wd) * 2 ^ L
/-- it lies behind all signs' stretches -/
def OutR (R : Nat) (y : Rnd) (v : Int) (L : Nat) : Prop := (y.lo + rpart y * y.m.now.sum) * 2 ^ L ≤ v * 2 ^ (R + y.mn)
instance {R : Nat} {y : Rnd} {v : Int} {L : Nat} : Decidable (InR R y v L) := instDecidableAnd
instance {R : Nat} {y : Rnd} {v : Int} {L : Nat} : Decidable (AllR R y v L) := instDecidableAnd
instance {R : Nat} {y : Rnd} {v : Int} {L : Nat} : Decidable (OutR R y v L) := Int.decLe _ _
theorem AllR.inr {R : Nat} {y : Rnd} {v : Int} {L : Nat} (h : AllR R y v L) : InR R y v L := by
  obtain ⟨a, b⟩ := h
  have := ipow_pos (R + y.mn)
  rw [Int.add_mul, Int.one_mul] at b
  exact ⟨a, by omega⟩
/-- the two places, each by what they have in common -/
theorem le_cut {a b : Int} {N L : Nat} : a * 2 ^ L ≤ b * 2 ^ N ↔ a * 2 ^ (L - N) ≤ b * 2 ^ (N - L) := by
  rcases Nat.le_total N L with h | h
  · rw [show N - L = 0 by omega, Int.pow_zero, Int.mul_one, show L = (L - N) + N by omega, Int.pow_add, ← Int.mul_assoc, show L - N + N - N = L - N by omega]
    have := ipow_pos N
    exact ⟨fun q => Int.le_of_mul_le_mul_right q (by omega), fun q => Int.mul_le_mul_of_nonneg_right q (by omega)⟩
  · rw [show L - N = 0 by omega, Int.pow_zero, Int.mul_one, show N = (N - L) + L by omega, Int.pow_add, ← Int.mul_assoc, show N - L + L - L = N - L by omega]
    have := ipow_pos L
    exact ⟨fun q => Int.le_of_mul_le_mul_right q (by omega), fun q => Int.mul_le_mul_of_nonneg_right q (by omega)⟩
theorem lt_cut {a b : Int} {N L : Nat} : b * 2 ^ N < a * 2 ^ L ↔ b * 2 ^ (N - L) < a * 2 ^ (L - N) := by
  have := le_cut (a := a) (b := b) (N := N) (L := L)
  omega
def rfar (N L : Nat) (v lo : Int) : Int := v * 2 ^ (N - L) - lo * 2 ^ (L - N)
theorem rfar_dbl0 {N L : Nat} {v lo : Int} (h : N < L) : rfar (N + 1) L v (2 * lo) = rfar N L v lo := by
  unfold rfar
  rw [show N + 1 - L = 0 by omega, show N - L = 0 by omega, pow_half (show 1 ≤ L - N by omega), show L - N - 1 = L - (N + 1) by omega, Int.mul_comm 2 lo, Int.mul_assoc]
theorem rfar_dbl1 {N L : Nat} {v lo : Int} (h : L ≤ N) : rfar (N + 1) L v (2 * lo) = 2 * rfar N L v lo := by
  unfold rfar
  rw [show L - (N + 1) = 0 by omega, show L - N = 0 by omega, show N + 1 - L = N - L + 1 by omega, Int.pow_succ, Int.mul_sub]
  simp only [Int.pow_zero, Int.mul_one]
  rw [← Int.mul_assoc, Int.mul_comm _ 2]
theorem rfar_bit0 {N L b : Nat} {v lo : Int} (h : L < N) : rfar N (L + 1) (2 * v + b) lo = rfar N L v lo + 2 ^ (N - (L + 1)) * b := by
  unfold rfar
  rw [show L + 1 - N = 0 by omega, show L - N = 0 by omega, pow_half (show 1 ≤ N - L by omega), show N - L - 1 = N - (L + 1) by omega, Int.add_mul, Int.mul_comm 2 v, Int.mul_assoc, Int.mul_comm (2 ^ (N - (L + 1))) (b : Int)]
  omega
theorem rfar_bit1 {N L b : Nat} {v lo : Int} (h : N ≤ L) : rfar N (L + 1) (2 * v + b) lo = 2 * rfar N L v lo + b := by
  unfold rfar
  rw [show N - (L + 1) = 0 by omega, show N - L = 0 by omega, show L + 1 - N = L - N + 1 by omega, Int.pow_succ, Int.mul_sub]
  simp only [Int.pow_zero, Int.mul_one]
  have : lo * (2 ^ (L - N) * 2) = 2 * (lo * 2 ^ (L - N)) := by rw [← Int.mul_assoc, Int.mul_comm _ 2]
  omega
/-- the part in which the number lies -/
def rsgnQ (R : Nat) (y : Rnd) (v : Int) (L : Nat) : Int := rfar (R + y.mn) L v y.lo / (rpart y * 2 ^ (L - (R + y.mn)))
def rsgn (R : Nat) (y : Rnd) (v : Int) (L : Nat) : Nat := signF y.m.now (rsgnQ R y v L)
/-- what a reader takes -/
def rtake (R : Nat) (y : Rnd) (v : Int) (L : Nat) (over : Bool) : Option Nat := if over = true ∨ AllR R (rnd R y (rsgn R y v L)) v L then some (rsgn R y v L) else none
theorem part_pos {R k : Nat} {y : Rnd} {sg mo : Int} (h : RndOk R k y sg mo) : 4 ≤ rpart y ∧ rpart y * y.m.now.sum ≤ y.wd ∧ rpart y ≤ y.wd := h.part (s := 0) (by have := h.ok.sg.1.1; omega)
theorem rsgnQ_ok {R k : Nat} {y : Rnd} {sg mo : Int} {v : Int} {L : Nat} (h : RndOk R k y sg mo) (h1 : y.lo * 2 ^ L ≤ v * 2 ^ (R + y.mn)) (h2 : ¬ OutR R y v L) : 0 ≤ rsgnQ R y v L ∧ rsgnQ R y v L < y.m.now.sum ∧ ((rsgn R y v L : Nat) : Int) < sg := by
  obtain ⟨p4, pm, pw⟩ := part_pos h
  have hd := ipow_pos (L - (R + y.mn))
  have hW : 0 < rpart y * 2 ^ (L - (R + y.mn)) := Int.mul_pos (by omega) (by omega)
  have a1 := (le_cut (N := R + y.mn) (L := L)).mp h1
  have a2 : v * 2 ^ (R + y.mn) < (y.lo + rpart y * y.m.now.sum) * 2 ^ L := by unfold OutR at h2; omega
  have a3 := (lt_cut (N := R + y.mn) (L := L)).mp a2
  have f0 : 0 ≤ rfar (R + y.mn) L v y.lo := by unfold rfar; omega
  have q0 : 0 ≤ rsgnQ R y v L := Int.ediv_nonneg f0 (by omega)
  have q1 : rsgnQ R y v L < y.m.now.sum := by
    unfold rsgnQ
    rw [Int.ediv_lt_iff_lt_mul hW]
    have e : y.m.now.sum * (rpart y * 2 ^ (L - (R + y.mn))) = rpart y * y.m.now.sum * 2 ^ (L - (R + y.mn)) := by simp only [Int.mul_assoc, Int.mul_comm, Int.mul_left_comm]
    rw [e]
    unfold rfar
    rw [Int.add_mul] at a3
    omega
  have g := h.ok.good
  have hl : rsgn R y v L < y.m.now.length := g.1.signF_lt q1
  exact ⟨q0, q1, by have := g.2.2.1; omega⟩
/-- the share of a sign, in pieces -/
theorem rshare {R : Nat} {y : Rnd} {v A : Int} {L : Nat} (hp : 0 < rpart y) : (A ≤ rsgnQ R y v L ↔ (y.lo + rpart y * A) * 2 ^ L ≤ v * 2 ^ (R + y.mn)) ∧ (rsgnQ R y v L < A ↔ v * 2 ^ (R + y.mn) < (y.lo + rpart y * A) * 2 ^ L) := by
  have hd := ipow_pos (L - (R + y.mn))
  have hW : 0 < rpart y * 2 ^ (L - (R + y.mn)) := Int.mul_pos hp (by omega)
  have e : A * (rpart y * 2 ^ (L - (R + y.mn))) = rpart y * A * 2 ^ (L - (R + y.mn)) := by simp only [Int.mul_assoc, Int.mul_comm, Int.mul_left_comm]
  rw [le_cut, lt_cut]
  unfold rsgnQ
  rw [Int.le_ediv_iff_mul_le hW, Int.ediv_lt_iff_lt_mul hW, e, Int.add_mul]
  unfold rfar
  constructor <;> constructor <;> intro q <;> omega
/-- a longer row's stretch, by the shorter one's -/
theorem rnd_at {R : Nat} {y : Rnd} {s : Nat} {v : Int} {L : Nat} :
    (((rnd R y s).lo * 2 ^ L ≤ v * 2 ^ (R + (rnd R y s).mn)) ↔ (y.lo + rpart y * (y.m.now.take s).sum) * 2 ^ L ≤ v * 2 ^ (R + y.mn)) ∧
    ((v * 2 ^ (R + (rnd R y s).mn) < ((rnd R y s).lo + (rnd R y s).wd) * 2 ^ L) ↔ v * 2 ^ (R + y.mn) < (y.lo + rpart y * (y.m.now.take s).sum + rpart y * y.m.now.getD s 0) * 2 ^ L) := by
  have hp := ipow_pos (rsh R y s)
  have e1 : (rnd R y s).lo * 2 ^ L = (y.lo + rpart y * (y.m.now.take s).sum) * 2 ^ L * 2 ^ rsh R y s := by
    show (y.lo + rpart y * (y.m.now.take s).sum) * 2 ^ rsh R y s * 2 ^ L = _
    simp only [Int.mul_assoc, Int.mul_comm, Int.mul_left_comm]
  have e2 : v * 2 ^ (R + (rnd R y s).mn) = v * 2 ^ (R + y.mn) * 2 ^ rsh R y s := by
    show v * 2 ^ (R + (y.mn + rsh R y s)) = _
    rw [← Nat.add_assoc, Int.pow_add, Int.mul_assoc]
  have e3 : ((rnd R y s).lo + (rnd R y s).wd) * 2 ^ L = (y.lo + rpart y * (y.m.now.take s).sum + rpart y * y.m.now.getD s 0) * 2 ^ L * 2 ^ rsh R y s := by
    show ((y.lo + rpart y * (y.m.now.take s).sum) * 2 ^ rsh R y s + rpart y * y.m.now.getD s 0 * 2 ^ rsh R y s) * 2 ^ L = _
    rw [← Int.add_mul]
    simp only [Int.mul_assoc, Int.mul_comm, Int.mul_left_comm]
  rw [e1, e2, e3]
  exact ⟨⟨fun q => Int.le_of_mul_le_mul_right q (by omega), fun q => Int.mul_le_mul_of_nonneg_right q (by omega)⟩, ⟨fun q => Int.lt_of_mul_lt_mul_right q (by omega), fun q => Int.mul_lt_mul_of_pos_right q (by omega)⟩⟩
theorem getD_take {cs : List Int} {s : Nat} (h : s < cs.length) (p : Int) : p * (cs.take s).sum + p * cs.getD s 0 = p * (cs.take (s + 1)).sum := by rw [take_getD _ _ h, Int.mul_add]
/-- the number lies in the stretch of the sign that is found -/
theorem inr_step {R k : Nat} {y : Rnd} {sg mo : Int} {v : Int} {L : Nat} (h : RndOk R k y sg mo) (h1 : y.lo * 2 ^ L ≤ v * 2 ^ (R + y.mn)) (h2 : ¬ OutR R y v L) : InR R (rnd R y (rsgn R y v L)) v L := by
  obtain ⟨q0, q1, q2⟩ := rsgnQ_ok h h1 h2
  have g := h.ok.good
  obtain ⟨a1, a2, _⟩ := filter_sign g.1 q0 q1
  have a1 : (y.m.now.take (rsgn R y v L)).sum ≤ rsgnQ R y v L := a1
  have a2 : rsgnQ R y v L < (y.m.now.take (rsgn R y v L + 1)).sum := a2
  obtain ⟨p4, _, _⟩ := part_pos h
  obtain ⟨hl, _⟩ := h.cs q2
  obtain ⟨r1, r2⟩ := rnd_at (R := R) (y := y) (s := rsgn R y v L) (v := v) (L := L)
  refine ⟨r1.mpr ((rshare (by omega)).1.mp a1), r2.mpr ?_⟩
  rw [Int.add_assoc, getD_take hl]
  exact (rshare (by omega)).2.mp a2
/-- it is found of any sign's stretch in which it lies -/
theorem inr_sign {R k : Nat} {y : Rnd} {sg mo : Int} {v : Int} {L s : Nat} (h : RndOk R k y sg mo) (hs : (s : Int) < sg) (hi : InR R (rnd R y s) v L) : y.lo * 2 ^ L ≤ v * 2 ^ (R + y.mn) ∧ ¬ OutR R y v L ∧ InR R y v L ∧ rsgn R y v L = s := by
  obtain ⟨p4, pm, _⟩ := part_pos h
  obtain ⟨hl, c1, t0, tc, s1, s4, m4⟩ := h.cs hs
  obtain ⟨w1, a0, aw⟩ := h.wide hs
  obtain ⟨r1, r2⟩ := rnd_at (R := R) (y := y) (s := s) (v := v) (L := L)
  have i1 := r1.mp hi.1
  have i2 := r2.mp hi.2
  have hL := ipow_pos L
  have j1 : y.lo * 2 ^ L ≤ v * 2 ^ (R + y.mn) := by
    have : y.lo * 2 ^ L ≤ (y.lo + rpart y * (y.m.now.take s).sum) * 2 ^ L := Int.mul_le_mul_of_nonneg_right (by omega) (by omega)
    omega
  have hps : rpart y * (y.m.now.take s).sum + rpart y * y.m.now.getD s 0 ≤ rpart y * y.m.now.sum := by rw [← Int.mul_add]; exact Int.mul_le_mul_of_nonneg_left tc (by omega)
  have j2 : v * 2 ^ (R + y.mn) < (y.lo + rpart y * y.m.now.sum) * 2 ^ L := by
    have : (y.lo + rpart y * (y.m.now.take s).sum + rpart y * y.m.now.getD s 0) * 2 ^ L ≤ (y.lo + rpart y * y.m.now.sum) * 2 ^ L := Int.mul_le_mul_of_nonneg_right (by omega) (by omega)
    omega
  have j3 : ¬ OutR R y v L := by unfold OutR; omega
  have j4 : v * 2 ^ (R + y.mn) < (y.lo + y.wd) * 2 ^ L := by
    have : (y.lo + rpart y * y.m.now.sum) * 2 ^ L ≤ (y.lo + y.wd) * 2 ^ L := Int.mul_le_mul_of_nonneg_right (by omega) (by omega)
    omega
  obtain ⟨q0, q1, q2⟩ := rsgnQ_ok h j1 j3
  have g := h.ok.good
  refine ⟨j1, j3, ⟨j1, j4⟩, ?_⟩
  rw [Int.add_assoc, getD_take hl] at i2
  exact (signF_is _ _ s g.1.nn hl ((rshare (by omega)).1.mpr i1) ((rshare (by omega)).2.mpr i2)).symm
theorem allr_up {R k : Nat} {y : Rnd} {sg mo : Int} {v : Int} {L s : Nat} (h : RndOk R k y sg mo) (hs : (s : Int) < sg) (hi : AllR R (rnd R y s) v L) : AllR R y v L := by
  obtain ⟨p4, pm, _⟩ := part_pos h
  obtain ⟨hl, c1, t0, tc, s1, s4, m4⟩ := h.cs hs
  obtain ⟨w1, a0, aw⟩ := h.wide hs
  obtain ⟨j1, j2, j3, j4⟩ := inr_sign h hs hi.inr
  refine ⟨j1, ?_⟩
  have hp := ipow_pos (rsh R y s)
  have hL := ipow_pos L
  have e2 : (v + 1) * 2 ^ (R + (rnd R y s).mn) = (v + 1) * 2 ^ (R + y.mn) * 2 ^ rsh R y s := by
    show (v + 1) * 2 ^ (R + (y.mn + rsh R y s)) = _
    rw [← Nat.add_assoc, Int.pow_add, Int.mul_assoc]
  have e3 : ((rnd R y s).lo + (rnd R y s).wd) * 2 ^ L = (y.lo + rpart y * (y.m.now.take s).sum + rpart y * y.m.now.getD s 0) * 2 ^ L * 2 ^ rsh R y s := by
    show ((y.lo + rpart y * (y.m.now.take s).sum) * 2 ^ rsh R y s + rpart y * y.m.now.getD s 0 * 2 ^ rsh R y s) * 2 ^ L = _
    rw [← Int.add_mul]
    simp only [Int.mul_assoc, Int.mul_comm, Int.mul_left_comm]
  have b := hi.2
  rw [e2, e3] at b
  have b2 := Int.le_of_mul_le_mul_right b (by omega)
  have : (y.lo + rpart y * (y.m.now.take s).sum + rpart y * y.m.now.getD s 0) * 2 ^ L ≤ (y.lo + y.wd) * 2 ^ L := Int.mul_le_mul_of_nonneg_right (by omega) (by omega)
  omega
/-- whether all numbers lie in the sign's stretch, as the reader looks at it -/
theorem allr_look {R : Nat} {y : Rnd} {v : Int} {L s : Nat} (h : (rnd R y s).lo * 2 ^ L ≤ v * 2 ^ (R + (rnd R y s).mn)) :
    AllR R (rnd R y s) v L ↔ rfar (R + y.mn) L v y.lo + 2 ^ (R + y.mn - L) ≤ (rpart y * (y.m.now.take s).sum + rpart y * y.m.now.getD s 0) * 2 ^ (L - (R + y.mn)) := by
  have hp := ipow_pos (rsh R y s)
  have e2 : (v + 1) * 2 ^ (R + (rnd R y s).mn) = (v + 1) * 2 ^ (R + y.mn) * 2 ^ rsh R y s := by
    show (v + 1) * 2 ^ (R + (y.mn + rsh R y s)) = _
    rw [← Nat.add_assoc, Int.pow_add, Int.mul_assoc]
  have e3 : ((rnd R y s).lo + (rnd R y s).wd) * 2 ^ L = (y.lo + rpart y * (y.m.now.take s).sum + rpart y * y.m.now.getD s 0) * 2 ^ L * 2 ^ rsh R y s := by
    show ((y.lo + rpart y * (y.m.now.take s).sum) * 2 ^ rsh R y s + rpart y * y.m.now.getD s 0 * 2 ^ rsh R y s) * 2 ^ L = _
    rw [← Int.add_mul]
    simp only [Int.mul_assoc, Int.mul_comm, Int.mul_left_comm]
  unfold AllR
  rw [e2, e3]
  have c := lt_cut (a := v + 1) (b := y.lo + rpart y * (y.m.now.take s).sum + rpart y * y.m.now.getD s 0) (N := L) (L := R + y.mn)
  have e4 : (y.lo + rpart y * (y.m.now.take s).sum + rpart y * y.m.now.getD s 0) * 2 ^ (L - (R + y.mn)) = y.lo * 2 ^ (L - (R + y.mn)) + (rpart y * (y.m.now.take s).sum + rpart y * y.m.now.getD s 0) * 2 ^ (L - (R + y.mn)) := by rw [Int.add_assoc, Int.add_mul]
  have e5 : (v + 1) * 2 ^ (R + y.mn - L) = v * 2 ^ (R + y.mn - L) + 2 ^ (R + y.mn - L) := by rw [Int.add_mul, Int.one_mul]
  unfold rfar
  constructor
  · rintro ⟨_, b⟩
    have b2 := Int.le_of_mul_le_mul_right b (by omega)
    omega
  · intro b
    exact ⟨h, Int.mul_le_mul_of_nonneg_right (by omega) (by omega)⟩
/-- a reader's own, apart from its mind -/
structure RdOk (R k : Nat) (y : Rnd) (sg mo : Int) (bs : List Nat) (over : Bool) : Prop where
  rk : RndOk R k y sg mo
  k60 : k ≤ 60
  bit : ∀ b ∈ bs, b < 2
  len : bs.length ≤ 900
  lo1 : y.lo * 2 ^ bs.length ≤ valB bs * 2 ^ (R + y.mn)
  hi1 : over = true → valB bs * 2 ^ (R + y.mn) < (y.lo + y.wd) * 2 ^ bs.length
  hi2 : over = false → (valB bs + 1) * 2 ^ (R + y.mn) ≤ (y.lo + y.wd) * 2 ^ bs.length
theorem RdOk.hi {R k : Nat} {y : Rnd} {sg mo : Int} {bs : List Nat} {over : Bool} (h : RdOk R k y sg mo bs over) : valB bs * 2 ^ (R + y.mn) < (y.lo + y.wd) * 2 ^ bs.length := by
  cases over with
  | true => exact h.hi1 rfl
  | false =>
    have h2 := h.hi2 rfl
    have := ipow_pos (R + y.mn)
    rw [Int.add_mul, Int.one_mul] at h2
    omega
theorem RdOk.begun {R : Nat} {m : Mdl} (h : MOk 3 m) (r4 : 4 ≤ R) (r20 : R ≤ 20) (hm : 8 * mst m ≤ 2 ^ R) : RdOk R 0 (rnd0 R m) (nsg m) (mst m) [] false := by
  refine ⟨RndOk.begun h r4 r20 hm, by decide, by simp, by simp, ?_, fun q => (by cases q), fun _ => ?_⟩
  · show (0 : Int) * 2 ^ 0 ≤ 0 * 2 ^ (R + 0); omega
  · show ((0 : Int) + 1) * 2 ^ (R + 0) ≤ (0 + 2 ^ R) * 2 ^ 0
    simp
theorem RdOk.feed {R k : Nat} {y : Rnd} {sg mo : Int} {bs ds : List Nat} (h : RdOk R k y sg mo bs false) (hd : ∀ b ∈ ds, b < 2) (hl : bs.length + ds.length ≤ 900) : RdOk R k y sg mo (bs ++ ds) false := by
  obtain ⟨v0, v1⟩ := valB_lt ds hd
  have hp := ipow_pos (R + y.mn)
  have ht := ipow_pos ds.length
  refine ⟨h.rk, h.k60, fun b hb => ?_, by rw [List.length_append]; exact hl, ?_, fun q => (by cases q), fun _ => ?_⟩
  · rcases List.mem_append.mp hb with q | q
    · exact h.bit b q
    · exact hd b q
  · rw [valB_app, List.length_append, Int.pow_add, ← Int.mul_assoc]
    have m1 := Int.mul_le_mul_of_nonneg_right h.lo1 (show (0 : Int) ≤ 2 ^ ds.length by omega)
    have m2 : 0 ≤ valB ds * 2 ^ (R + y.mn) := Int.mul_nonneg v0 (by omega)
    rw [Int.add_mul]
    have e : valB bs * 2 ^ ds.length * 2 ^ (R + y.mn) = valB bs * 2 ^ (R + y.mn) * 2 ^ ds.length := by simp only [Int.mul_assoc, Int.mul_comm, Int.mul_left_comm]
    omega
  · rw [valB_app, List.length_append, Int.pow_add 2 bs.length ds.length, ← Int.mul_assoc]
    have m1 := Int.mul_le_mul_of_nonneg_right (h.hi2 rfl) (show (0 : Int) ≤ 2 ^ ds.length by omega)
    have m2 : (valB bs * 2 ^ ds.length + valB ds + 1) * 2 ^ (R + y.mn) ≤ (valB bs + 1) * 2 ^ ds.length * 2 ^ (R + y.mn) := Int.mul_le_mul_of_nonneg_right (by rw [Int.add_mul, Int.one_mul]; omega) (by omega)
    have e : (valB bs + 1) * 2 ^ ds.length * 2 ^ (R + y.mn) = (valB bs + 1) * 2 ^ (R + y.mn) * 2 ^ ds.length := by simp only [Int.mul_assoc, Int.mul_comm, Int.mul_left_comm]
    omega
theorem RdOk.close {R k : Nat} {y : Rnd} {sg mo : Int} {bs : List Nat} {over : Bool} (h : RdOk R k y sg mo bs over) : RdOk R k y sg mo bs true := ⟨h.rk, h.k60, h.bit, h.len, h.lo1, fun _ => h.hi, fun q => by cases q⟩
theorem RdOk.far {R k : Nat} {y : Rnd} {sg mo : Int} {bs : List Nat} {over : Bool} (h : RdOk R k y sg mo bs over) : R + y.mn ≤ 1220 ∧ 0 ≤ rfar (R + y.mn) bs.length (valB bs) y.lo ∧ rfar (R + y.mn) bs.length (valB bs) y.lo < y.wd * 2 ^ (bs.length - (R + y.mn)) ∧ rfar (R + y.mn) bs.length (valB bs) y.lo ≤ 2 ^ 920 := by
  have n1 : R + y.mn ≤ 1220 := by have := h.rk.mn; have := h.rk.r20; have := h.k60; omega
  have a1 := (le_cut (N := R + y.mn) (L := bs.length)).mp h.lo1
  have a2 := (lt_cut (N := R + y.mn) (L := bs.length)).mp h.hi
  rw [Int.add_mul] at a2
  have hw : y.wd * 2 ^ (bs.length - (R + y.mn)) ≤ 2 ^ 20 * 2 ^ 900 := Int.mul_le_mul (Int.le_trans h.rk.wd1 (ipow_le h.rk.r20)) (ipow_le (by have := h.len; omega)) (by have := ipow_pos (bs.length - (R + y.mn)); omega) (by decide)
  rw [← Int.pow_add] at hw
  refine ⟨n1, by unfold rfar; omega, by unfold rfar; omega, ?_⟩
  unfold rfar; omega
theorem RdOk.take {R k : Nat} {y : Rnd} {sg mo : Int} {bs : List Nat} {over : Bool} (h : RdOk R k y sg mo bs over) (hk : k < 60) (hn : ¬ OutR R y (valB bs) bs.length) (ht : over = true ∨ AllR R (rnd R y (rsgn R y (valB bs) bs.length)) (valB bs) bs.length) :
    ((rsgn R y (valB bs) bs.length : Nat) : Int) < sg ∧ RdOk R (k + 1) (rnd R y (rsgn R y (valB bs) bs.length)) sg mo bs over := by
  obtain ⟨q0, q1, q2⟩ := rsgnQ_ok h.rk h.lo1 hn
  have hi := inr_step h.rk h.lo1 hn
  refine ⟨q2, h.rk.rnd q2, hk, h.bit, h.len, hi.1, fun _ => hi.2, fun q => ?_⟩
  rcases ht with z | z
  · rw [z] at q; cases q
  · exact z.2
section
variable (K : PySem.W.Frag) (Sh Pl Le Ah Bl Rd : Addr)
abbrev rdO (C p q : Addr) (R : Nat) (wd far : Int) (N L k : Nat) (over : Bool) : SA := ob p C [("mind", .ref q), ("width", .int wd), ("half", .int (2 ^ (R - 1))), ("far", .int far), ("size", .int (2 ^ (N - L))), ("deep", .int ((L - N : Nat) : Int)), ("taken", .int (k : Nat)), ("came", .int (L : Nat)), ("is_over", .bl over)]
def rdS (p : Addr) (R : Nat) (y : Rnd) (k : Nat) (bs : List Nat) (over : Bool) : SA := exA fun q : Addr => G.st (rdO Rd p q R y.wd (rfar (R + y.mn) bs.length (valB bs) y.lo) (R + y.mn) bs.length k over) (msa K Sh Pl Le Ah Bl y.m q)
def spRInit : Sp := fun vs H Q _ => ∃ p x m R L, vs = [.ref p, x, .int (R : Nat)] ∧ HS H (ob p Rd [] :: L) ∧ MdR K L x m ∧ MOk 3 m ∧ 4 ≤ R ∧ R ≤ 20 ∧ 8 * mst m ≤ 2 ^ R ∧ ∀ H', HS H' (rdS K Sh Pl Le Ah Bl Rd p R (rnd0 R m) 0 [] false :: L) → Q .non H'
def spRFeed : Sp := fun vs H Q _ => ∃ p R y k sg mo bs ds L, vs = [.ref p, .str (dgs ds)] ∧ RdOk R k y sg mo bs false ∧ (∀ b ∈ ds, b < 2) ∧ bs.length + ds.length ≤ 900 ∧ HS H (rdS K Sh Pl Le Ah Bl Rd p R y k bs false :: L) ∧ ∀ H', HS H' (rdS K Sh Pl Le Ah Bl Rd p R y k (bs ++ ds) false :: L) → Q .non H'
def spRClose : Sp := fun vs H Q _ => ∃ p R y k bs over L, vs = [.ref p] ∧ HS H (rdS K Sh Pl Le Ah Bl Rd p R y k bs over :: L) ∧ ∀ H', HS H' (rdS K Sh Pl Le Ah Bl Rd p R y k bs true :: L) → Q .non H'
/-- twice as many parts: a reader's own, N places, and what it is to be -/
def spRDouble : Sp := fun vs H Q _ => ∃ p q R wd N Ln k over v lo L, vs = [.ref p] ∧ 0 ≤ wd ∧ wd ≤ 2 ^ 20 ∧ N ≤ 1500 ∧ Ln ≤ 900 ∧ 0 ≤ rfar N Ln v lo ∧ rfar N Ln v lo ≤ 2 ^ 3000 ∧ HS H (rdO Rd p q R wd (rfar N Ln v lo) N Ln k over :: L) ∧ ∀ H', HS H' (rdO Rd p q R (2 * wd) (rfar (N + 1) Ln v (2 * lo)) (N + 1) Ln k over :: L) → Q .non H'
def spRTake : Sp := fun vs H Q _ => ∃ p R y k sg mo bs over L, vs = [.ref p] ∧ RdOk R k y sg mo bs over ∧ k < 60 ∧ ¬ OutR R y (valB bs) bs.length ∧ HS H (rdS K Sh Pl Le Ah Bl Rd p R y k bs over :: L) ∧
  ((over = true ∨ AllR R (rnd R y (rsgn R y (valB bs) bs.length)) (valB bs) bs.length) → ∀ H', HS H' (rdS K Sh Pl Le Ah Bl Rd p R (rnd R y (rsgn R y (valB bs) bs.length)) (k + 1) bs over :: L) → Q (.int (rsgn R y (valB bs) bs.length : Nat)) H') ∧
  (¬ (over = true ∨ AllR R (rnd R y (rsgn R y (valB bs) bs.length)) (valB bs) bs.length) → ∀ H', HS H' (rdS K Sh Pl Le Ah Bl Rd p R y k bs over :: L) → Q .non H')
end
section
variable {K : PySem.W.Frag} {Sh Pl Le Ah Bl Rd p q r : Addr} {H : Hp} {Q : VK} {E : XK} {L F : List SA} {x : V} {y : Rnd} {m : Mdl} {sg mo i : Int} {R k : Nat} {bs : List Nat} {over : Bool}
instance : Key (rdS K Sh Pl Le Ah Bl Rd p R y k bs over) p := ⟨⟩
theorem HS.rd_in (h : HS H (rdS K Sh Pl Le Ah Bl Rd p R y k bs over :: L)) : ∃ q : Addr, HS H (rdO Rd p q R y.wd (rfar (R + y.mn) bs.length (valB bs) y.lo) (R + y.mn) bs.length k over :: msa K Sh Pl Le Ah Bl y.m q :: L) :=
  let ⟨x, h⟩ := h.ex_in
  ⟨x, h.st_in⟩
theorem HS.rd_out {q : Addr} (h : HS H (rdO Rd p q R y.wd (rfar (R + y.mn) bs.length (valB bs) y.lo) (R + y.mn) bs.length k over :: msa K Sh Pl Le Ah Bl y.m q :: L)) : HS H (rdS K Sh Pl Le Ah Bl Rd p R y k bs over :: L) := (h.st_out).ex_out q
theorem s_mthRd {a C : Addr} {σ : L2.St} {L' : List SA} {mt : Str} {sp : Sp} {t : TA} [hs : HS H L] [o : Own L a (rdS K Sh Pl Le Ah Bl C a R y k bs over) L'] (l : ∀ v1 v2 v3 v4 v5 v6 v7 v8 v9 : V, List.lookup mt [(("mind" : Str), v1), ("width", v2), ("half", v3), ("far", v4), ("size", v5), ("deep", v6), ("taken", v7), ("came", v8), ("is_over", v9)] = none) (h : t σ H fun vs H2 => sp (.ref a :: (vs ++ [])) H2 Q E) : mthK C mt sp E t σ Q (.ref a) H := by
  obtain ⟨q, h2⟩ := (hs.pk o.pk).rd_in
  obtain ⟨dx, e⟩ := h2.ins
  exact ⟨a, dx, _, rfl, e, l _ _ _ _ _ _ _ _ _, h⟩
theorem c_rInit (e : i = (R : Nat)) [hs : HS H L] [o : Own L p (ob p Rd []) F] [rd : MdR K F x m] (ok : MOk 3 m) (r4 : 4 ≤ R) (r20 : R ≤ 20) (hm : 8 * mst m ≤ 2 ^ R) (h : ∀ H', HS H' (rdS K Sh Pl Le Ah Bl Rd p R (rnd0 R m) 0 [] false :: F) → Q .non H') : spRInit K Sh Pl Le Ah Bl Rd [.ref p, x, .int i] H Q E := ⟨p, x, m, R, F, by rw [e], hs.pk o.pk, rd, ok, r4, r20, hm, h⟩
theorem c_rFeed (ds : List Nat) [hs : HS H L] [o : Own L p (rdS K Sh Pl Le Ah Bl Rd p R y k bs false) F] (ok : RdOk R k y sg mo bs false) (hd : ∀ b ∈ ds, b < 2) (hl : bs.length + ds.length ≤ 900) (h : ∀ H', HS H' (rdS K Sh Pl Le Ah Bl Rd p R y k (bs ++ ds) false :: F) → Q .non H') : spRFeed K Sh Pl Le Ah Bl Rd [.ref p, .str (dgs ds)] H Q E := ⟨p, R, y, k, sg, mo, bs, ds, F, rfl, ok, hd, hl, hs.pk o.pk, h⟩
theorem c_rClose [hs : HS H L] [o : Own L p (rdS K Sh Pl Le Ah Bl Rd p R y k bs over) F] (h : ∀ H', HS H' (rdS K Sh Pl Le Ah Bl Rd p R y k bs true :: F) → Q .non H') : spRClose K Sh Pl Le Ah Bl Rd [.ref p] H Q E := ⟨p, R, y, k, bs, over, F, rfl, hs.pk o.pk, h⟩
theorem c_rTake [hs : HS H L] [o : Own L p (rdS K Sh Pl Le Ah Bl Rd p R y k bs over) F] (ok : RdOk R k y sg mo bs over) (hk : k < 60) (hn : ¬ OutR R y (valB bs) bs.length)
    (h1 : (over = true ∨ AllR R (rnd R y (rsgn R y (valB bs) bs.length)) (valB bs) bs.length) → ∀ H', HS H' (rdS K Sh Pl Le Ah Bl Rd p R (rnd R y (rsgn R y (valB bs) bs.length)) (k + 1) bs over :: F) → Q (.int (rsgn R y (valB bs) bs.length : Nat)) H')
    (h2 : ¬ (over = true ∨ AllR R (rnd R y (rsgn R y (valB bs) bs.length)) (valB bs) bs.length) → ∀ H', HS H' (rdS K Sh Pl Le Ah Bl Rd p R y k bs over :: F) → Q .non H') : spRTake K Sh Pl Le Ah Bl Rd [.ref p] H Q E := ⟨p, R, y, k, sg, mo, bs, over, F, rfl, ok, hk, hn, hs.pk o.pk, h1, h2⟩
end
end G

namespace G
open PySem L2
/-! What is read. -/
def rdL (R : Nat) (m : Mdl) (v : Int) (L : Nat) : Nat → List Nat
  | 0 => []
  | j + 1 => rdL R m v L j ++ [rsgn R (rnds R (rnd0 R m) (rdL R m v L j)) v L]
def rdGood (R : Nat) (m : Mdl) (v : Int) (L j : Nat) : Prop := ∀ i < j, ¬ OutR R (rnds R (rnd0 R m) (rdL R m v L i)) v L
theorem rdL_len (R : Nat) (m : Mdl) (v : Int) (L : Nat) : ∀ j, (rdL R m v L j).length = j
  | 0 => rfl
  | j + 1 => by simp [rdL, rdL_len R m v L j]
theorem inr_up {R k : Nat} {y : Rnd} {sg mo : Int} {v : Int} {L s : Nat} (h : RndOk R k y sg mo) (hs : (s : Int) < sg) (hi : InR R (rnd R y s) v L) : InR R y v L := (inr_sign h hs hi).2.2.1
theorem rnds_take_ok {R : Nat} {m : Mdl} {ss : List Nat} (mok : MOk 3 m) (r4 : 4 ≤ R) (r20 : R ≤ 20) (hm : 8 * mst m ≤ 2 ^ R) (hss : ∀ s ∈ ss, (s : Int) < nsg m) (j : Nat) (hj : j ≤ ss.length) : RndOk R j (rnds R (rnd0 R m) (ss.take j)) (nsg m) (mst m) := by
  have := (RndOk.begun mok r4 r20 hm).rnds (ss.take j) fun s hs => hss s (List.mem_of_mem_take hs)
  rw [Nat.zero_add, List.length_take, Nat.min_eq_left hj] at this
  exact this
theorem take_succ {ss : List Nat} {j : Nat} (hj : j < ss.length) : ss.take (j + 1) = ss.take j ++ [ss[j]] := by rw [List.take_add_one, List.getElem?_eq_getElem hj]; rfl
section
variable {R : Nat} {m : Mdl} {v : Int} {L : Nat} {ss : List Nat}
/-- a number of a row's stretch lies in that of each begin of it -/
theorem inr_take (mok : MOk 3 m) (r4 : 4 ≤ R) (r20 : R ≤ 20) (hm : 8 * mst m ≤ 2 ^ R) (hss : ∀ s ∈ ss, (s : Int) < nsg m) (hi : InR R (rnds R (rnd0 R m) ss) v L) : ∀ d, d ≤ ss.length → InR R (rnds R (rnd0 R m) (ss.take (ss.length - d))) v L
  | 0, _ => by rw [Nat.sub_zero, List.take_length]; exact hi
  | d + 1, h => by
    have ih := inr_take mok r4 r20 hm hss hi d (by omega)
    have hj : ss.length - (d + 1) < ss.length := by omega
    rw [show ss.length - d = ss.length - (d + 1) + 1 by omega, take_succ hj, rnds_snoc] at ih
    exact inr_up (rnds_take_ok mok r4 r20 hm hss _ (by omega)) (hss _ (List.getElem_mem hj)) ih
theorem inr_at (mok : MOk 3 m) (r4 : 4 ≤ R) (r20 : R ≤ 20) (hm : 8 * mst m ≤ 2 ^ R) (hss : ∀ s ∈ ss, (s : Int) < nsg m) (hi : InR R (rnds R (rnd0 R m) ss) v L) {j : Nat} (hj : j ≤ ss.length) : InR R (rnds R (rnd0 R m) (ss.take j)) v L := by
  have := inr_take mok r4 r20 hm hss hi (ss.length - j) (by omega)
  rw [show ss.length - (ss.length - j) = j by omega] at this
  exact this
theorem allr_take (mok : MOk 3 m) (r4 : 4 ≤ R) (r20 : R ≤ 20) (hm : 8 * mst m ≤ 2 ^ R) (hss : ∀ s ∈ ss, (s : Int) < nsg m) (hi : AllR R (rnds R (rnd0 R m) ss) v L) : ∀ d, d ≤ ss.length → AllR R (rnds R (rnd0 R m) (ss.take (ss.length - d))) v L
  | 0, _ => by rw [Nat.sub_zero, List.take_length]; exact hi
  | d + 1, h => by
    have ih := allr_take mok r4 r20 hm hss hi d (by omega)
    have hj : ss.length - (d + 1) < ss.length := by omega
    rw [show ss.length - d = ss.length - (d + 1) + 1 by omega, take_succ hj, rnds_snoc] at ih
    exact allr_up (rnds_take_ok mok r4 r20 hm hss _ (by omega)) (hss _ (List.getElem_mem hj)) ih
theorem allr_at (mok : MOk 3 m) (r4 : 4 ≤ R) (r20 : R ≤ 20) (hm : 8 * mst m ≤ 2 ^ R) (hss : ∀ s ∈ ss, (s : Int) < nsg m) (hi : AllR R (rnds R (rnd0 R m) ss) v L) {j : Nat} (hj : j ≤ ss.length) : AllR R (rnds R (rnd0 R m) (ss.take j)) v L := by
  have := allr_take mok r4 r20 hm hss hi (ss.length - j) (by omega)
  rw [show ss.length - (ss.length - j) = j by omega] at this
  exact this
/-- the sign that is found behind a begin of the row -/
theorem sgn_at (mok : MOk 3 m) (r4 : 4 ≤ R) (r20 : R ≤ 20) (hm : 8 * mst m ≤ 2 ^ R) (hss : ∀ s ∈ ss, (s : Int) < nsg m) (hi : InR R (rnds R (rnd0 R m) ss) v L) {j : Nat} (hj : j < ss.length) : ¬ OutR R (rnds R (rnd0 R m) (ss.take j)) v L ∧ rsgn R (rnds R (rnd0 R m) (ss.take j)) v L = ss[j] := by
  have h1 := inr_at mok r4 r20 hm hss hi (show j + 1 ≤ ss.length from hj)
  rw [take_succ hj, rnds_snoc] at h1
  obtain ⟨_, a, _, b⟩ := inr_sign (rnds_take_ok mok r4 r20 hm hss j (by omega)) (hss _ (List.getElem_mem hj)) h1
  exact ⟨a, b⟩
theorem rdl_row (mok : MOk 3 m) (r4 : 4 ≤ R) (r20 : R ≤ 20) (hm : 8 * mst m ≤ 2 ^ R) (hss : ∀ s ∈ ss, (s : Int) < nsg m) (hi : InR R (rnds R (rnd0 R m) ss) v L) : ∀ j, j ≤ ss.length → rdL R m v L j = ss.take j
  | 0, _ => rfl
  | j + 1, h => by
    have ih := rdl_row mok r4 r20 hm hss hi j (by omega)
    show rdL R m v L j ++ [_] = _
    rw [ih, (sgn_at mok r4 r20 hm hss hi h).2, take_succ h]
theorem rdl_good (mok : MOk 3 m) (r4 : 4 ≤ R) (r20 : R ≤ 20) (hm : 8 * mst m ≤ 2 ^ R) (hss : ∀ s ∈ ss, (s : Int) < nsg m) (hi : InR R (rnds R (rnd0 R m) ss) v L) {j : Nat} (hj : j ≤ ss.length) : rdGood R m v L j := fun i hij => by
  rw [rdl_row mok r4 r20 hm hss hi i (by omega)]
  exact (sgn_at mok r4 r20 hm hss hi (by omega)).1
/-- what has been read so far: signs of the model's, the number in their stretch -/
theorem rdl_ok (mok : MOk 3 m) (r4 : 4 ≤ R) (r20 : R ≤ 20) (hm : 8 * mst m ≤ 2 ^ R) (v0 : 0 ≤ v) (v1 : v < 2 ^ L) : ∀ j, rdGood R m v L j → (∀ s ∈ rdL R m v L j, (s : Int) < nsg m) ∧ InR R (rnds R (rnd0 R m) (rdL R m v L j)) v L
  | 0, _ => by
    refine ⟨by simp [rdL], ?_⟩
    show (0 : Int) * 2 ^ L ≤ v * 2 ^ (R + 0) ∧ v * 2 ^ (R + 0) < (0 + 2 ^ R) * 2 ^ L
    have := ipow_pos (R + 0)
    rw [Int.zero_mul, Int.zero_add, Int.mul_comm (2 ^ R)]
    exact ⟨Int.mul_nonneg v0 (by omega), Int.mul_lt_mul_of_pos_right v1 (by omega)⟩
  | j + 1, h => by
    obtain ⟨i1, i2⟩ := rdl_ok mok r4 r20 hm v0 v1 j fun i hi => h i (by omega)
    have nk := (RndOk.begun mok r4 r20 hm).rnds _ i1
    obtain ⟨_, _, a⟩ := rsgnQ_ok nk i2.1 (h j (Nat.lt_succ_self j))
    have b := inr_step nk i2.1 (h j (Nat.lt_succ_self j))
    refine ⟨fun s hs => ?_, ?_⟩
    · rcases List.mem_append.mp hs with q | q
      · exact i1 s q
      · rw [List.mem_singleton.mp q]; exact a
    · show InR R (rnds R (rnd0 R m) (rdL R m v L j ++ [_])) v L
      rw [rnds_snoc]; exact b
end
/-! digits that begin others -/
theorem val_pre (bs t : List Nat) (ht : ∀ b ∈ t, b < 2) : valB bs * 2 ^ t.length ≤ valB (bs ++ t) ∧ valB (bs ++ t) + 1 ≤ (valB bs + 1) * 2 ^ t.length := by
  obtain ⟨t0, t1⟩ := valB_lt t ht
  rw [valB_app, Int.add_mul, Int.one_mul]
  omega
theorem outr_pre {R : Nat} {y : Rnd} {bs t : List Nat} (ht : ∀ b ∈ t, b < 2) (h : ¬ OutR R y (valB (bs ++ t)) (bs ++ t).length) : ¬ OutR R y (valB bs) bs.length := fun q => h (by
  unfold OutR at q ⊢
  have hp := ipow_pos t.length
  have hN := ipow_pos (R + y.mn)
  obtain ⟨p1, _⟩ := val_pre bs t ht
  have m1 := Int.mul_le_mul_of_nonneg_right q (show (0 : Int) ≤ 2 ^ t.length by omega)
  have m2 := Int.mul_le_mul_of_nonneg_right p1 (show (0 : Int) ≤ 2 ^ (R + y.mn) by omega)
  have e : valB bs * 2 ^ t.length * 2 ^ (R + y.mn) = valB bs * 2 ^ (R + y.mn) * 2 ^ t.length := by simp only [Int.mul_assoc, Int.mul_comm, Int.mul_left_comm]
  rw [List.length_append, Int.pow_add, ← Int.mul_assoc]
  omega)
theorem allr_app {R : Nat} {y : Rnd} {bs t : List Nat} (ht : ∀ b ∈ t, b < 2) (h : AllR R y (valB bs) bs.length) : AllR R y (valB (bs ++ t)) (bs ++ t).length := by
  have hp := ipow_pos t.length
  have hN := ipow_pos (R + y.mn)
  obtain ⟨p1, p2⟩ := val_pre bs t ht
  obtain ⟨a, b⟩ := h
  unfold AllR
  rw [List.length_append, Int.pow_add, ← Int.mul_assoc, ← Int.mul_assoc]
  have m1 := Int.mul_le_mul_of_nonneg_right a (show (0 : Int) ≤ 2 ^ t.length by omega)
  have m2 := Int.mul_le_mul_of_nonneg_right p1 (show (0 : Int) ≤ 2 ^ (R + y.mn) by omega)
  have m3 := Int.mul_le_mul_of_nonneg_right b (show (0 : Int) ≤ 2 ^ t.length by omega)
  have m4 := Int.mul_le_mul_of_nonneg_right p2 (show (0 : Int) ≤ 2 ^ (R + y.mn) by omega)
  have e1 : valB bs * 2 ^ t.length * 2 ^ (R + y.mn) = valB bs * 2 ^ (R + y.mn) * 2 ^ t.length := by simp only [Int.mul_assoc, Int.mul_comm, Int.mul_left_comm]
  have e2 : (valB bs + 1) * 2 ^ t.length * 2 ^ (R + y.mn) = (valB bs + 1) * 2 ^ (R + y.mn) * 2 ^ t.length := by simp only [Int.mul_assoc, Int.mul_comm, Int.mul_left_comm]
  constructor <;> omega
/-! all numbers that begin with what is written lie in the stretch -/
theorem wbits_all {R k : Nat} {y : Rnd} {sg mo : Int} (h : RndOk R k y sg mo) (hk : k ≤ 60) : (∀ b ∈ wbits R y, b < 2) ∧ AllR R y (valB (wbits R y)) (wbits R y).length := by
  have f2 := wv_few2 (R := R) (mn := y.mn) (by have := h.mn; have := h.r20; omega) h.lo0 (by have := h.wd0; have := ipow_pos (R - 1); omega) h.le
  obtain ⟨v1, v2⟩ := codeB_val f2 h.le
  obtain ⟨c1, c2⟩ := fewN_ceil (lo := y.lo) f2.wh1 (fewK y.lo (y.lo + y.wd) (2 ^ (R + y.mn)))
  refine ⟨bitsN_lt _ _, ?_⟩
  unfold AllR wbits
  rw [v1, bitsN_len]
  exact ⟨c1, f2.few.1⟩
/-! how many digits there may be -/
theorem mn_bound {R : Nat} : ∀ (ss : List Nat) {m : Mdl}, MOk 3 m → 4 ≤ R → R ≤ 20 → 8 * mst m ≤ 2 ^ R → (∀ s ∈ ss, (s : Int) < nsg m) → 2 ^ (R + (rnds R (rnd0 R m) ss).mn) * 3 ^ ss.length ≤ (rnds R (rnd0 R m) ss).wd * 16000 ^ ss.length := by
  intro ss
  have : ∀ (n : Nat) (ss : List Nat), ss.length = n → ∀ {m : Mdl}, MOk 3 m → 4 ≤ R → R ≤ 20 → 8 * mst m ≤ 2 ^ R → (∀ s ∈ ss, (s : Int) < nsg m) → (2 : Int) ^ (R + (rnds R (rnd0 R m) ss).mn) * 3 ^ ss.length ≤ (rnds R (rnd0 R m) ss).wd * 16000 ^ ss.length := by
    intro n
    induction n with
    | zero =>
      intro ss hl m mok r4 r20 hm hss
      have : ss = [] := List.length_eq_zero_iff.mp hl
      subst this
      show (2 : Int) ^ (R + 0) * 1 ≤ 2 ^ R * 1
      simp
    | succ n ih =>
      intro ss hl m mok r4 r20 hm hss
      have hne : ss ≠ [] := fun e => by rw [e] at hl; cases hl
      have e : ss = ss.dropLast ++ [ss.getLast hne] := (List.dropLast_concat_getLast hne).symm
      have hd : ∀ s ∈ ss.dropLast, (s : Int) < nsg m := fun s hs => hss s (List.dropLast_subset _ hs)
      have i1 := ih ss.dropLast (by rw [List.length_dropLast]; omega) mok r4 r20 hm hd
      have nk := (RndOk.begun mok r4 r20 hm).rnds ss.dropLast hd
      have hs := hss _ (List.getLast_mem hne)
      rw [e, rnds_snoc, List.length_append, List.length_singleton]
      generalize ss.getLast hne = s at *
      generalize rnds R (rnd0 R m) ss.dropLast = y at *
      obtain ⟨cl, c1, t0, tc, s1, s4, m4⟩ := nk.cs hs
      obtain ⟨p4, pm, pw⟩ := nk.part hs
      have eR := pow_half (show 1 ≤ R by omega)
      have w0 := nk.wd0
      have room := nk.room
      have pl : y.wd < (rpart y + 1) * y.m.now.sum := by unfold rpart; exact Int.lt_ediv_add_one_mul_self _ (by omega)
      rw [Int.add_mul, Int.one_mul] at pl
      have p3 : 3 * y.wd ≤ 4 * (rpart y * y.m.now.sum) := by omega
      have p5 : rpart y * y.m.now.sum ≤ rpart y * 4000 := Int.mul_le_mul_of_nonneg_left (by omega) (by omega)
      have p6 : rpart y ≤ rpart y * y.m.now.getD s 0 := by have := Int.mul_le_mul_of_nonneg_left c1 (show 0 ≤ rpart y by omega); omega
      have p7 : 3 * y.wd ≤ 16000 * (rpart y * y.m.now.getD s 0) := by omega
      have h3 : (0 : Int) ≤ 3 ^ ss.dropLast.length := Int.le_of_lt (Int.pow_pos (by decide))
      have h16 : (0 : Int) ≤ 16000 ^ ss.dropLast.length := Int.le_of_lt (Int.pow_pos (by decide))
      have hsh := ipow_pos (rsh R y s)
      show (2 : Int) ^ (R + (y.mn + rsh R y s)) * 3 ^ (ss.dropLast.length + 1) ≤ rpart y * y.m.now.getD s 0 * 2 ^ rsh R y s * 16000 ^ (ss.dropLast.length + 1)
      rw [← Nat.add_assoc, Int.pow_add, Int.pow_succ, Int.pow_succ]
      have a1 : (2 : Int) ^ (R + y.mn) * 2 ^ rsh R y s * (3 ^ ss.dropLast.length * 3) = 3 * ((2 : Int) ^ (R + y.mn) * 3 ^ ss.dropLast.length) * 2 ^ rsh R y s := by simp only [Int.mul_assoc, Int.mul_comm, Int.mul_left_comm]
      have a2 : rpart y * y.m.now.getD s 0 * 2 ^ rsh R y s * (16000 ^ ss.dropLast.length * 16000) = 16000 * (rpart y * y.m.now.getD s 0) * 16000 ^ ss.dropLast.length * 2 ^ rsh R y s := by simp only [Int.mul_assoc, Int.mul_comm, Int.mul_left_comm]
      rw [a1, a2]
      refine Int.mul_le_mul_of_nonneg_right ?_ (by omega)
      have a3 : 3 * ((2 : Int) ^ (R + y.mn) * 3 ^ ss.dropLast.length) ≤ 3 * (y.wd * 16000 ^ ss.dropLast.length) := Int.mul_le_mul_of_nonneg_left i1 (by decide)
      have a4 : 3 * y.wd * 16000 ^ ss.dropLast.length ≤ 16000 * (rpart y * y.m.now.getD s 0) * 16000 ^ ss.dropLast.length := Int.mul_le_mul_of_nonneg_right p7 h16
      refine Int.le_trans a3 ?_
      rw [← Int.mul_assoc]
      exact a4
  intro m
  exact this ss.length ss rfl
theorem pow743 : (16000 : Int) ^ 60 < 2 ^ 743 * 3 ^ 60 := by
  have : (16000 : Nat) ^ 60 < 2 ^ 743 * 3 ^ 60 := by decide +kernel
  exact_mod_cast this
theorem mn_few {R : Nat} {ss : List Nat} {m : Mdl} (mok : MOk 3 m) (r4 : 4 ≤ R) (r20 : R ≤ 20) (hm : 8 * mst m ≤ 2 ^ R) (hss : ∀ s ∈ ss, (s : Int) < nsg m) (hl : ss.length ≤ 60) : (rnds R (rnd0 R m) ss).mn ≤ 742 := by
  have h := mn_bound ss mok r4 r20 hm hss
  have nk := (RndOk.begun mok r4 r20 hm).rnds ss hss
  generalize rnds R (rnd0 R m) ss = y at *
  rcases Nat.lt_or_ge y.mn 743 with q | q
  · omega
  · exfalso
    have hR := ipow_pos R
    have h16 : (0 : Int) < 16000 ^ ss.length := Int.pow_pos (by decide)
    have h3 : (0 : Int) < 3 ^ ss.length := Int.pow_pos (by decide)
    have a1 : y.wd * 16000 ^ ss.length ≤ 2 ^ R * 16000 ^ ss.length := Int.mul_le_mul_of_nonneg_right nk.wd1 (by omega)
    rw [Int.pow_add, Int.mul_assoc] at h
    have a2 := Int.le_of_mul_le_mul_left (Int.le_trans h a1) (by omega)
    have a3 : (2 : Int) ^ 743 * 3 ^ ss.length ≤ 16000 ^ ss.length := Int.le_trans (Int.mul_le_mul_of_nonneg_right (ipow_le q) (by omega)) a2
    have a4 : (3 : Int) ^ (60 - ss.length) ≤ 16000 ^ (60 - ss.length) := by
      have : (3 : Nat) ^ (60 - ss.length) ≤ 16000 ^ (60 - ss.length) := Nat.pow_le_pow_left (by decide) _
      exact_mod_cast this
    have h4 : (0 : Int) < 3 ^ (60 - ss.length) := Int.pow_pos (by decide)
    have a5 := Int.mul_le_mul a3 a4 (by omega) (by omega)
    rw [Int.mul_assoc, ← Int.pow_add, ← Int.pow_add, show ss.length + (60 - ss.length) = 60 by omega] at a5
    have := pow743
    omega
theorem wbits_len {R : Nat} {ss : List Nat} {m : Mdl} (mok : MOk 3 m) (r4 : 4 ≤ R) (r20 : R ≤ 20) (hm : 8 * mst m ≤ 2 ^ R) (hss : ∀ s ∈ ss, (s : Int) < nsg m) (hl : ss.length ≤ 60) : (wbits R (rnds R (rnd0 R m) ss)).length ≤ 744 := by
  have h := mn_few mok r4 r20 hm hss hl
  have nk := (RndOk.begun mok r4 r20 hm).rnds ss hss
  generalize rnds R (rnd0 R m) ss = y at *
  have f2 := wv_few2 (R := R) (mn := y.mn) (by omega) nk.lo0 (by have := nk.wd0; have := ipow_pos (R - 1); omega) nk.le
  unfold wbits
  rw [bitsN_len]
  refine Nat.le_trans (f2.le (j := y.mn + 2) ?_) (by omega)
  obtain ⟨c1, c2⟩ := fewN_ceil (lo := y.lo) f2.wh1 (y.mn + 2)
  have w0 := nk.wd0
  have e1 : (2 : Int) ^ (R - 1) * 2 ^ (y.mn + 2) ≤ y.wd * 2 ^ (y.mn + 2) := Int.mul_le_mul_of_nonneg_right w0 (by have := ipow_pos (y.mn + 2); omega)
  rw [← Int.pow_add, show R - 1 + (y.mn + 2) = R + y.mn + 1 by omega, Int.pow_succ] at e1
  unfold fewOk
  rw [Int.add_mul, Int.add_mul]
  omega
def spRead (K : PySem.W.Frag) : Sp := fun vs H Q _ => ∃ x m R bs j L, vs = [x, .int (R : Nat), .str (dgs bs), .int (j : Nat)] ∧ HS H L ∧ MdR K L x m ∧ MOk 3 m ∧ 4 ≤ R ∧ R ≤ 20 ∧ 8 * mst m ≤ 2 ^ R ∧ (∀ b ∈ bs, b < 2) ∧ bs.length ≤ 900 ∧ j ≤ 60 ∧ rdGood R m (valB bs) bs.length j ∧
  ∀ f H', HS H' (pt f (.lst (iv ((rdL R m (valB bs) bs.length j).map Int.ofNat))) :: L) → Q (.ref f) H'
theorem c_read {K : PySem.W.Frag} {H : Hp} {Q : VK} {E : XK} {L : List SA} {x : V} {m : Mdl} {i i2 : Int} (R : Nat) (bs : List Nat) (j : Nat) (e : i = (R : Nat)) (e2 : i2 = (j : Nat)) [hs : HS H L] [rm : MdR K L x m] (ok : MOk 3 m) (r4 : 4 ≤ R) (r20 : R ≤ 20) (hm : 8 * mst m ≤ 2 ^ R) (hb : ∀ b ∈ bs, b < 2) (hl : bs.length ≤ 900) (hj : j ≤ 60) (hg : rdGood R m (valB bs) bs.length j)
    (h : ∀ f H', HS H' (pt f (.lst (iv ((rdL R m (valB bs) bs.length j).map Int.ofNat))) :: L) → Q (.ref f) H') : spRead K [x, .int i, .str (dgs bs), .int i2] H Q E := ⟨x, m, R, bs, j, L, by rw [e, e2], hs, rm, ok, r4, r20, hm, hb, hl, hj, hg, h⟩
end G

namespace G
open PySem L2
/-! Readers that are fed the begin of a row's number. -/
def Tkn (R : Nat) (m : Mdl) (ss bs : List Nat) : Prop := ∃ t : List Nat, (∀ b ∈ t, b < 2) ∧ InR R (rnds R (rnd0 R m) ss) (valB (bs ++ t)) (bs ++ t).length
structure Rdr (R : Nat) (m : Mdl) (ss bs : List Nat) (j : Nat) : Prop where
  mok : MOk 3 m
  r4 : 4 ≤ R
  r20 : R ≤ 20
  hm : 8 * mst m ≤ 2 ^ R
  hl : ss.length ≤ 60
  hss : ∀ s ∈ ss, (s : Int) < nsg m
  tk : Tkn R m ss bs
  hj : j ≤ ss.length
  ok : RdOk R j (rnds R (rnd0 R m) (ss.take j)) (nsg m) (mst m) bs false
section
variable {R : Nat} {m : Mdl} {ss bs : List Nat} {j : Nat}
theorem Rdr.step (h : Rdr R m ss bs j) (hj : j < ss.length) : ¬ OutR R (rnds R (rnd0 R m) (ss.take j)) (valB bs) bs.length ∧
    (AllR R (rnd R (rnds R (rnd0 R m) (ss.take j)) (rsgn R (rnds R (rnd0 R m) (ss.take j)) (valB bs) bs.length)) (valB bs) bs.length → rsgn R (rnds R (rnd0 R m) (ss.take j)) (valB bs) bs.length = ss[j]) ∧
    (AllR R (rnds R (rnd0 R m) ss) (valB bs) bs.length → AllR R (rnd R (rnds R (rnd0 R m) (ss.take j)) (rsgn R (rnds R (rnd0 R m) (ss.take j)) (valB bs) bs.length)) (valB bs) bs.length) := by
  obtain ⟨t, ht, hi⟩ := h.tk
  obtain ⟨o1, s1⟩ := sgn_at h.mok h.r4 h.r20 h.hm h.hss hi hj
  have o2 := outr_pre ht o1
  refine ⟨o2, fun a => ?_, fun a => ?_⟩
  · have a2 := (allr_app ht a).inr
    obtain ⟨_, _, q2⟩ := rsgnQ_ok h.ok.rk h.ok.lo1 o2
    obtain ⟨_, _, _, e⟩ := inr_sign h.ok.rk q2 a2
    rw [← e, s1]
  · obtain ⟨_, s2⟩ := sgn_at h.mok h.r4 h.r20 h.hm h.hss a.inr hj
    have a2 := allr_at h.mok h.r4 h.r20 h.hm h.hss a (show j + 1 ≤ ss.length from hj)
    rw [take_succ hj, rnds_snoc] at a2
    rw [s2]
    exact a2
theorem Rdr.next (h : Rdr R m ss bs j) (hj : j < ss.length) (a : AllR R (rnd R (rnds R (rnd0 R m) (ss.take j)) (rsgn R (rnds R (rnd0 R m) (ss.take j)) (valB bs) bs.length)) (valB bs) bs.length) :
    Rdr R m ss bs (j + 1) ∧ rnd R (rnds R (rnd0 R m) (ss.take j)) (rsgn R (rnds R (rnd0 R m) (ss.take j)) (valB bs) bs.length) = rnds R (rnd0 R m) (ss.take (j + 1)) := by
  obtain ⟨o, s, _⟩ := h.step hj
  obtain ⟨_, ok2⟩ := h.ok.take (by have := h.hl; omega) o (.inr a)
  have e : rnd R (rnds R (rnd0 R m) (ss.take j)) (rsgn R (rnds R (rnd0 R m) (ss.take j)) (valB bs) bs.length) = rnds R (rnd0 R m) (ss.take (j + 1)) := by rw [take_succ hj, rnds_snoc, s a]
  rw [e] at ok2
  exact ⟨⟨h.mok, h.r4, h.r20, h.hm, h.hl, h.hss, h.tk, hj, ok2⟩, e⟩
theorem Rdr.feed {ds : List Nat} (h : Rdr R m ss bs j) (hd : ∀ b ∈ ds, b < 2) (hl : bs.length + ds.length ≤ 900) (tk : Tkn R m ss (bs ++ ds)) : Rdr R m ss (bs ++ ds) j := ⟨h.mok, h.r4, h.r20, h.hm, h.hl, h.hss, tk, h.hj, h.ok.feed hd hl⟩
theorem Rdr.begun (mok : MOk 3 m) (r4 : 4 ≤ R) (r20 : R ≤ 20) (hm : 8 * mst m ≤ 2 ^ R) (hl : ss.length ≤ 60) (hss : ∀ s ∈ ss, (s : Int) < nsg m) (tk : Tkn R m ss []) : Rdr R m ss [] 0 := ⟨mok, r4, r20, hm, hl, hss, tk, Nat.zero_le _, RdOk.begun mok r4 r20 hm⟩
theorem Rdr.longer {s : Nat} (h : Rdr R m ss bs j) (hl : ss.length < 60) (hs : (s : Int) < nsg m) (tk : Tkn R m (ss ++ [s]) bs) : Rdr R m (ss ++ [s]) bs j := by
  refine ⟨h.mok, h.r4, h.r20, h.hm, by simp; omega, fun u hu => ?_, tk, by have := h.hj; simp; omega, ?_⟩
  · rcases List.mem_append.mp hu with q | q
    · exact h.hss u q
    · rw [List.mem_singleton.mp q]; exact hs
  · rw [List.take_append_of_le_length h.hj]; exact h.ok
/-- digits behind those of a number -/
theorem Tkn.pre {ds : List Nat} (hd : ∀ b ∈ ds, b < 2) (h : Tkn R m ss (bs ++ ds)) : Tkn R m ss bs := by
  obtain ⟨t, ht, hi⟩ := h
  refine ⟨ds ++ t, fun b hb => ?_, by rw [← List.append_assoc]; exact hi⟩
  rcases List.mem_append.mp hb with q | q
  · exact hd b q
  · exact ht b q
theorem Tkn.of (h : InR R (rnds R (rnd0 R m) ss) (valB bs) bs.length) : Tkn R m ss bs := ⟨[], by simp, by rw [List.append_nil]; exact h⟩
end
/-! numbers, and None behind them -/
theorem dpAll_ivN {K : PySem.W.Frag} {H : Hp} : ∀ l : List Int, DpAll K H (iv l ++ [.non]) (l.map PyData.int ++ [.none])
  | [] => .cons .non .nil
  | a :: l => .cons (.int a) (dpAll_ivN l)
theorem layN : ∀ cs : List Int, PyData.canLayAll0 (cs.map .int ++ [.none]) = true
  | [] => by simp [PyData.canLayAll0, PyData.canLay0]
  | c :: r => by simp [PyData.canLayAll0, PyData.canLay0, layN r]
theorem depthN : ∀ cs : List Int, PyData.depthAll (cs.map .int ++ [.none]) = 0
  | [] => by simp [PyData.depthAll, PyData.depth]
  | c :: r => by simp [PyData.depthAll, PyData.depth, depthN r]
theorem shapedN (cs : List Int) : SeqAt.shaped (.list (cs.map .int ++ [.none])) = true := by
  unfold SeqAt.shaped
  have e : (PyData.list (cs.map .int ++ [.none])).depth = 1 := by simp [PyData.depth, depthN]
  rw [e]
  simp [PyData.canLay0, layN]
theorem eqvN (cs : List Int) : PyData.eqvAll (cs.map .int ++ [.none]) [] = false := by cases cs <;> simp [PyData.eqvAll]
section
variable {K : PySem.W.Frag} {H : Hp} {Q : VK} {L : List SA} {p q : Addr}
theorem s_eqNilN {cs : List Int} [hs : HS H L] [m1 : RdL K L p (iv cs ++ [.non])] [m2 : RdL K L q []] (h : Q (.bl false) H) : rEqG K (.ref p) (.ref q) H Q :=
  .inr ⟨_, _, .lst (m1.sq hs) (dpAll_ivN cs), .lst (m2.sq hs) .nil, shapedN cs, rfl, by simp only [PyData.eqv, eqvN]; exact h⟩
theorem s_neNilN {cs : List Int} [hs : HS H L] [m1 : RdL K L p (iv cs ++ [.non])] [m2 : RdL K L q []] (h : Q (.bl true) H) : rNeG K (.ref p) (.ref q) H Q :=
  .inr ⟨_, _, .lst (m1.sq hs) (dpAll_ivN cs), .lst (m2.sq hs) .nil, shapedN cs, rfl, by simp only [PyData.eqv, eqvN]; exact h⟩
end
def spLPieces (K : PySem.W.Frag) : Sp := fun vs H Q _ => ∃ p W L, vs = [.ref p, .str (dgs W)] ∧ W.length ≤ 2000 ∧ HS H (rowA K p :: L) ∧ ∀ (ps : List (List Nat)) f H', ps.flatten = W → ps.length ≤ W.length → HS H' (pt f (.lst (ps.map fun d => V.str (dgs d))) :: rowA K p :: L) → Q (.ref f) H'
section
variable (K : PySem.W.Frag) (Sh Pl Le Ah Bl Rd : Addr)
def spAllTaken : Sp := fun vs H Q _ => ∃ p l R m ss bs j L, vs = [.ref p, .ref l, .int (List.length ss : Nat)] ∧ Rdr R m ss bs j ∧ HS H (rdS K Sh Pl Le Ah Bl Rd p R (rnds R (rnd0 R m) (ss.take j)) j bs false :: pt l (.lst (iv ((ss.take j).map Int.ofNat))) :: L) ∧
  ∀ j' H', Rdr R m ss bs j' → (AllR R (rnds R (rnd0 R m) ss) (valB bs) bs.length → j' = ss.length) → HS H' (rdS K Sh Pl Le Ah Bl Rd p R (rnds R (rnd0 R m) (ss.take j')) j' bs false :: pt l (.lst (iv ((ss.take j').map Int.ofNat))) :: L) → Q (.ref l) H'
end
section
variable {K : PySem.W.Frag} {Sh Pl Le Ah Bl Rd p l : Addr} {H : Hp} {Q : VK} {E : XK} {L F F2 : List SA} {R j : Nat} {m : Mdl} {ss bs : List Nat} {i : Int}
theorem c_lPieces (W : List Nat) (hz : W.length ≤ 2000) [hs : HS H L] [o : Own L p (rowA K p) F] (h : ∀ (ps : List (List Nat)) f H', ps.flatten = W → ps.length ≤ W.length → HS H' (pt f (.lst (ps.map fun d => V.str (dgs d))) :: rowA K p :: F) → Q (.ref f) H') : spLPieces K [.ref p, .str (dgs W)] H Q E := ⟨p, W, F, rfl, hz, hs.pk o.pk, h⟩
theorem c_allTaken (e : i = (ss.length : Nat)) (rd : Rdr R m ss bs j) [hs : HS H L] [o : Own L p (rdS K Sh Pl Le Ah Bl Rd p R (rnds R (rnd0 R m) (ss.take j)) j bs false) F] [o2 : Own F l (pt l (.lst (iv ((ss.take j).map Int.ofNat)))) F2]
    (h : ∀ j' H', Rdr R m ss bs j' → (AllR R (rnds R (rnd0 R m) ss) (valB bs) bs.length → j' = ss.length) → HS H' (rdS K Sh Pl Le Ah Bl Rd p R (rnds R (rnd0 R m) (ss.take j')) j' bs false :: pt l (.lst (iv ((ss.take j').map Int.ofNat))) :: F2) → Q (.ref l) H') : spAllTaken K Sh Pl Le Ah Bl Rd [.ref p, .ref l, .int i] H Q E :=
  ⟨p, l, R, m, ss, bs, j, F2, by rw [e], rd, hs.pk2 o.pk o2.pk, h⟩
end
/-! what a writer tells begins what all numbers of its stretch do -/
theorem cp_pre : ∀ (d x y : List Nat), d <+: cp x y ↔ d <+: x ∧ d <+: y
  | [], x, y => by simp
  | a :: d, [], y => by cases y <;> simp [cp]
  | a :: d, b :: x, [] => by simp [cp]
  | a :: d, b :: x, c :: y => by
    have ih := cp_pre d x y
    simp only [cp]
    split
    · subst_vars
      simp only [List.cons_prefix_cons, ih]
      exact ⟨fun ⟨h1, h2, h3⟩ => ⟨⟨h1, h2⟩, h1, h3⟩, fun ⟨⟨h1, h2⟩, _, h3⟩ => ⟨h1, h2, h3⟩⟩
    · rename_i hne
      constructor
      · intro h
        have := List.prefix_nil.mp h
        cases this
      · rintro ⟨h1, h2⟩
        rw [List.cons_prefix_cons] at h1 h2
        exact absurd (h1.1.symm.trans h2.1) hne
/-- digits that begin a number's -/
theorem pre_bits {d : List Nat} {n : Int} {N : Nat} (hd : ∀ b ∈ d, b < 2) (hl : d.length ≤ N) (n0 : 0 ≤ n) (n1 : n < 2 ^ N) : d <+: bitsN n N ↔ valB d * 2 ^ (N - d.length) ≤ n ∧ n < (valB d + 1) * 2 ^ (N - d.length) := by
  constructor
  · rintro ⟨t, ht⟩
    have htl : t.length = N - d.length := by
      have := congrArg List.length ht
      rw [List.length_append, bitsN_len] at this
      omega
    have htb : ∀ b ∈ t, b < 2 := fun b hb => bitsN_lt n N b (by rw [← ht]; exact List.mem_append_right _ hb)
    have hv := congrArg valB ht
    rw [bitsN_val _ _ n0 n1] at hv
    obtain ⟨p1, p2⟩ := val_pre d t htb
    rw [hv, htl] at p1 p2
    omega
  · rintro ⟨h1, h2⟩
    rw [Int.add_mul, Int.one_mul] at h2
    have := bits_split (bs := d) (r := n - valB d * 2 ^ (N - d.length)) (n := N - d.length) hd (by omega) (by omega)
    rw [show valB d * 2 ^ (N - d.length) + (n - valB d * 2 ^ (N - d.length)) = n by omega, show d.length + (N - d.length) = N by omega] at this
    rw [this]
    exact List.prefix_append _ _
theorem wdig_bit (R : Nat) (y : Rnd) : ∀ b ∈ wdig R y, b < 2 := fun b hb => by
  have h := ((cp_pre (wdig R y) _ _).mp (List.prefix_refl _)).1
  exact bitsN_lt _ _ b (h.subset hb)
theorem wdig_len (R : Nat) (y : Rnd) : (wdig R y).length ≤ R + y.mn := by
  have := cp_le (bitsN y.lo (R + y.mn)) (bitsN (y.lo + y.wd - 1) (R + y.mn))
  rw [bitsN_len] at this
  exact this
/-- digits that begin all numbers of a stretch -/
theorem wdig_pre {R k : Nat} {y : Rnd} {sg mo : Int} (h : RndOk R k y sg mo) {d : List Nat} (hd : ∀ b ∈ d, b < 2) (hl : d.length ≤ R + y.mn) : d <+: wdig R y ↔ valB d * 2 ^ (R + y.mn - d.length) ≤ y.lo ∧ y.lo + y.wd ≤ (valB d + 1) * 2 ^ (R + y.mn - d.length) := by
  have w0 := h.wd0
  have := ipow_pos (R - 1)
  have l0 := h.lo0
  have le := h.le
  unfold wdig
  rw [cp_pre, pre_bits hd hl l0 (by omega), pre_bits hd hl (by omega) (by omega)]
  constructor
  · rintro ⟨⟨a, b⟩, c, d⟩; omega
  · rintro ⟨a, b⟩; omega
/-- they are never taken back -/
theorem wdig_next {R k : Nat} {y : Rnd} {sg mo : Int} {s : Nat} (h : RndOk R k y sg mo) (hs : (s : Int) < sg) : wdig R y <+: wdig R (rnd R y s) := by
  have hl := wdig_len R y
  have hb := wdig_bit R y
  obtain ⟨a1, a2⟩ := (wdig_pre h hb hl).mp (List.prefix_refl _)
  have h2 := h.rnd hs
  obtain ⟨w1, a0, aw⟩ := h.wide hs
  have hm : (rnd R y s).mn = y.mn + rsh R y s := rfl
  have hp := ipow_pos (rsh R y s)
  refine (wdig_pre h2 hb (by omega)).mpr ?_
  rw [hm, show R + (y.mn + rsh R y s) - (wdig R y).length = R + y.mn - (wdig R y).length + rsh R y s by omega, Int.pow_add, ← Int.mul_assoc, ← Int.mul_assoc]
  constructor
  · exact Int.mul_le_mul_of_nonneg_right (by omega) (by omega)
  · show (y.lo + rpart y * (y.m.now.take s).sum) * 2 ^ rsh R y s + rpart y * y.m.now.getD s 0 * 2 ^ rsh R y s ≤ _
    rw [← Int.add_mul]
    exact Int.mul_le_mul_of_nonneg_right (by omega) (by omega)
/-- they begin what end tells -/
theorem wdig_end {R k : Nat} {y : Rnd} {sg mo : Int} (h : RndOk R k y sg mo) (hk : k ≤ 60) : wdig R y <+: wbits R y := by
  have hl := wdig_len R y
  have hb := wdig_bit R y
  obtain ⟨a1, a2⟩ := (wdig_pre h hb hl).mp (List.prefix_refl _)
  obtain ⟨wb, w1, w2⟩ := wbits_all h hk
  obtain ⟨n0, n1⟩ := valB_lt _ wb
  generalize wdig R y = d at *
  have hW : wbits R y = bitsN (valB (wbits R y)) (wbits R y).length := valB_inj _ _ (by rw [bitsN_len]) wb (bitsN_lt _ _) (by rw [bitsN_val _ _ n0 n1])
  rw [hW]
  generalize valB (wbits R y) = n at *
  generalize (wbits R y).length = K at *
  have hK := ipow_pos K
  have hd := ipow_pos (R + y.mn - d.length)
  have b1 : valB d * 2 ^ (R + y.mn - d.length) * 2 ^ K ≤ n * 2 ^ (R + y.mn) := Int.le_trans (Int.mul_le_mul_of_nonneg_right a1 (by omega)) w1
  have b2 : (n + 1) * 2 ^ (R + y.mn) ≤ (valB d + 1) * 2 ^ (R + y.mn - d.length) * 2 ^ K := Int.le_trans w2 (Int.mul_le_mul_of_nonneg_right a2 (by omega))
  have eN : (2 : Int) ^ (R + y.mn) = 2 ^ d.length * 2 ^ (R + y.mn - d.length) := by rw [← Int.pow_add, show d.length + (R + y.mn - d.length) = R + y.mn by omega]
  rw [eN] at b1 b2
  have c1 : valB d * 2 ^ K ≤ n * 2 ^ d.length := by
    have e1 : valB d * 2 ^ K * 2 ^ (R + y.mn - d.length) = valB d * 2 ^ (R + y.mn - d.length) * 2 ^ K := by simp only [Int.mul_assoc, Int.mul_comm, Int.mul_left_comm]
    have f1 : valB d * 2 ^ K * 2 ^ (R + y.mn - d.length) ≤ n * 2 ^ d.length * 2 ^ (R + y.mn - d.length) := by rw [e1, Int.mul_assoc n]; exact b1
    exact Int.le_of_mul_le_mul_right f1 (by omega)
  have c2 : (n + 1) * 2 ^ d.length ≤ (valB d + 1) * 2 ^ K := by
    have e1 : (valB d + 1) * 2 ^ K * 2 ^ (R + y.mn - d.length) = (valB d + 1) * 2 ^ (R + y.mn - d.length) * 2 ^ K := by simp only [Int.mul_assoc, Int.mul_comm, Int.mul_left_comm]
    have f1 : (n + 1) * 2 ^ d.length * 2 ^ (R + y.mn - d.length) ≤ (valB d + 1) * 2 ^ K * 2 ^ (R + y.mn - d.length) := by rw [e1, Int.mul_assoc (n + 1)]; exact b2
    exact Int.le_of_mul_le_mul_right f1 (by omega)
  have hdl := ipow_pos d.length
  have hle : d.length ≤ K := by
    rcases Nat.lt_or_ge K d.length with q | q
    · exfalso
      have := ipow_le (show K + 1 ≤ d.length from q)
      rw [Int.pow_succ] at this
      rw [Int.add_mul, Int.one_mul] at c2
      rw [Int.add_mul, Int.one_mul] at c2
      omega
    · exact q
  have eK : (2 : Int) ^ K = 2 ^ (K - d.length) * 2 ^ d.length := by rw [← Int.pow_add, show K - d.length + d.length = K by omega]
  rw [eK, ← Int.mul_assoc] at c1 c2
  have d1 := Int.le_of_mul_le_mul_right c1 (by omega)
  have d2 := Int.le_of_mul_le_mul_right c2 (by omega)
  exact (pre_bits hb hle n0 n1).mpr ⟨d1, by omega⟩
/-- a number of the row's stretch -/
theorem Tkn.dig {R k : Nat} {m : Mdl} {ss : List Nat} {sg mo : Int} (h : RndOk R k (rnds R (rnd0 R m) ss) sg mo) : Tkn R m ss (wdig R (rnds R (rnd0 R m) ss)) := by
  unfold Tkn
  generalize rnds R (rnd0 R m) ss = y at *
  obtain ⟨t, ht⟩ := ((cp_pre (wdig R y) _ _).mp (List.prefix_refl _)).1
  have w0 := h.wd0
  have hp := ipow_pos (R - 1)
  have l0 := h.lo0
  have le := h.le
  have hN := ipow_pos (R + y.mn)
  refine ⟨t, fun b hb => bitsN_lt y.lo (R + y.mn) b (by rw [← ht]; exact List.mem_append_right _ hb), ?_⟩
  rw [ht, bitsN_val _ _ l0 (by omega), bitsN_len]
  exact ⟨Int.le_refl _, Int.mul_lt_mul_of_pos_right (by omega) (by omega)⟩
end G

/-! A list comprehension whose element may raise. -/
namespace G
open PySem PySem.Spec PyProof.Rows L2
/-- behind the block at ce -/
def endX (M : Model) (A : Around) (E : Value → Shared → Prop) (Q : Value → Shared → Prop) (acc : Value) (ce : Env) (q : Result) (t : Shared) : Prop :=
  match q with
  | .ok _ => ∃ m, t.heap.Ns ce.locals m ∧ ∀ g, Heap.SameBut ce.locals t.heap g → Q acc { t with heap := g }
  | .error x => ∃ m, t.heap.Ns ce.locals m ∧ ∀ g, Heap.SameBut ce.locals t.heap g → wpAny M A (passOn "comprehension.variables-let-go" x ce : Sem Value) (fun _ _ => False) E { t with heap := g }
theorem comp_any {M : Model} {A : Around} {E : Value → Shared → Prop} {s : Shared} {env : Env} {e : Expr} {scope : Scope} {pos : Pos} {acc0 fst : Sem Value} {g : Comprehension} {gs : List Comprehension} {cl : List (Str × Addr)} {Q : Value → Shared → Prop}
    (c1 : clausesOf e = g :: gs) (c2 : ∀ x, foldedSetIterable g.iter env x = pure x) (c3 : closureFor scope env = pure cl) (c4 : scope.kind = .function) (c5 : ∀ x ∈ scope.names, x.2 = .local → scope.names.lookup x.1 = some .local)
    (k : wpAny M A fst (fun x t1 => wpAny M A (pyIter x) (fun it t2 => wpAny M A acc0 (fun acc t3 => wpAny M A (newFunctionEnv scope env.globals cl [] env.qual none .none (some env)) (fun ce t4 =>
      codeAny M A (.compStart e 0 it acc { ce with scope := relabel scope env }) (endX M A E Q acc { ce with scope := relabel scope env }) t4) E t3) E t2) E t1) E s) :
    wpAny M A (comprehension e scope env pos acc0 false fst none) Q E s := by
  unfold comprehension
  rw [c3, c1]
  refine wpAny_bind (wpAny_mono k (fun x t1 k1 => ?_) fun _ _ z => z)
  refine wpAny_bind (wpAny_standAt (wpAny_bind (wpAny_of_eq (c2 x) (wpAny_bind (wpAny_holding (wpAny_mono k1 (fun it t2 k2 => ?_) fun _ _ z => z))))))
  refine wpAny_standIf (wpAny_bind (wpAny_mono k2 (fun acc t3 k3 => ?_) fun _ _ z => z))
  refine wpAny_bind (wpAny_pure (wpAny_bind (wpAny_mono k3 (fun ce t4 k4 => ?_) fun _ _ z => z)))
  dsimp only
  have hv : ∀ y ∈ (scope.names.filter fun y => (y.2 == .local || y.2 == .cell) && y.1 != (".0" : Str)).reverse, y.2 = .local → Env.kindOf { ce with scope := relabel scope env } y.1 = some .local :=
    fun y hy hl => lookup_relabel_local (c5 y (List.mem_filter.mp (List.mem_reverse.mp hy)).1 hl)
  refine wpAny_holding (wpAny_bind (wpAny_attempt (wpAny_holding (wpAny_run (codeAny_mono k4 fun q t5 k5 => ?_)))))
  cases q with
  | ok f =>
    obtain ⟨m, hn, k6⟩ := k5
    exact wpAny_bind (wpAny_holding (wpAny_comp_letGo (cenv := { ce with scope := relabel scope env }) c4 _ t5 m hv hn fun g _ _ sb => wpAny_pure (k6 g sb)))
  | error x =>
    obtain ⟨m, hn, k6⟩ := k5
    exact wpAny_bind (wpAny_holding (wpAny_comp_letGo (cenv := { ce with scope := relabel scope env }) c4 _ t5 m hv hn fun g _ _ sb => wpAny_mono (k6 g sb) (fun _ _ z => z.elim) fun _ _ z => z))
end G

namespace G
open PySem PySem.Spec PyProof.Rows L2
/-! A list comprehension whose element may raise: what a call in the block lets out goes on. -/
def airOf (X Y : Cx) (Ex : XK) : Value → Shared → Prop := fun u t => ∃ pp ρ K z, Inv Y pp ρ K z ∧ L2.CX X.prog X.w X.stack K z Ex u t
theorem note_frame {a b : Env} (e : a.frame = b.frame) (x : Value) : noteFrame x a = noteFrame x b := by unfold noteFrame PySem.frameOf; rw [e]
section
variable {X : Cx} {pins : List (Addr × Obj)} {σ : L2.St} {H3 : Hp} {s3 t : Shared} {scope : Scope} {ce : Env} {fp : List Addr} {W : WX} {Ex : XK} {u acc : Value} {Q : Value → Shared → Prop}
theorem air_out (I3 : Inv X pins σ H3 s3) (cL : ce.locals = s3.heap.objs.size) (cF : ce.frame = X.env.frame) (hs : X.stack = X.env :: X.outer) (hf : X.env.frame = some X.env.locals) (tk : Takes X W) (hW : ∀ cls d K, Ex cls d K → W cls d σ K)
    (f3 : ∀ b ∈ fp, FpOk X pins H3 b ∧ b < s3.heap.objs.size) (air : airOf X (X.blk s3 H3 scope ce fp) Ex u t) :
    notedBy (model X.prog X.w) X.A ce (fun e t' => endX (model X.prog X.w) X.A X.xe Q acc ce (.error e) t') u t := by
  obtain ⟨pp, ρ, K, z, Iy, a, B, K', cls, d, rfl, fl, hokB, ub, na, eos, bare, hE⟩ := air
  have IX : Inv X pins σ K z := I3.call' (ch := fp) Iy.os Iy.base Iy.hok Iy.bare fun b hb => ⟨(f3 b hb).1.2.2.2.1, (f3 b hb).1.2.1, (f3 b hb).1.2.2.2.2.1, (f3 b hb).1.2.2.2.2.2⟩
  have nCK : K ce.locals = none := Iy.free
  obtain ⟨m, hns, _⟩ := Iy.loc
  have hns : z.heap.Ns ce.locals m := hns
  obtain ⟨oC, es, ep, hoC, hdC⟩ := id hns
  -- frames are older than the block's names
  have frC : ce.locals ∉ frs X.stack := fun hm => by
    obtain ⟨_, o, ho, _⟩ := I3.stack.mem hm
    exact Nat.lt_irrefl _ (cL ▸ Heap.lt_size ho)
  have bC : B.get? ce.locals = some oC := ub.keep _ _ hoC nCK frC
  have nCK' : K' ce.locals = none := ub.free _ _ hoC nCK
  have fr : X.A.frames = some (X.env :: X.outer) := by rw [IX.ok.frames, hs]
  rw [hs] at fl
  show wpAny (model X.prog X.w) X.A (noteFrame (.ref a) ce) _ _ _
  rw [note_frame cF]
  refine HandSPX.looks_onZ Zc.steady fr hf fl fun h1 hd1 up1 => ?_
  have c1 : h1.get? ce.locals = some oC := hd1.1 _ _ bC
  refine ⟨m, ⟨oC, es, ep, c1, hdC⟩, fun g sb => ?_⟩
  -- the ground without the block's names
  obtain ⟨B2, b2, b3⟩ := restrict B fun b => decide (b ≠ ce.locals)
  have inB : ∀ b o, B2.get? b = some o → b ≠ ce.locals ∧ B.get? b = some o := fun b o e => by
    by_cases q : b = ce.locals
    · rw [b3 b (decide_eq_false fun n => n q)] at e; cases e
    · exact ⟨q, by rw [b2 b (decide_eq_true q)] at e; exact e⟩
  have outB : ∀ b, B.get? b = none → B2.get? b = none := fun b e => by
    cases q : B2.get? b with
    | none => rfl
    | some o => have := (inB b o q).2; rw [e] at this; cases this
  have sbk : ∀ b, b ≠ ce.locals → g.get? b = h1.get? b := fun b hb => sb.2 b hb
  obtain ⟨k1, k2, k3, oe, vs, T, oT, ts, q1, q2, q3, q4, q5, q6, q7, q8, q9⟩ := hd1
  have aC : a ≠ ce.locals := fun e => by rw [e, bC] at k2; cases k2
  have tC : T ≠ ce.locals := fun e => by rw [e, bC] at q5; cases q5
  have held2 : HandSPX.HeldZ B2 (X.env :: X.outer) a (Zc cls d) X.env.locals g := by
    refine ⟨fun b o e => ?_, outB a k2, ?_, oe, vs, T, oT, ts, (sbk a aC).trans q1, q2, q3, q4, outB T q5, q6, (sbk T tC).trans q7, q8, q9⟩
    · obtain ⟨n, e'⟩ := inB b o e
      exact (sbk b n).trans (k1 b o e')
    · have ff : h1.FunFrames B2 (X.env :: X.outer) := funFrames_none k3 fun b hb => outB b (k3.mem hb).1
      clear q1 q7
      have go : ∀ l : List Env, (∀ b ∈ frs l, b ≠ ce.locals) → h1.FunFrames B2 l → g.FunFrames B2 l := by
        intro l; induction l with
        | nil => intro _ _; trivial
        | cons v l ih =>
          intro hn hl
          obtain ⟨x1, ⟨y1, y2, y3, y4, y5, y6⟩, x3⟩ := hl
          refine ⟨x1, ⟨y1, y2, y3, y4, (sbk _ (hn y1 (List.mem_filterMap.mpr ⟨v, List.mem_cons_self, y3⟩))).trans y5, y6⟩, ih (fun b hb => hn b ?_) x3⟩
          obtain ⟨w, hw, e⟩ := List.mem_filterMap.mp hb
          exact List.mem_filterMap.mpr ⟨w, List.mem_cons_of_mem _ hw, e⟩
      exact go _ (fun b hb e => frC (by rw [hs, ← e]; exact hb)) ff
  -- the state without the exception, and without the block's names
  obtain ⟨G, g1, g2⟩ := restrict t.heap fun b => decide (b ≠ ce.locals) && ((B.get? b).isSome || decide (b ∈ frs X.stack))
  have stB : B.StaysIn t.heap := fl.1
  have gOld : ∀ b o, b ≠ ce.locals → B.get? b = some o → G.get? b = some o := fun b o n e => by
    rw [g1 b (by simp [n, e])]; exact stB b o e
  have gFr : ∀ b, b ∈ frs X.stack → G.get? b = t.heap.get? b := fun b hb => g1 b (by have : b ≠ ce.locals := fun e => frC (e ▸ hb); simp [this, hb])
  have gIn : ∀ b o, G.get? b = some o → b ≠ ce.locals ∧ t.heap.get? b = some o ∧ (B.get? b = some o ∨ b ∈ frs X.stack) := fun b o e => by
    by_cases n : b = ce.locals
    · rw [g2 b (by simp [n])] at e; cases e
    by_cases y : (B.get? b).isSome = true
    · obtain ⟨o', e'⟩ := Option.isSome_iff_exists.mp y
      have := gOld b o' n e'
      rw [e] at this; cases this
      exact ⟨n, stB b o e', .inl e'⟩
    by_cases f : b ∈ frs X.stack
    · exact ⟨n, by rw [← gFr b f]; exact e, .inr f⟩
    · rw [g2 b (by simp [y, f])] at e; cases e
  have fC := I3.fpOk (b := ce.locals) (H' := K) (Nat.le_of_eq cL.symm) nCK
  have J : Inv X pins σ K' { z with heap := G, gens := t.gens, drawn := t.drawn, toks := t.toks } := by
    refine IX.call (ch := [ce.locals]) ⟨fun b o e n nf nc => ?_, fun b o e n yf nc => ?_, fun b o e n _ => ub.free b o e n, fun b o e nc => ?_, ub.tups, ub.frzs, ub.tbls⟩ ?_ bare fun b hb => ?_
    · exact gOld b o (fun q => nc (by rw [q]; exact List.mem_singleton.mpr rfl)) (ub.keep b o e n nf)
    · obtain ⟨sl, q⟩ := ub.slot b o e yf
      exact ⟨sl, (gFr b yf).trans q⟩
    · by_cases yf : b ∈ frs X.stack
      · obtain ⟨sl, q⟩ := ub.slot b o e yf
        exact ⟨_, (gFr b yf).trans q⟩
      · obtain ⟨o', q⟩ := ub.there b o e yf
        exact ⟨o', gOld b o' (fun q => nc (by rw [q]; exact List.mem_singleton.mpr rfl)) q⟩
    · intro b ob e
      refine (hokB b ob e).stay (fun c v hc r => gOld c v (fun q => ?_) r) (fun _ r => r) fun _ _ r => r
      rw [q] at hc r
      rcases hc with hc | hc
      · rw [← hc, nCK'] at e; cases e
      · rw [nCK'] at hc; cases hc
    · rw [List.mem_singleton.mp hb]
      exact ⟨fC.2.2.2.1, fC.2.1, fC.2.2.2.2.1, fC.2.2.2.2.2⟩
  have upG : G.UpToSlots g := fun b o e nf => by
    obtain ⟨n, e', _⟩ := gIn b o e
    obtain ⟨sl, q⟩ := up1 b o e' nf
    exact ⟨sl, (sbk b n).trans q⟩
  unfold PySem.passOn
  obtain ⟨_, _, _, oe', vs', T', oT', ts', r1, r2, r3, r4, _⟩ := id held2
  refine wpAny_bind (wpAny_field r1 r3 r4 ?_)
  rw [if_neg (show ¬ ((Value.ref T' == Value.none) = true) from by simp)]
  have last : wpAny (model X.prog X.w) X.A (setFlight (.ref a) ce.frame) (fun _ y => wpAny (model X.prog X.w) X.A (throw (.ref a) : Sem Value) (fun _ _ => False) X.xe y) X.xe { { t with heap := h1 } with heap := g } := by
    rw [cF, hf]
    refine HandSPX.setFlight_onZ held2 fun h4 hh4 up4 => wpAny_throw (tk _ _ ?_)
    exact ⟨a, B2, _, pins, σ, K', cls, d, rfl, J, fun b o e nf => by
      obtain ⟨n, _, q | q⟩ := gIn b o e
      · rw [b2 b (decide_eq_true n)]; exact q
      · exact absurd q nf, upG.trans up4, .inr (.inr (by rw [hs]; exact hh4)), na, eos, bare, hW _ _ _ hE⟩
  first
    | exact wpAny_bind (wpAny_pure (wpAny_bind last))
    | exact wpAny_bind last
end
section
variable {X : Cx}
/-- the block in which a call may raise -/
abbrev blkX (X : Cx) (Ex : XK) (s : Shared) (H : Hp) (scope : Scope) (ce : Env) (fp : List Addr) : Cx := (X.blk s H scope ce fp).wish (airOf X (X.blk s H scope ce fp) Ex)
theorem air_call {Ex : XK} {s : Shared} {H : Hp} {scope : Scope} {ce : Env} {fp : List Addr} : Passes (L2.CX X.prog X.w) (blkX X Ex s H scope ce fp) Ex := fun pp ρ K z _ _ I c => ⟨pp, ρ, K, z, I.unwish, c⟩
theorem pe_lcX {elt tg iter : Expr} {ifs : List Expr} {scope : Scope} {own : List (Str × Nat)} {pos : Pos} {wi : TI} {g : TG} {tt : TT} {te : TE} {W : WX} {Ex : XK} (hc : X.calm = true) (hN : X.N.Nodup) (hs : X.stack = X.env :: X.outer) (hf : X.env.frame = some X.env.locals)
    (tk : Takes X W) (hW : ∀ cls d σ K, Ex cls d K → W cls d σ K) (hi : PI X tg iter wi) (bk : BlkOk X.N X.env.scope scope own)
    (hg : ∀ (s : Shared) (H : Hp) (C : Addr) (cl : List (Str × Addr)) (fp : List Addr), PG (X.blk s H scope (compEnvC scope cl C X.env) fp) tg g) (ht : ∀ (s : Shared) (H : Hp) (C : Addr) (cl : List (Str × Addr)) (fp : List Addr), PTs (X.blk s H scope (compEnvC scope cl C X.env) fp) ifs tt)
    (he : ∀ (s : Shared) (H : Hp) (C : Addr) (cl : List (Str × Addr)) (fp : List Addr), PE (blkX X Ex s H scope (compEnvC scope cl C X.env) fp) elt te) (hst : ∀ x, foldedSetIterable iter X.env x = pure x := by intro _; rfl) :
    PE X (.ListComp elt [⟨tg, iter, ifs, 0⟩] scope pos) (tLc wi g tt te (own.map (·.2))) := by
  refine ⟨fun pins s σ H Q I h => ?_⟩
  rw [eval_ListComp]
  have cells : ∀ y ∈ scope.names, y.2 = .free → ∃ c, X.env.cells.lookup y.1 = some c := fun y hy e => (bk.free y hy e).elim (fun k => I.ok.has _ (.inl k)) fun k => I.ok.has _ (.inr k)
  refine comp_any rfl hst (closure_ok cells) bk.kind (fun y hy e => by rw [bk.uniq y hy, e]) (thn (hi.run pins s σ H _ I h) fun xv s1 came => thn came fun iv s2 pie => ?_)
  obtain ⟨it, fp, tn, J, K, rfl, I2, T, at0, f2, q⟩ := pie
  refine wpAny_newObj_type (newEnv_comp ?_) (Nat.zero_le _)
  generalize eD : s2.heap.objs.size = D
  have noD : K D = none := I2.hok.fresh (Nat.le_of_eq eD)
  obtain ⟨V, ⟨m0, v0⟩, turn⟩ := q D noD
  -- the list is laid
  generalize e3 : ({ s2 with heap := s2.heap.push { cls := .type "list", data := .seq ([] : List Value).toArray } } : Shared) = s3
  have h3 : s3.heap = s2.heap.push { cls := .type "list", data := .seq ([] : List Value).toArray } := by rw [← e3]
  have k3 : ∀ b o, s2.heap.get? b = some o → s3.heap.get? b = some o := fun b o e => by rw [h3]; exact Heap.get?_push_of_some _ e
  have I3 : Inv X pins σ (upd K D (.lst [])) s3 := by
    subst e3
    exact I2.laid (t' := s2.toks) (fun b o e => Heap.get?_push_of_some _ e) (Nat.le_of_eq eD) ⟨Nat.zero_le _, [], 0, .nil, by rw [← eD]; exact Heap.get?_push_size _ rfl⟩
  have f3 : ∀ b ∈ fp, FpOk X pins (upd K D (.lst [])) b ∧ b < s3.heap.objs.size := fun b hb => by
    obtain ⟨o, e, _⟩ := T.obj _ _ at0 b hb
    have lt := Heap.lt_size e
    exact ⟨⟨(upd_ne (by rw [← eD]; exact Nat.ne_of_lt lt)).trans (f2 b hb).1, (f2 b hb).2⟩, Heap.lt_size (k3 b o e)⟩
  have at3 : tn 0 s3.heap := T.keep _ _ _ at0 fun b _ o e => k3 b o e
  have I4 := block_start I3 bk hN f3
  show codeAny (model X.prog X.w) X.A (.compStart (.ListComp elt [⟨tg, iter, ifs, 0⟩] scope pos) 0 (.ref it) (.ref D) (compEnvC scope (cellsFrom (s3.heap.objs.size + 1) scope.names (cloFrom X.env.cells scope.names [])) s3.heap.objs.size X.env)) (endX (model X.prog X.w) X.A X.xe (EP X pins σ Q) (.ref D) (compEnvC scope (cellsFrom (s3.heap.objs.size + 1) scope.names (cloFrom X.env.cells scope.names [])) s3.heap.objs.size X.env)) { s3 with heap := pushCells (s3.heap.push { cls := .type "dict", data := .dict #[] }) scope.names }
  have gg := hg s3 (upd K D (.lst [])) s3.heap.objs.size (cellsFrom (s3.heap.objs.size + 1) scope.names (cloFrom X.env.cells scope.names [])) fp
  have gt := ht s3 (upd K D (.lst [])) s3.heap.objs.size (cellsFrom (s3.heap.objs.size + 1) scope.names (cloFrom X.env.cells scope.names [])) fp
  have ge := he s3 (upd K D (.lst [])) s3.heap.objs.size (cellsFrom (s3.heap.objs.size + 1) scope.names (cloFrom X.env.cells scope.names [])) fp
  obtain ⟨ce, ec⟩ : ∃ ce, compEnvC scope (cellsFrom (s3.heap.objs.size + 1) scope.names (cloFrom X.env.cells scope.names [])) s3.heap.objs.size X.env = ce := ⟨_, rfl⟩
  have cL : ce.locals = s3.heap.objs.size := by rw [← ec]; rfl
  have cF : ce.frame = X.env.frame := by rw [← ec]; rfl
  rw [ec] at I4 gg gt ge ⊢
  obtain ⟨K3, eK⟩ : ∃ K3, upd K D (.lst []) = K3 := ⟨_, rfl⟩
  rw [eK] at I3 I4 gg gt ge v0 f3
  obtain ⟨s4, e4⟩ : ∃ s4 : Shared, ({ s3 with heap := pushCells (s3.heap.push { cls := .type "dict", data := .dict #[] }) scope.names } : Shared) = s4 := ⟨_, rfl⟩
  rw [e4] at I4 ⊢
  have at4 : tn 0 s4.heap := T.keep _ _ _ at3 fun b _ o e => by rw [← e4]; exact pushCells_keeps _ _ _ _ (Heap.get?_push_of_some _ e)
  -- what walks stands apart, in the block
  have apart : ∀ {ρ : L2.St} {K' : Hp} {z : Shared}, Inv (X.blk s3 K3 scope ce fp) [] ρ K' z → (∀ b ∈ fp, K' b = none) → ∀ b ∈ fp, FpOk (X.blk s3 K3 scope ce fp) [] K' b := fun {ρ K' z} I' n b hb =>
    ⟨n b hb, (I'.ok.exf b hb).1, I'.ok.exfs b hb, .inl hb, fun x c e => (I'.ok.exf b hb).2 x c e, fun p hp => by simp at hp⟩
  have goes : codeAny (model X.prog X.w) X.A (.compLoop (.ListComp elt [⟨tg, iter, ifs, 0⟩] scope pos) 0 (.ref it) (.ref D) ce) (endX (model X.prog X.w) X.A X.xe (EP X pins σ Q) (.ref D) ce) s4 := by
    refine compLoop_any (fun n z => ∃ i K', Inv (X.blk s3 K3 scope ce fp) [] (wipe σ (own.map (·.2))) K' z ∧ tn i z.heap ∧ (∀ b ∈ fp, K' b = none) ∧ V i n K') (fun n z inv => ?_) m0 ⟨0, K3, I4, at4, fun b hb => (f3 b hb).1.1, v0⟩
    obtain ⟨i, K5, I5, at5, n5, v5⟩ := inv
    rcases turn i n K5 v5 with ⟨stop, done⟩ | ⟨go, Nx, hNx, step⟩
    · refine thnF (T.done (X.blk s3 K3 scope ce fp) rfl rfl rfl hc i [] z _ K5 (fun _ _ => False) I5 (apart I5 n5) at5 stop) fun r z6 ⟨hr, I6⟩ => ?_
      subst hr
      have I7 : Inv X pins σ K5 z6 := I3.call' (ch := fp) I6.os I6.base I6.hok I6.bare fun b hb => ⟨(f3 b hb).1.2.2.2.1, (f3 b hb).1.2.1, (f3 b hb).1.2.2.2.2.1, (f3 b hb).1.2.2.2.2.2⟩
      have nC : K5 ce.locals = none := I6.free
      obtain ⟨m, hn, _⟩ := I6.loc
      obtain ⟨a0, a1, a2, a3, a4, a5⟩ := I3.fpOk (b := ce.locals) (Nat.le_of_eq cL.symm) nC
      exact ⟨m, hn, fun g sb => ⟨.ref D, K5, I7.turned (t' := z6.toks) (fun b o hb e => (sb.2 b hb).trans e) a0 a1 a3 a4 a5, rfl, done⟩⟩
    · refine thnF (T.item (X.blk s3 K3 scope ce fp) rfl rfl rfl hc i [] z _ K5 (fun _ _ => False) I5 (apart I5 n5) at5 go) fun r z6 ⟨v, hr, next⟩ => ?_
      subst hr
      refine thnF next fun _ z7 ⟨x, K7, I7, r7, y7, at7, n7⟩ => ?_
      have P7 := I7.pinned (apart I7 n7) (T.obj _ _ at7)
      refine thnF (gg.run _ z7 _ K7 x v _ P7 r7 (step x K7 y7)) fun _ z8 ⟨σ8, K8, I8, w8, q8⟩ => ?_
      refine thnF (gt.run _ z8 σ8 K8 _ I8 q8) fun b z9 ⟨K9, I9, q9⟩ => ?_
      have over : ∀ {z' : Shared} {K' : Hp}, Inv (X.blk s3 K3 scope ce fp) ([] ++ pinsAt fp z7.heap) σ8 K' z' → Nx K' → ∃ m, m < n ∧ ∃ i K', Inv (X.blk s3 K3 scope ce fp) [] (wipe σ (own.map (·.2))) K' z' ∧ tn i z'.heap ∧ (∀ b ∈ fp, K' b = none) ∧ V i m K' := fun {z' K'} I' nx => by
        obtain ⟨m', lt, v'⟩ := hNx K' nx
        have pinned : ∀ b ∈ fp, ∀ o, z7.heap.get? b = some o → z'.heap.get? b = some o ∧ K' b = none := fun b hb o e => by
          obtain ⟨p1, p2, _⟩ := I'.pin (b, o) (List.mem_append_right _ (List.mem_append_right _ (mem_pinsAt hb e)))
          exact ⟨p1, p2⟩
        refine ⟨m', lt, i + 1, K', (I'.unpinned (pins := [])).weak (by rw [← w8, wipe_length]) (fun j y e => by rw [← w8] at e; exact (wipe_some e).1), T.keep _ _ _ at7 fun b hb o e => (pinned b hb o e).1, fun b hb => ?_, v'⟩
        obtain ⟨o, e, _⟩ := T.obj _ _ at7 b hb
        exact (pinned b hb o e).2
      cases b with
      | false =>
        simp only [Bool.false_eq_true, if_false] at q9 ⊢
        exact over I9 q9
      | true =>
        simp only [if_true] at q9 ⊢
        refine wpAny_mono (ge.run _ z9 σ8 K9 _ (I9.wish _) q9) (fun y z10 ⟨yv, K10, I10, r10, acc, lies, few, nx⟩ => ?_) fun e t air => ?_
        · exact app_ok (X := X.blk s3 K3 scope ce fp) I10.unwish lies few r10 fun z11 I11 => over I11 nx
        · exact air_out I3 cL cF hs hf tk (fun cls d K => hW cls d σ K) f3 air
  exact codeAny_compStart_list goes (T.self X.A 0 _ _ _ at4 goes)
end
end G

/-! Own errors raised, passed on, caught. -/
namespace G
open PySem L2
/-- what the top says of an own class of errors -/
structure ExcD (K : PySem.W.Frag) (mg : Str → Option Value) (x : Str) (C : Addr) : Prop where
  g : mg x = some (.ref C)
  x : PySem.W.excIn K C [.type "ValueError", .type "Exception", .type "BaseException", .type "object"] "ValueError.__new__" = true
  k : PySem.W.keepIn K (.ref C) = true
  b : PySem.W.subIn K (.ref C) (.type "BaseException") = some true
  t : PySem.W.typeIn K (.ref C) = some (.type "type")
  m : PySem.W.exmOne K (.ref C) (.ref C) = some true
theorem exm_own {K : PySem.W.Frag} {S : Addr} (b : PySem.W.subIn K (.ref S) (.type "BaseException") = some true) (i : PySem.W.isClsIn K S = true) (t : PySem.W.typeIn K (.ref S) = some (.type "type")) (s : PySem.W.subIn K (.ref S) (.ref S) = some true) : PySem.W.exmOne K (.ref S) (.ref S) = some true := by
  have i' : (PySem.W.clsIn K S).isSome = true := i
  have q1 : (PySem.W.subIn K (.ref S) (.type "BaseException") == some true) = true := by rw [b] <;> rfl
  have q2 : ((PySem.W.clsIn K S).isSome && PySem.W.typeIn K (.ref S) == some (.type "type")) = true := by rw [i', t] <;> rfl
  show (if (PySem.W.subIn K (.ref S) (.type "BaseException") == some true) = true then (if ((PySem.W.clsIn K S).isSome && PySem.W.typeIn K (.ref S) == some (.type "type")) = true then PySem.W.subIn K (.ref S) (.ref S) else none) else none) = _
  rw [if_pos q1, if_pos q2, s]
section
variable {X : Cx} {C : CXT} {k : Nat} {a : Addr} {ps : List Str} {sp : Sp} {E : L2.St → XK} {x m : Str} {p pos apos : Pos} {e o : Expr} {es : List Expr} {ta : TE} {t : TA}
/-- a method without arguments, in a try -/
def tMethS (a : Addr) (m : Str) (sp : Sp) (E : L2.St → XK) (ta : TE) : TE := fun σ H Q => ta σ H fun x H1 => mthK a m sp (E σ) tNil σ Q x H1
open PySem PySem.Spec PyProof.Rows in
theorem pe_calMS0 {pl : Sem Bool} (he : PE X o ta) (cl : Cls X.K a) (c : CalM X.prog X.w X.K X.mg X.base C k a m ps sp) (hr : Room k X.A) (hx : ∀ σ, PassesAt C X σ (E σ))
    (ht : eval (.Call (.Attribute o m apos) [] [] pos) X.env = (do
      let ov ← eval o X.env
      standAt apos.atName
      let (f, first) ← holding [ov] (getMethod ov m pl)
      callWith pos f first (backTo pos (starEach [] X.env)) (backToKw pos (keywordEach [] X.env))) := by rfl) :
    PE X (.Call (.Attribute o m apos) [] [] pos) (tMethS a m sp E ta) := by
  obtain ⟨f, fd, hm, hb, F⟩ := c.ex
  refine ⟨fun pp s σ H Q I h => ?_⟩
  refine PySem.W.methodCall_KW (pl := pl) (thn (he.run pp s σ H _ I h) fun u s1 ⟨y, H1, I1, ry, b, dx, fs, ey, eb, l, q⟩ => ?_) ht
  subst ey
  obtain rfl : u = Value.ref b := ry
  refine getmeth_ok I1 eb cl hm l ?_
  exact PySem.W.callWith_K0 (first := [.ref b]) I1.kIn hm.kp (run_fnS (us := [.ref b]) (vs := [.ref b]) F hr hb (hx σ) I1 (.cons rfl .nil) q)
theorem pe_calS (c : Cal X.prog X.w X.K X.mg X.base C k x ps sp) (hr : Room k X.A) (hg : Gl X x) (hx : ∀ σ, PassesAt C X σ (E σ))
    (ha : PA X (e :: es) t) (hdb : (x == ("__debug__" : Str)) = false := by decide) (he : starEach (e :: es) X.env = (false, eval e X.env) :: starEach es X.env := by rfl) (hpl : (backTo pos (starEach es X.env)).any (·.1) = false := by rfl) :
    PE X (.Call (.Name x p) (e :: es) [] pos) (tCallS sp E t) := by
  obtain ⟨f, fd, h1, h2, h3, h4⟩ := c.ex
  exact pe_callS h4 hr hg h1 h2 h3 hx ha hdb he hpl
/-- try .. except X: .. -/
def tTry (K : PySem.W.Frag) (c : Value) (tb : WX → TS) (ts : Addr → Value → Option Addr → TS) : TS := fun D σ H => tb (wOnly K c ts (fun _ _ _ _ => False) D) D σ H
theorem takesN {X : Cx} : Takes X (fun _ _ _ _ => False) := fun u s' x => by
  obtain ⟨_, _, _, _, _, _, _, _, _, _, _, _, _, _, _, _, z⟩ := x
  exact z.elim
open PySem PySem.Spec PyProof.Rows in
theorem ps_tryO {K : PySem.W.Frag} (hK : X.K = K) {c : Value} {body suite : List Stmt} {b₀ : Stmt} {np pos' : Pos} {tb : WX → TS} {ts : Addr → Value → Option Addr → TS} (hs : X.stack = X.env :: X.outer) (hf : X.env.frame = some X.env.locals) (hc : Names X x c)
    (hb : ∀ (W : WX) (pn : List (Addr × Obj)) (xe : Value → Shared → Prop), Takes (X.tr pn xe) W → PassesOwn (model X.prog X.w) X.A X.env xe → PSs (X.tr pn xe) body (tb W))
    (hsu : ∀ (a : Addr) (oe : Obj) (cls : Value) (d : Option Addr) (pn : List (Addr × Obj)), Zc cls d oe → (∃ vs, oe.data = .fields vs) → PSs (X.suite a ((a, oe) :: pn)) (b₀ :: suite) (ts a cls d)) :
    PS X (.Try body [.ExceptHandler (some (.Name x np)) none (b₀ :: suite) pos'] [] [] pos) (tTry K c tb ts) := by
  subst hK; exact ps_try_only hs hf hc takesN hb hsu
end
section
variable {K : PySem.W.Frag} {σ : L2.St} {H : Hp} {Q : VK} {sp : Sp} {E : L2.St → XK} {ta : TE} {t : TA} {a : Addr} {m : Str} {D : Ends} {c : Value}
theorem s_callS (h : t σ H fun vs H1 => sp vs H1 Q (E σ)) : tCallS sp E t σ H Q := h
theorem s_mthS (h : ta σ H fun x H1 => mthK a m sp (E σ) tNil σ Q x H1) : tMethS a m sp E ta σ H Q := h
theorem s_try {tb : WX → TS} {ts : Addr → Value → Option Addr → TS} (h : tb (wOnly K c ts (fun _ _ _ _ => False) D) D σ H) : tTry K c tb ts D σ H := h
theorem w_only {ts : Addr → Value → Option Addr → TS} {W : WX} {d : Option Addr} (m : PySem.W.exmOne K c c = some true) (h : ∀ b, ts b c d D σ H) : WE (wOnly K c ts W D) σ c d H := ⟨true, m, fun _ b _ => h b, fun q => nomatch q⟩
end
end G

/-! What is read, or refused. -/
namespace G
open PySem L2
section
variable {R j : Nat} {m : Mdl} {ss bs t : List Nat}
/-- a sign that all numbers tell is read whatever comes behind -/
theorem read_all (mok : MOk 3 m) (r4 : 4 ≤ R) (r20 : R ≤ 20) (hm : 8 * mst m ≤ 2 ^ R) (hss : ∀ s ∈ ss, (s : Int) < nsg m) (ht : ∀ b ∈ t, b < 2) (ha : AllR R (rnds R (rnd0 R m) ss) (valB bs) bs.length) :
    rdGood R m (valB (bs ++ t)) (bs ++ t).length ss.length ∧ rdL R m (valB (bs ++ t)) (bs ++ t).length ss.length = ss := by
  have hi := (allr_app ht ha).inr
  exact ⟨rdl_good mok r4 r20 hm hss hi (Nat.le_refl _), by rw [rdl_row mok r4 r20 hm hss hi _ (Nat.le_refl _), List.take_length]⟩
theorem read_no (mok : MOk 3 m) (r4 : 4 ≤ R) (r20 : R ≤ 20) (hm : 8 * mst m ≤ 2 ^ R) (hss : ∀ s ∈ ss, (s : Int) < nsg m) (ht : ∀ b ∈ t, b < 2) (ha : AllR R (rnds R (rnd0 R m) ss) (valB bs) bs.length) (ho : OutR R (rnds R (rnd0 R m) ss) (valB bs) bs.length) :
    ¬ rdGood R m (valB (bs ++ t)) (bs ++ t).length (ss.length + 1) := fun hg => by
  obtain ⟨_, e⟩ := read_all mok r4 r20 hm hss ht ha
  have h1 := hg ss.length (Nat.lt_succ_self _)
  rw [e] at h1
  exact outr_pre ht h1 ho
theorem read_one (mok : MOk 3 m) (r4 : 4 ≤ R) (r20 : R ≤ 20) (hm : 8 * mst m ≤ 2 ^ R) (hss : ∀ s ∈ ss, (s : Int) < nsg m) (ht : ∀ b ∈ t, b < 2) (ha : AllR R (rnds R (rnd0 R m) ss) (valB bs) bs.length)
    (hn : ¬ OutR R (rnds R (rnd0 R m) ss) (valB (bs ++ t)) (bs ++ t).length) :
    rdGood R m (valB (bs ++ t)) (bs ++ t).length (ss.length + 1) ∧ rdL R m (valB (bs ++ t)) (bs ++ t).length (ss.length + 1) = ss ++ [rsgn R (rnds R (rnd0 R m) ss) (valB (bs ++ t)) (bs ++ t).length] := by
  obtain ⟨g, e⟩ := read_all mok r4 r20 hm hss ht ha
  refine ⟨fun i hi => ?_, by show rdL R m _ _ ss.length ++ [_] = _; rw [e]⟩
  rcases Nat.lt_or_ge i ss.length with q | q
  · exact g i q
  · rw [show i = ss.length by omega, e]; exact hn
end
theorem le_pow_dvd {a b : Int} {n : Nat} (h : 0 < a * 2 ^ n - b * 2 ^ n) : 2 ^ n ≤ a * 2 ^ n - b * 2 ^ n := by
  have hp := ipow_pos n
  rw [← Int.sub_mul] at h ⊢
  have : 0 < a - b := Int.pos_of_mul_pos_left h (by omega) |> fun x => x
  have := Int.mul_le_mul_of_nonneg_right (show (1 : Int) ≤ a - b by omega) (show (0 : Int) ≤ 2 ^ n by omega)
  omega
/-- ones behind lead out of the stretch -/
theorem ones_out {N L : Nat} {v U : Int} (hN : N ≤ L + 60) (h1 : U * 2 ^ L < (v + 1) * 2 ^ N) : U * 2 ^ (L + 60) ≤ (v * 2 ^ 60 + (2 ^ 60 - 1)) * 2 ^ N := by
  have hpN := ipow_pos N
  have hpL := ipow_pos L
  rw [Int.pow_add, ← Int.mul_assoc]
  have e : (v * 2 ^ 60 + (2 ^ 60 - 1)) * 2 ^ N = (v + 1) * 2 ^ N * 2 ^ 60 - 2 ^ N := by
    rw [show v * 2 ^ 60 + (2 ^ 60 - 1) = (v + 1) * 2 ^ 60 - 1 by rw [Int.add_mul]; omega, Int.sub_mul, Int.one_mul]
    simp only [Int.mul_assoc, Int.mul_comm, Int.mul_left_comm]
  rw [e]
  rcases Nat.le_total N L with q | q
  · obtain ⟨d, rfl⟩ := Nat.exists_eq_add_of_le q
    have e2 : U * 2 ^ (N + d) = U * 2 ^ d * 2 ^ N := by rw [Int.pow_add]; simp only [Int.mul_assoc, Int.mul_comm, Int.mul_left_comm]
    rw [e2] at h1 ⊢
    have := le_pow_dvd (a := v + 1) (b := U * 2 ^ d) (n := N) (by omega)
    omega
  · obtain ⟨d, rfl⟩ := Nat.exists_eq_add_of_le q
    have e2 : (v + 1) * 2 ^ (L + d) = (v + 1) * 2 ^ d * 2 ^ L := by rw [Int.pow_add]; simp only [Int.mul_assoc, Int.mul_comm, Int.mul_left_comm]
    rw [e2] at h1 ⊢
    have h2 := le_pow_dvd (a := (v + 1) * 2 ^ d) (b := U) (n := L) (by omega)
    have h3 : (2 : Int) ^ (L + d) ≤ 2 ^ (L + 60) := ipow_le hN
    rw [Int.pow_add 2 L 60] at h3
    have h4 : (2 : Int) ^ L * 2 ^ 60 ≤ ((v + 1) * 2 ^ d * 2 ^ L - U * 2 ^ L) * 2 ^ 60 := Int.mul_le_mul_of_nonneg_right h2 (by decide)
    rw [Int.sub_mul] at h4
    omega
theorem val_ones : ∀ n : Nat, valB (List.replicate n 1) = 2 ^ n - 1
  | 0 => by simp [valB]
  | n + 1 => by
    rw [List.replicate_succ', valB_snoc, val_ones n, Int.pow_succ]; omega
/-- where a sign isn't sure, noughts and ones tell two -/
theorem read_two {R k : Nat} {y : Rnd} {sg mo : Int} {bs : List Nat} (nk : RndOk R k y sg mo) (ha : AllR R y (valB bs) bs.length) (hn : ¬ OutR R y (valB bs) bs.length)
    (hna : ¬ AllR R (rnd R y (rsgn R y (valB bs) bs.length)) (valB bs) bs.length)
    (hi : InR R (rnd R y (rsgn R y (valB bs) bs.length)) (valB (bs ++ List.replicate 60 1)) (bs ++ List.replicate 60 1).length) : False := by
  have i1 := inr_step nk ha.1 hn
  generalize rsgn R y (valB bs) bs.length = s at *
  have hL : y.mn ≤ bs.length := by
    rcases Nat.lt_or_ge bs.length y.mn with q | q
    · exfalso
      obtain ⟨a1, a2⟩ := ha
      rw [Int.add_mul, Int.one_mul, Int.add_mul] at a2
      have a3 : (2 : Int) ^ (R + y.mn) ≤ y.wd * 2 ^ bs.length := by omega
      have a4 : y.wd * 2 ^ bs.length ≤ 2 ^ R * 2 ^ bs.length := Int.mul_le_mul_of_nonneg_right nk.wd1 (by have := ipow_pos bs.length; omega)
      rw [← Int.pow_add] at a4
      have a5 : (2 : Int) ^ (R + bs.length + 1) ≤ 2 ^ (R + y.mn) := ipow_le (by omega)
      rw [Int.pow_succ] at a5
      have := ipow_pos (R + bs.length)
      omega
    · exact q
  have hmn : (rnd R y s).mn ≤ y.mn + 20 := by
    show y.mn + rsh R y s ≤ _
    have : rsh R y s ≤ 20 := shN_fuel 20 _ _
    omega
  have r20 := nk.r20
  have out := ones_out (N := R + (rnd R y s).mn) (L := bs.length) (v := valB bs) (U := (rnd R y s).lo + (rnd R y s).wd) (by omega) (by
    rcases Int.lt_or_le ((rnd R y s).lo * 2 ^ bs.length + (rnd R y s).wd * 2 ^ bs.length) ((valB bs + 1) * 2 ^ (R + (rnd R y s).mn)) with q | q
    · rw [Int.add_mul]; exact q
    · exact absurd ⟨i1.1, by rw [Int.add_mul ((rnd R y s).lo)]; exact q⟩ hna)
  have i2 := hi.2
  rw [valB_app, val_ones, List.length_append, List.length_replicate] at i2
  omega
section
variable (K : PySem.W.Frag) (Sh Pl Le Ah Bl Rd Bc : Addr)
def spRTakeX : Sp := fun vs H Q E => ∃ p R y k sg mo bs over L, vs = [.ref p] ∧ RdOk R k y sg mo bs over ∧ k < 60 ∧ HS H (rdS K Sh Pl Le Ah Bl Rd p R y k bs over :: L) ∧
  (¬ OutR R y (valB bs) bs.length → (over = true ∨ AllR R (rnd R y (rsgn R y (valB bs) bs.length)) (valB bs) bs.length) → ∀ H', HS H' (rdS K Sh Pl Le Ah Bl Rd p R (rnd R y (rsgn R y (valB bs) bs.length)) (k + 1) bs over :: L) → Q (.int (rsgn R y (valB bs) bs.length : Nat)) H') ∧
  (¬ OutR R y (valB bs) bs.length → ¬ (over = true ∨ AllR R (rnd R y (rsgn R y (valB bs) bs.length)) (valB bs) bs.length) → ∀ H', HS H' (rdS K Sh Pl Le Ah Bl Rd p R y k bs over :: L) → Q .non H') ∧
  (OutR R y (valB bs) bs.length → ∀ H', HS H' (rdS K Sh Pl Le Ah Bl Rd p R y k bs over :: L) → E (.ref Bc) none H')
def spReadX : Sp := fun vs H Q E => ∃ x m R bs j L, vs = [x, .int (R : Nat), .str (dgs bs), .int (j : Nat)] ∧ HS H L ∧ MdR K L x m ∧ MOk 3 m ∧ 4 ≤ R ∧ R ≤ 20 ∧ 8 * mst m ≤ 2 ^ R ∧ (∀ b ∈ bs, b < 2) ∧ bs.length ≤ 900 ∧ j ≤ 60 ∧
  (rdGood R m (valB bs) bs.length j → ∀ f H', HS H' (pt f (.lst (iv ((rdL R m (valB bs) bs.length j).map Int.ofNat))) :: L) → Q (.ref f) H') ∧ (¬ rdGood R m (valB bs) bs.length j → ∀ H', HS H' L → E (.ref Bc) none H')
/-- read, None where that is refused -/
def spReadSo : Sp := fun vs H Q _ => ∃ x m R bs j L, vs = [x, .int (R : Nat), .str (dgs bs), .int (j : Nat)] ∧ HS H L ∧ MdR K L x m ∧ MOk 3 m ∧ 4 ≤ R ∧ R ≤ 20 ∧ 8 * mst m ≤ 2 ^ R ∧ (∀ b ∈ bs, b < 2) ∧ bs.length ≤ 900 ∧ j ≤ 60 ∧
  (rdGood R m (valB bs) bs.length j → ∀ f H', HS H' (pt f (.lst (iv ((rdL R m (valB bs) bs.length j).map Int.ofNat))) :: L) → Q (.ref f) H') ∧ (¬ rdGood R m (valB bs) bs.length j → ∀ H', HS H' L → Q .non H')
def spTakes : Sp := fun vs H Q _ => ∃ p R y k sg mo bs L, vs = [.ref p] ∧ RdOk R k y sg mo bs false ∧ k < 60 ∧ HS H (rdS K Sh Pl Le Ah Bl Rd p R y k bs false :: L) ∧
  (¬ OutR R y (valB bs) bs.length → AllR R (rnd R y (rsgn R y (valB bs) bs.length)) (valB bs) bs.length → ∀ H', HS H' (rdS K Sh Pl Le Ah Bl Rd p R (rnd R y (rsgn R y (valB bs) bs.length)) (k + 1) bs false :: L) → Q (.int (rsgn R y (valB bs) bs.length : Nat)) H') ∧
  (¬ OutR R y (valB bs) bs.length → ¬ AllR R (rnd R y (rsgn R y (valB bs) bs.length)) (valB bs) bs.length → ∀ H', HS H' (rdS K Sh Pl Le Ah Bl Rd p R y k bs false :: L) → Q .non H') ∧
  (OutR R y (valB bs) bs.length → ∀ H', HS H' (rdS K Sh Pl Le Ah Bl Rd p R y k bs false :: L) → Q (.str (Str.ofString "code")) H')
end
section
variable {K : PySem.W.Frag} {Sh Pl Le Ah Bl Rd Bc p q r : Addr} {H : Hp} {Q : VK} {E : XK} {L F : List SA} {x : V} {y : Rnd} {m : Mdl} {sg mo i i2 : Int} {k : Nat} {over : Bool}
theorem c_rTakeX {R : Nat} {bs : List Nat} [hs : HS H L] [o : Own L p (rdS K Sh Pl Le Ah Bl Rd p R y k bs over) F] (ok : RdOk R k y sg mo bs over) (hk : k < 60)
    (h1 : ¬ OutR R y (valB bs) bs.length → (over = true ∨ AllR R (rnd R y (rsgn R y (valB bs) bs.length)) (valB bs) bs.length) → ∀ H', HS H' (rdS K Sh Pl Le Ah Bl Rd p R (rnd R y (rsgn R y (valB bs) bs.length)) (k + 1) bs over :: F) → Q (.int (rsgn R y (valB bs) bs.length : Nat)) H')
    (h2 : ¬ OutR R y (valB bs) bs.length → ¬ (over = true ∨ AllR R (rnd R y (rsgn R y (valB bs) bs.length)) (valB bs) bs.length) → ∀ H', HS H' (rdS K Sh Pl Le Ah Bl Rd p R y k bs over :: F) → Q .non H')
    (h3 : OutR R y (valB bs) bs.length → ∀ H', HS H' (rdS K Sh Pl Le Ah Bl Rd p R y k bs over :: F) → E (.ref Bc) none H') : spRTakeX K Sh Pl Le Ah Bl Rd Bc [.ref p] H Q E := ⟨p, R, y, k, sg, mo, bs, over, F, rfl, ok, hk, hs.pk o.pk, h1, h2, h3⟩
theorem c_readX (R : Nat) (bs : List Nat) (j : Nat) (e : i = (R : Nat)) (e2 : i2 = (j : Nat)) [hs : HS H L] [rm : MdR K L x m] (ok : MOk 3 m) (r4 : 4 ≤ R) (r20 : R ≤ 20) (hm : 8 * mst m ≤ 2 ^ R) (hb : ∀ b ∈ bs, b < 2) (hl : bs.length ≤ 900) (hj : j ≤ 60)
    (h1 : rdGood R m (valB bs) bs.length j → ∀ f H', HS H' (pt f (.lst (iv ((rdL R m (valB bs) bs.length j).map Int.ofNat))) :: L) → Q (.ref f) H') (h2 : ¬ rdGood R m (valB bs) bs.length j → ∀ H', HS H' L → E (.ref Bc) none H') : spReadX K Bc [x, .int i, .str (dgs bs), .int i2] H Q E := ⟨x, m, R, bs, j, L, by rw [e, e2], hs, rm, ok, r4, r20, hm, hb, hl, hj, h1, h2⟩
theorem c_readSo (R : Nat) (bs : List Nat) (j : Nat) (e : i = (R : Nat)) (e2 : i2 = (j : Nat)) [hs : HS H L] [rm : MdR K L x m] (ok : MOk 3 m) (r4 : 4 ≤ R) (r20 : R ≤ 20) (hm : 8 * mst m ≤ 2 ^ R) (hb : ∀ b ∈ bs, b < 2) (hl : bs.length ≤ 900) (hj : j ≤ 60)
    (h1 : rdGood R m (valB bs) bs.length j → ∀ f H', HS H' (pt f (.lst (iv ((rdL R m (valB bs) bs.length j).map Int.ofNat))) :: L) → Q (.ref f) H') (h2 : ¬ rdGood R m (valB bs) bs.length j → ∀ H', HS H' L → Q .non H') : spReadSo K [x, .int i, .str (dgs bs), .int i2] H Q E := ⟨x, m, R, bs, j, L, by rw [e, e2], hs, rm, ok, r4, r20, hm, hb, hl, hj, h1, h2⟩
theorem c_takes {R : Nat} {bs : List Nat} [hs : HS H L] [o : Own L p (rdS K Sh Pl Le Ah Bl Rd p R y k bs false) F] (ok : RdOk R k y sg mo bs false) (hk : k < 60)
    (h1 : ¬ OutR R y (valB bs) bs.length → AllR R (rnd R y (rsgn R y (valB bs) bs.length)) (valB bs) bs.length → ∀ H', HS H' (rdS K Sh Pl Le Ah Bl Rd p R (rnd R y (rsgn R y (valB bs) bs.length)) (k + 1) bs false :: F) → Q (.int (rsgn R y (valB bs) bs.length : Nat)) H')
    (h2 : ¬ OutR R y (valB bs) bs.length → ¬ AllR R (rnd R y (rsgn R y (valB bs) bs.length)) (valB bs) bs.length → ∀ H', HS H' (rdS K Sh Pl Le Ah Bl Rd p R y k bs false :: F) → Q .non H')
    (h3 : OutR R y (valB bs) bs.length → ∀ H', HS H' (rdS K Sh Pl Le Ah Bl Rd p R y k bs false :: F) → Q (.str (Str.ofString "code")) H') : spTakes K Sh Pl Le Ah Bl Rd [.ref p] H Q E := ⟨p, R, y, k, sg, mo, bs, F, rfl, ok, hk, hs.pk o.pk, h1, h2, h3⟩
end
end G

/-! A lambda handed to a def that tells which error it ends in. -/
namespace G
open PySem L2
/-! ### tables of code objects as an assertion -/
/-- neither a table nor a code object -/
def Fin0 : HO → Prop
  | .tbl _ => False
  | .ext _ => False
  | _ => True
/-- it owns neither -/
class NT (A : SA) : Prop where
  nt : ∀ {H own : Hp}, A.p H own → ∀ a o, own a = some o → Fin0 o
class NTs (L : List SA) : Prop where
  nts : ∀ A ∈ L, NT A
instance : NTs [] := ⟨fun A h => by cases h⟩
instance {A : SA} {L : List SA} [n : NT A] [m : NTs L] : NTs (A :: L) := ⟨fun B h => by
  rcases List.mem_cons.mp h with rfl | h
  · exact n
  · exact m.nts B h⟩
class FinO (o : HO) : Prop where
  f : Fin0 o
instance {xs : List V} : FinO (.lst xs) := ⟨trivial⟩
instance {xs : List (L2.Key × V)} : FinO (.dK xs) := ⟨trivial⟩
instance {xs : List (List L2.Key × V)} : FinO (.dT xs) := ⟨trivial⟩
instance {xs : List (Str × V)} : FinO (.xd xs) := ⟨trivial⟩
instance {a : Addr} {o : HO} [f : FinO o] : NT (pt a o) := ⟨fun {H own} h b u e => by
  have h : own = sg a o := h
  subst h
  obtain ⟨_, rfl⟩ := sg_inv e
  exact f.f⟩
instance {a C : Addr} {fs : List (Str × V)} : NT (ob a C fs) := ⟨fun {H own} h b u e => by
  obtain ⟨dx, _, rfl⟩ := h
  rcases obf_inv e with ⟨_, rfl⟩ | ⟨_, rfl⟩ <;> trivial⟩
theorem NT.pf {f : Hp → Prop} {m : Stays f} : NT (G.pf f m) := ⟨fun {H own} h b u e => by
  obtain ⟨rfl, _⟩ := h
  cases e⟩
instance {A B : SA} [n : NT A] [m : NT B] : NT (G.st A B) := ⟨fun {H own} h b u e => by
  obtain ⟨x, y, rfl, _, p, q⟩ := h
  unfold uni at e
  cases z : x b with
  | none => rw [z] at e; exact m.nt q b u e
  | some o => rw [z] at e; cases e; exact n.nt p b _ z⟩
instance {α : Type} {f : α → SA} [n : ∀ x, NT (f x)] : NT (exA f) := ⟨fun {H own} h b u e => by
  obtain ⟨x, p⟩ := h
  exact (n x).nt p b u e⟩
instance {f : Prop} : NT (pu f) := NT.pf
instance {a : Addr} {xs : List V} : NT (tp a xs) := NT.pf
instance {K : PySem.W.Frag} {a : Addr} {xs : List V} : NT (fz K a xs) := ⟨fun {H own} h b u e => by
  rcases h with ⟨rfl, _⟩ | h
  · cases e
  · have h : own = sg a (.lst xs) := h
    subst h
    obtain ⟨_, rfl⟩ := sg_inv e
    trivial⟩
instance {K : PySem.W.Frag} {a : Addr} {xs : List V} : NT (tq K a xs) := NT.pf
instance {K : PySem.W.Frag} {m : Mdl} {x : V} : NT (md K m x) := NT.pf
instance {K : PySem.W.Frag} {p : Addr} : NT (rowA K p) := by unfold rowA; infer_instance
instance {C p : Addr} {cs : List Int} : NT (shR C p cs) := by unfold shR; infer_instance
theorem NT.all {α : Type} {f : α → SA} (n : ∀ x, NT (f x)) : ∀ xs : List α, NT (allS f xs)
  | [] => inferInstanceAs (NT (pu True))
  | a :: r => by
    haveI := n a
    haveI := NT.all n r
    exact inferInstanceAs (NT (G.st (f a) (allS f r)))
instance {α : Type} {f : α → SA} [n : ∀ x, NT (f x)] {xs : List α} : NT (allS f xs) := NT.all n xs
/-- the tables of T, with the code objects that they tell -/
def tabA (T : List (Addr × Str)) : SA := ⟨fun _ own => LamX.Tabs T own, fun _ h => h⟩
theorem HSx.tabs {H H1 : Hp} (K : Keep H H1) (e : ∀ a o, Fin0 o → H a = some o → H1 a = some o) : ∀ {L : List SA} {T : Addr → Prop}, (∀ A ∈ L, NT A) → HSx H T L → HSx H1 (fun a => T a ∨ ∃ o, H1 a = some o ∧ ¬ Fin0 o) L
  | [], _, _, _ => trivial
  | A :: L, T, n, ⟨own, s, b, d, p, r⟩ => by
    have nA := (n A List.mem_cons_self).nt p
    refine ⟨own, fun a o h => e a o (nA a o h) (s a o h), b, fun a t => ?_, A.mono K p, HSx.weak ?_ (HSx.tabs K e (fun B hB => n B (List.mem_cons_of_mem _ hB)) r)⟩
    · rcases t with t | ⟨o, h1, h2⟩
      · exact d a t
      · cases z : own a with
        | none => rfl
        | some u =>
          have := e a u (nA a u z) (s a u z)
          rw [h1] at this
          cases this
          exact absurd (nA a o z) h2
    · rintro a ((t | t) | t)
      · exact .inl (.inl t)
      · exact .inr t
      · exact .inl (.inr t)
open Classical in
theorem HS.tabs {H H1 : Hp} {L : List SA} {T : List (Addr × Str)} (h : HS H (tabA T :: L)) (n : ∀ A ∈ L, NT A) (e : LamX.ExtN H H1) (t : LamX.Tabs T H1) : HS H1 (tabA T :: L) := by
  obtain ⟨own, s, b, d, p, r⟩ := h.x
  have K : Keep H H1 := fun a o c h => e a o h fun ps z => by rw [z] at c; exact c
  have e2 : ∀ a o, Fin0 o → H a = some o → H1 a = some o := fun a o f h => e a o h fun ps z => by rw [z] at f; exact f
  have cut : ∀ a o, (if ∃ o, H1 a = some o ∧ ¬ Fin0 o then H1 a else none) = some o → H1 a = some o ∧ ¬ Fin0 o := fun a o q => by
    split at q
    · rename_i w
      obtain ⟨o', w1, w2⟩ := w
      rw [w1] at q
      cases q
      exact ⟨w1, w2⟩
    · cases q
  have put : ∀ a o, H1 a = some o → ¬ Fin0 o → (if ∃ o, H1 a = some o ∧ ¬ Fin0 o then H1 a else none) = some o := fun a o q f => by rw [if_pos ⟨o, q, f⟩]; exact q
  refine ⟨fun a => if ∃ o, H1 a = some o ∧ ¬ Fin0 o then H1 a else none, fun a o q => (cut a o q).1, fun a o q c => ?_, fun a z => z.elim, fun p hp => ?_, ?_⟩
  · have := (cut a o q).2
    cases o <;> first | exact this trivial | exact c
  · obtain ⟨ps, t1, t2, t3⟩ := t p hp
    refine ⟨ps, put _ _ t1 id, t2, fun pos cv hc => ?_⟩
    obtain ⟨c, c1, c2⟩ := t3 pos cv hc
    exact ⟨c, c1, put _ _ c2 (by unfold LamX.CodeO; exact id)⟩
  · refine HSx.weak (fun a z => ?_) (HSx.tabs K e2 (T := fun _ => False) n (HSx.weak (fun a z => z.elim) r))
    rcases z with z | z
    · exact z.elim
    · by_cases w : ∃ o, H1 a = some o ∧ ¬ Fin0 o
      · exact .inr w
      · exact absurd (if_neg w) z
open Classical in
theorem law_tab {K : PySem.W.Frag} {H : Hp} {a : Addr} {T : List (Addr × Str)} {xs : List V} (h : SqL K H a xs) (e : ∀ p ∈ T, H p.1 = some (.tbl #[])) : HS H [tabA T, fz K a xs] := by
  have at1 : ∀ b u, (if b ∈ T.map (·.1) then some (HO.tbl #[]) else none) = some u → u = .tbl #[] ∧ H b = some (.tbl #[]) := fun b u z => by
    split at z
    · rename_i m
      obtain ⟨p, hp, rfl⟩ := List.mem_map.mp m
      cases z
      exact ⟨rfl, e p hp⟩
    · cases z
  have tail : ∀ own, (∀ b u, own b = some u → H b = some u ∧ Fin0 u ∧ ¬ Cst u) → (fz K a xs).p H own → HS H [tabA T, fz K a xs] := fun own w f => by
    refine ⟨fun b => if b ∈ T.map (·.1) then some (HO.tbl #[]) else none, fun b u z => ?_, fun b u z => ?_, fun _ t => t.elim, fun p hp => ?_, own, fun b u z => (w b u z).1, fun b u z => (w b u z).2.2, fun b t => ?_, f, trivial⟩
    · obtain ⟨rfl, q⟩ := at1 b u z; exact q
    · obtain ⟨rfl, q⟩ := at1 b u z; exact id
    · exact LamX.TabS.nil (if_pos (List.mem_map.mpr ⟨p, hp, rfl⟩))
    · rcases t with t | t
      · exact t.elim
      · cases y : own b with
        | none => rfl
        | some v =>
          obtain ⟨w1, w2, _⟩ := w b v y
          cases z : (if b ∈ T.map (·.1) then some (HO.tbl #[]) else none) with
          | none => exact absurd z t
          | some u =>
            obtain ⟨_, q⟩ := at1 b u z
            rw [q] at w1; cases w1
            exact w2.elim
  rcases h with (h | ⟨q, h⟩) | h
  · refine tail (sg a (.lst xs)) (fun b u z => ?_) (.inr rfl)
    obtain ⟨rfl, rfl⟩ := sg_inv z
    exact ⟨h, trivial, id⟩
  · exact tail no (fun b u z => by cases z) (.inl ⟨rfl, .inl ⟨q, h⟩⟩)
  · exact tail no (fun b u z => by cases z) (.inl ⟨rfl, .inr h⟩)
/-- a law that makes lambdas: the tables of its defs are empty at the beginning -/
def spLawT (K : PySem.W.Frag) (Ps : List Addr) : Sp := fun vs H Q _ => ∃ (a : Addr) (ns : List Int), vs = [.ref a] ∧ SqL K H a (ns.map V.int) ∧ (∀ P ∈ Ps, H P = some (.tbl #[])) ∧ ∀ H', Q (.bl true) H'
/-! ### the law's own code object; the telling def -/
structure FunC (K : PySem.W.Frag) (x qual : Str) (st : Stmt) (f : Addr) (fd : FuncData) (c : Addr) : Prop where
  ex : ∃ (oc : Value) (od : Option Addr) (kV doc pm : Value) (an : Option Addr) (ct : Value) (osl : Array (Option Value)),
    fd = PySem.W.fnOf x qual (defArgs st) (defBody st) (defScope st) .none kV doc pm an (.ref c) ct ∧ K.lookup f = some ⟨oc, od, .func fd, osl⟩ ∧ PySem.W.codeIn K (.ref c) qual = true
  kp : PySem.W.keepIn K (.ref f) = true
theorem FunC.ok {P : Program} {w : World} {K : PySem.W.Frag} {mg : Str → Option Value} {base : Heap} {x qual : Str} {st : Stmt} {f c : Addr} {fd : FuncData} {N ps : List Str} {k : Nat} {sp : Sp} (F : FunC K x qual st f fd c) (S : FnScope N ps (defScope st)) (len : ∀ vs H Q E, sp vs H Q E → vs.length = ps.length)
    (hb : ∀ (A : Around) (outer : List Env) (s : Shared) (H : Hp) (vs : List V) (Q : VK) (E : XK), Room k (A.deeper (PyProof.Rows.envOfC qual (defScope st) s.heap.objs.size f (.ref c))) → sp vs H Q E →
      ∃ t, PSs (cxOf CX0 P w K mg base N qual (defScope st) f (.ref c) A outer s H E).nox (defBody st) t ∧ t { nx := fun _ H' => Q .non H', rt := Q } (L2.start N vs) H) : FnOk P w K mg base CX0 (k + 1) f fd ps sp := by
  obtain ⟨oc, od, kV, doc, pm, an, ct, osl, rfl, lk, hcd⟩ := F.ex
  refine fn_of lk hcd S len fun A outer s H vs Q E hr hsp => ?_
  obtain ⟨t, h, q⟩ := hb A outer s H vs Q E hr hsp
  exact ⟨t, h.nox, q⟩
/-- the context of a def that lets nothing out -/
abbrev cxN (P : Program) (w : World) (K : PySem.W.Frag) (mg : Str → Option Value) (base : Heap) (N : List Str) (q : Str) (sc : Scope) (f : Addr) (cd : Value) (A : Around) (outer : List Env) (s : Shared) (H : Hp) (E : XK) : Cx := (cxOf CX0 P w K mg base N q sc f cd A outer s H E).nox
structure WordQ (P : Program) (w : World) (K : PySem.W.Frag) (mg : Str → Option Value) (base : Heap) (st : Stmt) (Ng : List Str) (TT : (XK → Hp → VK → Prop) → Hp → VK → Prop) : Prop where
  ex : ∃ g fd, Fun K "_law_word" "_law_word" st g fd ∧ mg "_law_word" = some (.ref g) ∧ Binds K fd ["_law_work"] []
  sc : FnScope Ng ["_law_work"] (defScope st)
  nm : Ng[0]? = some ("_law_work" : Str)
  vs : Vis (defScope st) "_law_work"
  gv : ∀ {N0 : List Str} {q0 : Str} {sc0 : Scope} {f0 : Addr} {cd0 : Value} {A0 : Around} {out0 : List Env} {s0 : Shared} {H0 : Hp} {E00 : XK} {g : Addr} {cdg : Value} {q : Str}, Room 2 (cxN P w K mg base N0 q0 sc0 f0 cd0 A0 out0 s0 H0 E00).A → LamX.GivesTo (cxN P w K mg base N0 q0 sc0 f0 cd0 A0 out0 s0 H0 E00) Ng "_law_word" (defScope st) g cdg (defBody st) "_law_work" q TT
def lamQ (q : Str) : Str := q ++ ".<locals>." ++ "<lambda>"
theorem WordQ.pe {P : Program} {w : World} {K : PySem.W.Frag} {mg : Str → Option Value} {base : Heap} {st : Stmt} {Ng : List Str} {TT : (XK → Hp → VK → Prop) → Hp → VK → Prop} {N0 : List Str} {q0 : Str} {sc0 : Scope} {f0 C Pt : Addr} {A0 : Around} {out0 : List Env} {s0 : Shared} {H0 : Hp} {E00 : XK}
    {k : Nat} {params : Arguments} {body : Expr} {scope : Scope} {t : XK → TE} {p lpos pos : Pos} (W : WordQ P w K mg base st Ng TT) (hr : Room (k + 2) (cxN P w K mg base N0 q0 sc0 f0 (.ref C) A0 out0 s0 H0 E00).A) (TB : LamX.TabB base mg C Pt) (hg : Gl (cxN P w K mg base N0 q0 sc0 f0 (.ref C) A0 out0 s0 H0 E00) "_law_word")
    (L : LamX.LamS sc0 scope) (hdef : defaultsOf params (cxN P w K mg base N0 q0 sc0 f0 (.ref C) A0 out0 s0 H0 E00).env = ([], []))
    (hbind : ∀ (q : Str) (cl : List (Str × Addr)) (pm cv ctv : Value), bindArgs (PySem.W.kla_fn "<lambda>" q params body scope cl pm cv ctv) ⟨[], []⟩ = pure [])
    (hbody : ∀ (A : Around) (outer : List Env) (s : Shared) (H : Hp) (E : XK) (f c' : Addr), Room k (A.deeper (LamX.lamEnv (cxN P w K mg base N0 q0 sc0 f0 (.ref C) A0 out0 s0 H0 E00) scope s.heap.objs.size f c')) → PE (LamX.lamCx (cxN P w K mg base N0 q0 sc0 f0 (.ref C) A0 out0 s0 H0 E00) A outer s H E scope f c') body (t E)) :
    PE (cxN P w K mg base N0 q0 sc0 f0 (.ref C) A0 out0 s0 H0 E00) (.Call (.Name "_law_word" p) [.Lambda params body scope lpos] [] pos) (LamX.tLam [(Pt, lamQ q0)] TT t) := by
  obtain ⟨g, fd, F, hm, hb⟩ := W.ex
  obtain ⟨oc, od, kV, doc, pm, an, cdv, ct, osl, rfl, lk, hcd⟩ := F.ex
  exact LamX.pe_lamcall hg hm F.kp lk hcd hb W.sc W.nm W.vs (W.gv (hr.mono (by omega))) TB rfl (List.mem_singleton.mpr rfl) (fun p hp _ => by rw [List.mem_singleton.mp hp]; rfl) hr L hdef hbind hbody
/-! ### which error -/
/-- isinstance of what was caught -/
def rIsW (K : PySem.W.Frag) (cls : Value) (d : Option Addr) (a : Addr) : List V → Hp → VK → Prop := fun xs H Q => ∃ (D : Addr) (c : V) (cv : Value) (b : Bool), cls = .ref D ∧ d = none ∧ ExcC K D ∧ xs = [.ref a, c] ∧ (∀ u, RelV c u → u = cv) ∧ PySem.W.kitOne K (.ref D) cv = some b ∧ Q (.bl b) H
theorem call_isW {X : Cx} {K : PySem.W.Frag} (hK : X.K = K) {a : Addr} {oe : Obj} {cls : Value} {d : Option Addr} {pn : List (Addr × Obj)} (hz : Zc cls d oe) (hf : ∃ vs, oe.data = .fields vs) : CallR (X.suite a ((a, oe) :: pn)) (.builtin "isinstance") (rIsW K cls d a) := by
  subst hK
  intro pins s σ H xs us Q I r h
  obtain ⟨D, c, cv, b, rfl, rfl, C, e1, e2, e3, q⟩ := h
  exact call_isE C hz hf pins s σ H xs us Q I r ⟨c, cv, b, e1, e2, e3, q⟩
/-- how often in a list -/
def rCntV (K : PySem.W.Frag) : V → List V → Hp → VK → Prop := fun x xs H Q => ∃ (p : Addr) (ys : List V) (y : V), x = .ref p ∧ xs = [y] ∧ SqL K H p ys ∧ flatV y = true ∧ ys.all flatV = true ∧ Q (.int (ys.countP (fun z => eqV z y) : Nat)) H
theorem cntV_rel {y : V} : ∀ {ys : List V} {us : List Value}, Vals ys us → ys.all flatV = true → us.countP (eqU y) = ys.countP (fun z => eqV z y)
  | _, _, .nil, _ => rfl
  | z :: ys, u :: us, .cons r t, f => by
    rw [List.all_cons, Bool.and_eq_true] at f
    rw [List.countP_cons, List.countP_cons, cntV_rel t f.2, eqU_of r f.1]
theorem mt_cntV {X : Cx} {K : PySem.W.Frag} (hK : X.K = K) : MtR X "list.count" (rCntV K) := by
  subst hK
  intro ps s σ H x xs v us Q J rx ry h
  obtain ⟨p, ys, y, rfl, rfl, w, fy, fys, q⟩ := h
  cases rx
  obtain ⟨u, rfl, ru⟩ := ry.one
  obtain ⟨vs, rel, ⟨⟨k1, k2, k3, k4⟩, n, ho, hk, _, hd⟩, _⟩ := J.list w
  dsimp only at hk hd
  subst hk hd
  refine call_meets PySem.F.slot_list_count ⟨_, ho, rfl⟩ PySem.F.entry_list_count (PySem.F.args_list_count_2 _ _) (SeqAt.list_countAt p vs.toArray n k2 k4 u (eqU y)) ⟨ho, fun z hz => mem_eqAt ru fy rel fys z (by simpa using hz), ?_⟩
  have e := cntV_rel (y := y) rel fys
  exact ⟨.int (ys.countP (fun z => eqV z y) : Nat), H, J.tok _, ⟨s.toks, by rw [← e]⟩, q⟩
theorem mt_idxV {X : Cx} {K : PySem.W.Frag} (h : X.K = K) : MtR X "list.index" (rIndex K) := h ▸ mt_index
/-- an expression that is not read -/
theorem pe_no {X : Cx} {e : Expr} : PE X e (fun _ _ _ => False) := ⟨fun _ _ _ _ _ _ h => h.elim⟩
/-- a callee that may raise, but not as it is called here -/
theorem passX0 {X : Cx} : ∀ (pins : List (Addr × Obj)) (σ : L2.St) (H : Hp) (s : Shared) (e : Value) (s' : Shared), Inv X pins σ H s → L2.CX X.prog X.w X.stack H s E0 e s' → X.xe e s' := fun pins σ H s e s' I c => by
  obtain ⟨_, _, _, _, _, _, _, _, _, _, _, _, _, _, _, _, z⟩ := XE.of_call (W := fun _ _ _ _ => False) I (fun _ _ _ h => h) c
  exact z.elim
/-- where an exception is taken the slots are as many as the names -/
theorem takes_len {X : Cx} {W : WX} (t : Takes X W) : Takes X (fun cls d σ H => σ.length = X.N.length → W cls d σ H) := fun u s' ⟨a, B, sI, pins, σ, H, cls, d, e, I, nb, up, sky, na, os, ag, w⟩ =>
  t u s' ⟨a, B, sI, pins, σ, H, cls, d, e, I, nb, up, sky, na, os, ag, w I.len⟩
/-- the errors' words -/
def wordL : List Str := ["model", "sign", "share", "row", "code", "room", "count", "number", "text"]
def wordS (i : Nat) : Str := wordL.getD i (Str.ofString "")
/-- a class of errors without a value, the i-th of those that are asked -/
structure KindD (K : PySem.W.Frag) (cs : List Addr) (CS D : Addr) (i : Nat) : Prop where
  ex : ExcC K D
  lt : i < 9
  n3 : i ≠ 3
  n8 : i ≠ 8
  is : ∀ j C, cs[j]? = some C → PySem.W.kitOne K (.ref D) (.ref C) = some (decide (j = i))
  val : PySem.W.kitOne K (.ref D) (.type "ValueError") = some true
  exm : PySem.W.exmOne K (.ref D) (.ref CS) = some true
theorem kitOne_ref {K : PySem.W.Frag} {D C : Addr} {b : Bool} (self : PySem.W.subIn K (.ref D) (.ref D) = some true) (i : PySem.W.isClsIn K C = true) (t : PySem.W.typeIn K (.ref C) = some (.type "type")) (s : PySem.W.subIn K (.ref D) (.ref C) = some b) : PySem.W.kitOne K (.ref D) (.ref C) = some b := by
  unfold PySem.W.kitOne
  by_cases h : (Value.ref D == Value.ref C) = true
  · rw [if_pos h]
    have e : D = C := Value.ref.inj (beq_iff_eq.mp h)
    subst e
    rw [← s, self]
  · rw [if_neg h]
    have i' : (PySem.W.clsIn K C).isSome = true := i
    have q : ((PySem.W.clsIn K C).isSome && PySem.W.typeIn K (.ref C) == some (.type "type")) = true := by rw [i', t] <;> rfl
    show (if ((PySem.W.clsIn K C).isSome && PySem.W.typeIn K (.ref C) == some (.type "type")) = true then PySem.W.subIn K (.ref D) (.ref C) else none) = some b
    rw [if_pos q, s]
theorem kitOne_val {K : PySem.W.Frag} {D : Addr} (s : PySem.W.subIn K (.ref D) (.type "ValueError") = some true) : PySem.W.kitOne K (.ref D) (.type "ValueError") = some true := by
  unfold PySem.W.kitOne
  rw [if_neg (show ¬ ((Value.ref D == Value.type "ValueError") = true) from fun h => by have h2 := beq_iff_eq.mp h; cases h2)]
  have q : PySem.W.kitMeta "ValueError" = true := by decide +kernel
  show (if PySem.W.kitMeta "ValueError" = true then PySem.W.subIn K (.ref D) (.type "ValueError") else none) = some true
  rw [if_pos q, s]
theorem kind_is {K : PySem.W.Frag} {D c0 c1 c2 c3 c4 c5 c6 c7 c8 : Addr} {i : Nat} (h0 : PySem.W.kitOne K (.ref D) (.ref c0) = some (decide (0 = i))) (h1 : PySem.W.kitOne K (.ref D) (.ref c1) = some (decide (1 = i))) (h2 : PySem.W.kitOne K (.ref D) (.ref c2) = some (decide (2 = i)))
    (h3 : PySem.W.kitOne K (.ref D) (.ref c3) = some (decide (3 = i))) (h4 : PySem.W.kitOne K (.ref D) (.ref c4) = some (decide (4 = i))) (h5 : PySem.W.kitOne K (.ref D) (.ref c5) = some (decide (5 = i))) (h6 : PySem.W.kitOne K (.ref D) (.ref c6) = some (decide (6 = i)))
    (h7 : PySem.W.kitOne K (.ref D) (.ref c7) = some (decide (7 = i))) (h8 : PySem.W.kitOne K (.ref D) (.ref c8) = some (decide (8 = i))) : ∀ j C, [c0, c1, c2, c3, c4, c5, c6, c7, c8][j]? = some C → PySem.W.kitOne K (.ref D) (.ref C) = some (decide (j = i))
  | 0, _, rfl => h0
  | 1, _, rfl => h1
  | 2, _, rfl => h2
  | 3, _, rfl => h3
  | 4, _, rfl => h4
  | 5, _, rfl => h5
  | 6, _, rfl => h6
  | 7, _, rfl => h7
  | 8, _, rfl => h8
/-- what the telling def makes of a lambda's reading -/
def TWord (K : PySem.W.Frag) (cs : List Addr) (CS : Addr) : (XK → Hp → VK → Prop) → Hp → VK → Prop := fun tl H Q =>
  tl (fun cls d H' => ∃ D i L, cls = .ref D ∧ d = none ∧ KindD K cs CS D i ∧ HS H' L ∧ ∀ t H'', HS H'' (tp t [.str (wordS i), .int 0] :: L) → Q (.ref t) H'') H (fun _ H' => Q .non H')
section
variable {K : PySem.W.Frag} {σ : L2.St} {H : Hp} {Q : VK} {L F : List SA} {T : List (Addr × Str)} {TT : (XK → Hp → VK → Prop) → Hp → VK → Prop} {t : XK → TE} {cs : List Addr} {CS D C a p : Addr} {b : Bool} {ys : List V} {y : V}
theorem s_lam [hs : HS H L] [o : PickI L (tabA T) F] [n : NTs F] (h : ∀ H1, HS H1 (tabA T :: F) → TT (fun E H' Q' => t E σ H' Q') H1 Q) : LamX.tLam T TT t σ H Q := by
  have hs2 := hs.pk o.pk
  refine ⟨?_, fun H1 e t1 => h H1 (hs2.tabs n.nts e t1)⟩
  obtain ⟨own, s, _, _, q, _⟩ := hs2.x
  exact LamX.Tabs.ext (show LamX.Tabs T own from q) s
theorem s_word {tl : XK → Hp → VK → Prop} (h : tl (fun cls d H' => ∃ D i L, cls = .ref D ∧ d = none ∧ KindD K cs CS D i ∧ HS H' L ∧ ∀ t H'', HS H'' (tp t [.str (wordS i), .int 0] :: L) → Q (.ref t) H'') H (fun _ H' => Q .non H')) : TWord K cs CS tl H Q := h
theorem s_isW (ex : ExcC K D) (k : PySem.W.kitOne K (.ref D) (.ref C) = some b) (h : Q (.bl b) H) : rIsW K (.ref D) none a [.ref a, .ref C] H Q := ⟨D, .ref C, .ref C, b, rfl, rfl, ex, rfl, fun _ r => r, k, h⟩
theorem s_isWv (ex : ExcC K D) (k : PySem.W.kitOne K (.ref D) (.type "ValueError") = some b) (h : Q (.bl b) H) : rIsW K (.ref D) none a [.ref a, .ty "ValueError"] H Q := ⟨D, .ty "ValueError", .type "ValueError", b, rfl, rfl, ex, rfl, fun _ r => r, k, h⟩
theorem s_cntV [hs : HS H L] [m : RdL K L p ys] (fy : flatV y = true) (f : ys.all flatV = true) (h : Q (.int (ys.countP (fun z => eqV z y) : Nat)) H) : rCntV K (.ref p) [y] H Q := ⟨p, ys, y, rfl, rfl, m.sq hs, fy, f, h⟩
/-- two such words are the same -/
theorem s_neWord {t u : Addr} {z : Str} {i : Int} (ok : PyData.strOk z = true) [hs : HS H L] [m1 : RdT K L t [.str z, .int i]] [m2 : RdT K L u [.str z, .int i]] (h : Q (.bl false) H) : rNeG K (.ref t) (.ref u) H Q := by
  refine .inr ⟨_, _, .tup (m1.sq hs) (.cons (.str z) (.cons (.int i) .nil)), .tup (m2.sq hs) (.cons (.str z) (.cons (.int i) .nil)), ?_, ?_, ?_⟩
  · simp [SeqAt.shaped, PyData.canLay0, PyData.canLayAll0, PyData.depth, PyData.depthAll, ok]
  · simp [SeqAt.shaped, PyData.canLay0, PyData.canLayAll0, PyData.depth, PyData.depthAll, ok]
  · have e : PyData.eqv (.tuple [.str z, .int i]) (.tuple [.str z, .int i]) = true := by simp [PyData.eqv, PyData.eqvAll]
    rw [e]; exact h
/-- the nine tests' answers -/
def kindL (i : Nat) : List V := (List.range 9).map fun j => .bl (decide (j = i))
theorem kind_cnt : ∀ i < 9, (kindL i).countP (fun z => eqV z (.bl true)) = 1 := by decide
theorem kind_flat : ∀ i < 9, (kindL i).all flatV = true := by decide
theorem kind_at : ∀ i < 9, (kindL i)[i]? = some (.bl true) := by decide
theorem kind_no : ∀ i < 9, ∀ m < i, (kindL i)[m]? = some (.bl false) := by decide
theorem words_at : ∀ i : Nat, i < 9 → atI (wordL.map V.str) (i : Int) = some (.str (wordS i))
  | 0, _ => rfl
  | 1, _ => rfl
  | 2, _ => rfl
  | 3, _ => rfl
  | 4, _ => rfl
  | 5, _ => rfl
  | 6, _ => rfl
  | 7, _ => rfl
  | 8, _ => rfl
  | n + 9, h => absurd h (by omega)
theorem word_row : ∀ i < 9, i ≠ 3 → wordS i ≠ Str.ofString "row" := by decide
theorem word_text : ∀ i < 9, i ≠ 8 → wordS i ≠ Str.ofString "text" := by decide
theorem s_idxW {i : Nat} (hi : i < 9) [hs : HS H L] [m : RdL K L p (kindL i)] (h : Q (.int (i : Nat)) H) : rIndex K (.ref p) [.bl true] H Q :=
  ⟨p, kindL i, .bl true, i, .bl true, rfl, rfl, m.sq hs, rfl, kind_flat i hi, kind_at i hi, rfl, fun m z hm hz => by rw [kind_no i hi m hm] at hz; cases hz; rfl, h⟩
end
end G

/-! Readers beside the law's own. -/
namespace G
open PySem L2
instance {K : PySem.W.Frag} {Sh Pl Le Ah Bl Rd p : Addr} {R k : Nat} {y : Rnd} {bs : List Nat} {over : Bool} [n : ∀ m q, NT (msa K Sh Pl Le Ah Bl m q)] : NT (rdS K Sh Pl Le Ah Bl Rd p R y k bs over) := by unfold rdS; infer_instance
instance {Sh Le p : Addr} {cs : List Int} {st li : Int} : NT (lrS Sh Le p cs st li) := by unfold lrS; infer_instance
theorem NT.ent {Sh Le : Addr} {st li : Int} : ∀ es : List Ent, NT (entS Sh Le st li es)
  | [] => by unfold entS; infer_instance
  | e :: es => by
    haveI := NT.ent (Sh := Sh) (Le := Le) (st := st) (li := li) es
    unfold entS; infer_instance
instance {Sh Le : Addr} {st li : Int} {es : List Ent} : NT (entS Sh Le st li es) := NT.ent es
theorem NT.msa {K : PySem.W.Frag} {Sh Pl Le Ah Bl : Addr} : ∀ (m : Mnd) (p : Addr), NT (msa K Sh Pl Le Ah Bl m p)
  | .plain cs, p => by unfold G.msa; infer_instance
  | .learn cs st li, p => by unfold G.msa; infer_instance
  | .ahead o s st li last f, p => by unfold G.msa; infer_instance
  | .blend a b w, p => by
    haveI := NT.msa (K := K) (Sh := Sh) (Pl := Pl) (Le := Le) (Ah := Ah) (Bl := Bl) a
    haveI := NT.msa (K := K) (Sh := Sh) (Pl := Pl) (Le := Le) (Ah := Ah) (Bl := Bl) b
    unfold G.msa; infer_instance
instance {K : PySem.W.Frag} {Sh Pl Le Ah Bl p : Addr} {m : Mnd} : NT (msa K Sh Pl Le Ah Bl m p) := NT.msa m p
theorem NT.lent : ∀ es : List Ent, NT (lentS es)
  | [] => by unfold lentS; infer_instance
  | e :: es => by
    haveI := NT.lent es
    unfold lentS; infer_instance
instance {es : List Ent} : NT (lentS es) := NT.lent es
instance {K : PySem.W.Frag} {m : Mnd} {cs : List Int} {p : Addr} : NT (lmF K m cs p) := by unfold lmF; infer_instance
theorem NT.lms {K : PySem.W.Frag} : ∀ (m : Mnd) (p : Addr), NT (lms K m p)
  | .plain cs, p => by unfold G.lms; infer_instance
  | .learn cs st li, p => by unfold G.lms; infer_instance
  | .ahead o s st li last f, p => by unfold G.lms; infer_instance
  | .blend a b w, p => by
    haveI := NT.lms (K := K) a
    haveI := NT.lms (K := K) b
    unfold G.lms; infer_instance
instance {K : PySem.W.Frag} {p : Addr} {m : Mnd} : NT (lms K m p) := NT.lms m p
/-! ### all numbers in a sign's stretch -/
theorem allr_sign {R : Nat} {y : Rnd} {v : Int} {L s : Nat} (h : (rnd R y s).lo * 2 ^ L ≤ v * 2 ^ (R + (rnd R y s).mn)) :
    AllR R (rnd R y s) v L ↔ (v + 1) * 2 ^ (R + y.mn) ≤ (y.lo + rpart y * (y.m.now.take s).sum + rpart y * y.m.now.getD s 0) * 2 ^ L := by
  have hp := ipow_pos (rsh R y s)
  have e2 : (v + 1) * 2 ^ (R + (rnd R y s).mn) = (v + 1) * 2 ^ (R + y.mn) * 2 ^ rsh R y s := by
    show (v + 1) * 2 ^ (R + (y.mn + rsh R y s)) = _
    rw [← Nat.add_assoc, Int.pow_add, Int.mul_assoc]
  have e3 : ((rnd R y s).lo + (rnd R y s).wd) * 2 ^ L = (y.lo + rpart y * (y.m.now.take s).sum + rpart y * y.m.now.getD s 0) * 2 ^ L * 2 ^ rsh R y s := by
    show ((y.lo + rpart y * (y.m.now.take s).sum) * 2 ^ rsh R y s + rpart y * y.m.now.getD s 0 * 2 ^ rsh R y s) * 2 ^ L = _
    rw [← Int.add_mul]
    simp only [Int.mul_assoc, Int.mul_comm, Int.mul_left_comm]
  unfold AllR
  rw [e2, e3]
  exact ⟨fun ⟨_, b⟩ => Int.le_of_mul_le_mul_right b (by omega), fun b => ⟨h, Int.mul_le_mul_of_nonneg_right b (by omega)⟩⟩
/-- which sign the law finds -/
theorem due_is {R k : Nat} {y : Rnd} {sg mo : Int} {v : Int} {L i : Nat} (h : RndOk R k y sg mo) (h1 : y.lo * 2 ^ L ≤ v * 2 ^ (R + y.mn)) (h2 : ¬ OutR R y v L) (hi : i < y.m.now.length) :
    ((y.lo + rpart y * (y.m.now.take i).sum) * 2 ^ L ≤ v * 2 ^ (R + y.mn) ∧ v * 2 ^ (R + y.mn) < (y.lo + rpart y * (y.m.now.take i).sum + rpart y * y.m.now.getD i 0) * 2 ^ L) ↔ i = rsgn R y v L := by
  obtain ⟨p4, _, _⟩ := part_pos h
  have g := h.ok.good
  obtain ⟨q0, q1, q2⟩ := rsgnQ_ok h h1 h2
  constructor
  · rintro ⟨a, b⟩
    rw [Int.add_assoc, getD_take hi] at b
    exact signF_is _ _ i g.1.nn hi ((rshare (by omega)).1.mpr a) ((rshare (by omega)).2.mpr b)
  · rintro rfl
    obtain ⟨a1, a2, _⟩ := filter_sign g.1 q0 q1
    have a1 : (y.m.now.take (rsgn R y v L)).sum ≤ rsgnQ R y v L := a1
    have a2 : rsgnQ R y v L < (y.m.now.take (rsgn R y v L + 1)).sum := a2
    refine ⟨(rshare (by omega)).1.mp a1, ?_⟩
    rw [Int.add_assoc, getD_take hi]
    exact (rshare (by omega)).2.mp a2
/-! ### the law's own -/
abbrev owD (o w t : Addr) (R : Nat) (bs : List Nat) (over : Bool) (k : Nat) : SA := pt o (.dK [(.inr "mind", .ref w), (.inr "at", .ref t), (.inr "room", .int (R : Nat)), (.inr "digits", .str (dgs bs)), (.inr "over", .bl over), (.inr "many", .int (k : Nat))])
abbrev atT (t : Addr) (y : Rnd) : SA := tp t [.int y.lo, .int y.wd, .int (y.mn : Nat)]
def spDue (K : PySem.W.Frag) : Sp := fun vs H Q _ => ∃ o w t R y k sg mo bs over L, vs = [.ref o] ∧ RdOk R k y sg mo bs over ∧ HS H (owD o w t R bs over k :: atT t y :: lms K y.m w :: L) ∧
  (¬ OutR R y (valB bs) bs.length → (over = true ∨ AllR R (rnd R y (rsgn R y (valB bs) bs.length)) (valB bs) bs.length) → ∀ r H', HS H' (tp r [.str (Str.ofString "sign"), .int (rsgn R y (valB bs) bs.length : Nat)] :: owD o w t R bs over k :: atT t y :: lms K y.m w :: L) → Q (.ref r) H') ∧
  (¬ OutR R y (valB bs) bs.length → ¬ (over = true ∨ AllR R (rnd R y (rsgn R y (valB bs) bs.length)) (valB bs) bs.length) → ∀ r H', HS H' (tp r [.str (Str.ofString "none"), .int 0] :: owD o w t R bs over k :: atT t y :: lms K y.m w :: L) → Q (.ref r) H') ∧
  (OutR R y (valB bs) bs.length → ∀ r H', HS H' (tp r [.str (Str.ofString "code"), .int 0] :: owD o w t R bs over k :: atT t y :: lms K y.m w :: L) → Q (.ref r) H')
def spTook (K : PySem.W.Frag) : Sp := fun vs H Q _ => ∃ o w t R y k sg mo s bs over j L, vs = [.ref o, .int (s : Nat)] ∧ RndOk R k y sg mo ∧ k < 60 ∧ (s : Int) < sg ∧ HS H (owD o w t R bs over j :: atT t y :: lms K y.m w :: L) ∧
  ∀ t' H', HS H' (owD o w t' R bs over j :: atT t' (rnd R y s) :: lms K (y.m.lrn s) w :: L) → Q .non H'
def spRFeedX (K : PySem.W.Frag) (Sh Pl Le Ah Bl Rd Bc : Addr) : Sp := fun vs H Q E => ∃ p R y k sg mo bs ds over L, vs = [.ref p, .str (dgs ds)] ∧ RdOk R k y sg mo bs over ∧ (∀ b ∈ ds, b < 2) ∧ bs.length + ds.length ≤ 900 ∧ HS H (rdS K Sh Pl Le Ah Bl Rd p R y k bs over :: L) ∧
  (over = false → ∀ H', HS H' (rdS K Sh Pl Le Ah Bl Rd p R y k (bs ++ ds) over :: L) → Q .non H') ∧ (over = true → ∀ H', HS H' (rdS K Sh Pl Le Ah Bl Rd p R y k bs over :: L) → E (.ref Bc) none H')
section
variable {K : PySem.W.Frag} {Sh Pl Le Ah Bl Rd Bc p o w t : Addr} {H : Hp} {Q : VK} {E : XK} {L F F1 F2 F3 : List SA} {y : Rnd} {sg mo i : Int} {R k j : Nat} {bs : List Nat} {over : Bool}
theorem c_due (ok : RdOk R k y sg mo bs over) [hs : HS H L] [a : Own L o (owD o w t R bs over k) F1] [b : PickI F1 (atT t y) F2] [c : Own F2 w (lms K y.m w) F3]
    (h1 : ¬ OutR R y (valB bs) bs.length → (over = true ∨ AllR R (rnd R y (rsgn R y (valB bs) bs.length)) (valB bs) bs.length) → ∀ r H', HS H' (tp r [.str (Str.ofString "sign"), .int (rsgn R y (valB bs) bs.length : Nat)] :: owD o w t R bs over k :: atT t y :: lms K y.m w :: F3) → Q (.ref r) H')
    (h2 : ¬ OutR R y (valB bs) bs.length → ¬ (over = true ∨ AllR R (rnd R y (rsgn R y (valB bs) bs.length)) (valB bs) bs.length) → ∀ r H', HS H' (tp r [.str (Str.ofString "none"), .int 0] :: owD o w t R bs over k :: atT t y :: lms K y.m w :: F3) → Q (.ref r) H')
    (h3 : OutR R y (valB bs) bs.length → ∀ r H', HS H' (tp r [.str (Str.ofString "code"), .int 0] :: owD o w t R bs over k :: atT t y :: lms K y.m w :: F3) → Q (.ref r) H') : spDue K [.ref o] H Q E := ⟨o, w, t, R, y, k, sg, mo, bs, over, F3, rfl, ok, hs.pk3 a.pk b.pk c.pk, h1, h2, h3⟩
theorem c_took (s : Nat) (e : i = (s : Nat)) (ok : RndOk R k y sg mo) (hk : k < 60) (hs1 : (s : Int) < sg) [hs : HS H L] [a : Own L o (owD o w t R bs over j) F1] [b : PickI F1 (atT t y) F2] [c : Own F2 w (lms K y.m w) F3]
    (h : ∀ t' H', HS H' (owD o w t' R bs over j :: atT t' (rnd R y s) :: lms K (y.m.lrn s) w :: F3) → Q .non H') : spTook K [.ref o, .int i] H Q E := ⟨o, w, t, R, y, k, sg, mo, s, bs, over, j, F3, by rw [e], ok, hk, hs1, hs.pk3 a.pk b.pk c.pk, h⟩
theorem c_rFeedX (ds : List Nat) [hs : HS H L] [o : Own L p (rdS K Sh Pl Le Ah Bl Rd p R y k bs over) F] (ok : RdOk R k y sg mo bs over) (hd : ∀ b ∈ ds, b < 2) (hl : bs.length + ds.length ≤ 900)
    (h1 : over = false → ∀ H', HS H' (rdS K Sh Pl Le Ah Bl Rd p R y k (bs ++ ds) over :: F) → Q .non H') (h2 : over = true → ∀ H', HS H' (rdS K Sh Pl Le Ah Bl Rd p R y k bs over :: F) → E (.ref Bc) none H') : spRFeedX K Sh Pl Le Ah Bl Rd Bc [.ref p, .str (dgs ds)] H Q E := ⟨p, R, y, k, sg, mo, bs, ds, over, F, rfl, ok, hd, hl, hs.pk o.pk, h1, h2⟩
end
/-! ### two readers, each with the law's own -/
structure RSide where
  t : Addr
  o : Addr
  d : Addr
  w : Addr
  ta : Addr
  m : Mdl
  R : Nat
  ss : List Nat
  bs : List Nat
  over : Bool
abbrev RSide.y (s : RSide) : Rnd := rnds s.R (rnd0 s.R s.m) s.ss
structure RsOk (s : RSide) : Prop where
  mok : MOk 3 s.m
  r4 : 4 ≤ s.R
  r20 : s.R ≤ 20
  h8 : 8 * mst s.m ≤ 2 ^ s.R
  hss : ∀ u ∈ s.ss, (u : Int) < nsg s.m
  ok : RdOk s.R s.ss.length s.y (nsg s.m) (mst s.m) s.bs s.over
  len : s.bs.length ≤ 312
def rsS (K : PySem.W.Frag) (Sh Pl Le Ah Bl Rd : Addr) (s : RSide) : SA := G.st (tp s.t [.ref s.o, .ref s.d]) (G.st (rdS K Sh Pl Le Ah Bl Rd s.o s.R s.y s.ss.length s.bs s.over) (G.st (owD s.d s.w s.ta s.R s.bs s.over s.ss.length) (G.st (atT s.ta s.y) (lms K s.y.m s.w))))
instance {K : PySem.W.Frag} {Sh Pl Le Ah Bl Rd : Addr} {s : RSide} : NT (rsS K Sh Pl Le Ah Bl Rd s) := by unfold rsS; infer_instance
section
variable {K : PySem.W.Frag} {Sh Pl Le Ah Bl Rd : Addr} {H : Hp} {L : List SA} {s : RSide}
theorem HS.rs_in (h : HS H (rsS K Sh Pl Le Ah Bl Rd s :: L)) : HS H (tp s.t [.ref s.o, .ref s.d] :: rdS K Sh Pl Le Ah Bl Rd s.o s.R s.y s.ss.length s.bs s.over :: owD s.d s.w s.ta s.R s.bs s.over s.ss.length :: atT s.ta s.y :: lms K s.y.m s.w :: L) := by
  have h1 := HS.st3 h
  have h2 := HS.st3 (h1.pk (.there (.there .here)))
  exact h2.re
theorem HS.rs_out (h : HS H (tp s.t [.ref s.o, .ref s.d] :: rdS K Sh Pl Le Ah Bl Rd s.o s.R s.y s.ss.length s.bs s.over :: owD s.d s.w s.ta s.R s.bs s.over s.ss.length :: atT s.ta s.y :: lms K s.y.m s.w :: L)) : HS H (rsS K Sh Pl Le Ah Bl Rd s :: L) := by
  have h1 := HS.st3o (A := owD s.d s.w s.ta s.R s.bs s.over s.ss.length) (B := atT s.ta s.y) (C := lms K s.y.m s.w) (h.re : HS H (owD s.d s.w s.ta s.R s.bs s.over s.ss.length :: atT s.ta s.y :: lms K s.y.m s.w :: tp s.t [.ref s.o, .ref s.d] :: rdS K Sh Pl Le Ah Bl Rd s.o s.R s.y s.ss.length s.bs s.over :: L))
  exact HS.st3o (h1.re : HS H (tp s.t [.ref s.o, .ref s.d] :: rdS K Sh Pl Le Ah Bl Rd s.o s.R s.y s.ss.length s.bs s.over :: _ :: L))
end
end G

namespace G
open PySem L2
/-! Stretches without a gap. -/
/-- what comes behind a value by cases, once -/
theorem s_ifeR {c : TT} {ta tb : TE} {σ : L2.St} {H : Hp} {Q : VK} (P : V → Hp → Prop) (rest : ∀ v H', P v H' → Q v H') (h : ∀ Q' : VK, (∀ v H', P v H' → Q' v H') → c σ H fun b H1 => if b = true then ta σ H1 Q' else tb σ H1 Q') : tIf c ta tb σ H Q := h Q rest
def rowsN (sg : Nat) : Nat → List (List Nat)
  | 0 => [[]]
  | k + 1 => (rowsN sg k).flatMap fun r => (List.range sg).map fun s => r ++ [s]
/-- each begins where the one ahead ends; a / b is where the first begins, c / d where the last ends -/
def Chain : List Nar → Int → Int → Int → Int → Prop
  | [], a, b, c, d => a * d = c * b
  | y :: ys, a, b, c, d => y.lo * b = a * y.pa ∧ Chain ys (y.lo + y.wd) y.pa c d
theorem fr_tr {a b c d e f : Int} (hd : 0 < d) (h1 : a * d = c * b) (h2 : c * f = e * d) : a * f = e * b := by
  have h3 : a * f * d = e * b * d := by
    have q1 : a * f * d = a * d * f := by simp only [Int.mul_assoc, Int.mul_comm, Int.mul_left_comm]
    have q2 : e * b * d = e * d * b := by simp only [Int.mul_assoc, Int.mul_comm, Int.mul_left_comm]
    rw [q1, q2, h1, ← h2]
    simp only [Int.mul_assoc, Int.mul_comm, Int.mul_left_comm]
  exact Int.eq_of_mul_eq_mul_right (by omega) h3
theorem chain_to : ∀ (ys : List Nar) {a b c d e f : Int}, 0 < d → Chain ys a b c d → c * f = e * d → Chain ys a b e f
  | [], a, b, c, d, e, f, hd, h, q => fr_tr hd h q
  | y :: ys, a, b, c, d, e, f, hd, h, q => ⟨h.1, chain_to ys hd h.2 q⟩
theorem chain_from : ∀ (ys : List Nar) {a b c d e f : Int}, 0 < b → e * b = a * f → Chain ys a b c d → Chain ys e f c d
  | [], a, b, c, d, e, f, hb, q, h => fr_tr (c := a) hb q h
  | y :: ys, a, b, c, d, e, f, hb, q, h => ⟨by
      have := fr_tr (a := y.lo) (b := y.pa) (c := a) (d := b) (e := e) (f := f) hb h.1 (by rw [q])
      rw [this], h.2⟩
theorem chain_app : ∀ (xs ys : List Nar) {a b c d e f : Int}, 0 < d → Chain xs a b c d → Chain ys c d e f → Chain (xs ++ ys) a b e f
  | [], ys, a, b, c, d, e, f, hd, h1, h2 => chain_from ys hd h1 h2
  | x :: xs, ys, a, b, c, d, e, f, hd, h1, h2 => ⟨h1.1, chain_app xs ys hd h1.2 h2⟩
/-- the signs' stretches, from the first one on -/
theorem chain_signs {k : Nat} {x : Nar} {sg mo : Int} (h : NarOk k x sg mo) : ∀ (n j : Nat), j + n = x.m.now.length → Chain ((List.range' j n).map fun s => nar x s) (x.lo * x.m.now.sum + x.wd * (x.m.now.take j).sum) (x.pa * x.m.now.sum) ((x.lo + x.wd) * x.m.now.sum) (x.pa * x.m.now.sum)
  | 0, j, e => by
    have : j = x.m.now.length := by omega
    subst this
    rw [List.take_length]
    show _ * _ = _ * _
    rw [show x.lo * x.m.now.sum + x.wd * x.m.now.sum = (x.lo + x.wd) * x.m.now.sum from (Int.add_mul _ _ _).symm]
  | n + 1, j, e => by
    have hj : j < x.m.now.length := by omega
    have ih := chain_signs h n (j + 1) (by omega)
    rw [List.range'_succ, List.map_cons]
    refine ⟨rfl, ?_⟩
    have e1 : (nar x j).lo + (nar x j).wd = x.lo * x.m.now.sum + x.wd * (x.m.now.take (j + 1)).sum := by
      show x.lo * x.m.now.sum + x.wd * (x.m.now.take j).sum + x.wd * x.m.now.getD j 0 = _
      rw [take_getD _ _ hj, Int.mul_add, Int.add_assoc]
    rw [e1]
    exact ih
theorem chain_one {k : Nat} {x : Nar} {sg mo : Int} (h : NarOk k x sg mo) : Chain ((List.range sg.toNat).map fun s => nar x s) x.lo x.pa (x.lo + x.wd) x.pa := by
  have g := h.ok.good
  have hS := g.1.sum_pos
  have hp : 0 < x.pa := by have := h.le; have := h.lo0; have := h.wd0; omega
  have hpS : 0 < x.pa * x.m.now.sum := Int.mul_pos hp hS
  have c := chain_signs h x.m.now.length 0 (by omega)
  rw [List.take_zero, List.sum_nil, Int.mul_zero, Int.add_zero, ← List.range_eq_range', show x.m.now.length = sg.toNat by have := g.2.2.1; omega] at c
  have q1 : x.lo * (x.pa * x.m.now.sum) = x.lo * x.m.now.sum * x.pa := by simp only [Int.mul_assoc, Int.mul_comm, Int.mul_left_comm]
  have q2 : (x.lo + x.wd) * x.m.now.sum * x.pa = (x.lo + x.wd) * (x.pa * x.m.now.sum) := by simp only [Int.mul_assoc, Int.mul_comm, Int.mul_left_comm]
  exact chain_to _ hpS (chain_from _ hpS q1 c) q2
theorem chain_flat {sg mo : Int} : ∀ (ys : List Nar) {a b c d : Int}, (∀ y ∈ ys, ∃ k, NarOk k y sg mo) → Chain ys a b c d → Chain (ys.flatMap fun y => (List.range sg.toNat).map fun s => nar y s) a b c d
  | [], a, b, c, d, _, h => h
  | y :: ys, a, b, c, d, q, h => by
    obtain ⟨k, hk⟩ := q y List.mem_cons_self
    have hp : 0 < y.pa := by have := hk.le; have := hk.lo0; have := hk.wd0; omega
    rw [List.flatMap_cons]
    have c1 := chain_from _ hp (show a * y.pa = y.lo * b from h.1.symm) (chain_one hk)
    exact chain_app _ _ hp c1 (chain_flat ys (fun z hz => q z (List.mem_cons_of_mem _ hz)) h.2)
theorem rows_mem {sg : Nat} : ∀ (k : Nat) (r : List Nat), r ∈ rowsN sg k → r.length = k ∧ ∀ s ∈ r, s < sg
  | 0, r, h => by
    have : r = [] := by simpa [rowsN] using h
    subst this; simp
  | k + 1, r, h => by
    obtain ⟨q, hq, h⟩ := List.mem_flatMap.mp h
    obtain ⟨s, hs, rfl⟩ := List.mem_map.mp h
    obtain ⟨i1, i2⟩ := rows_mem k q hq
    refine ⟨by simp [i1], fun t ht => ?_⟩
    rcases List.mem_append.mp ht with z | z
    · exact i2 t z
    · rw [List.mem_singleton.mp z]; exact List.mem_range.mp hs
theorem chain_rows {k0 : Nat} {x : Nar} {sg mo : Int} (h : NarOk k0 x sg mo) : ∀ k, Chain ((rowsN sg.toNat k).map fun r => nars x r) x.lo x.pa (x.lo + x.wd) x.pa
  | 0 => ⟨rfl, rfl⟩
  | k + 1 => by
    have ih := chain_rows h k
    have := chain_flat (sg := sg) (mo := mo) _ (fun y hy => by
      obtain ⟨r, hr, rfl⟩ := List.mem_map.mp hy
      have := (rows_mem k r hr).2
      exact ⟨_, h.nars r fun s hs => by have := this s hs; omega⟩) ih
    have e : ((rowsN sg.toNat k).map fun r => nars x r).flatMap (fun y => (List.range sg.toNat).map fun s => nar y s) = (rowsN sg.toNat (k + 1)).map fun r => nars x r := by
      rw [List.flatMap_map]
      show _ = ((rowsN sg.toNat k).flatMap fun r => (List.range sg.toNat).map fun s => r ++ [s]).map fun r => nars x r
      rw [List.map_flatMap]
      congr 1
      funext r
      rw [List.map_map]
      refine List.map_congr_left fun s _ => ?_
      exact (nars_snoc x r s).symm
    rw [e] at this
    exact this
def flatR (sg : Nat) (l : List (List Nat)) : List (List Nat) := l.flatMap fun r => (List.range sg).map fun s => r ++ [s]
theorem flat_len (sg : Nat) (l : List (List Nat)) : (flatR sg l).length = l.length * sg := by
  induction l with
  | nil => simp [flatR]
  | cons a l ih => unfold flatR at ih ⊢; rw [List.flatMap_cons, List.length_append, ih, List.length_map, List.length_range, List.length_cons, Nat.succ_mul, Nat.add_comm]
theorem flat_snoc (sg : Nat) (l : List (List Nat)) (r : List Nat) : flatR sg (l ++ [r]) = flatR sg l ++ (List.range sg).map fun s => r ++ [s] := by
  unfold flatR; rw [List.flatMap_append]; simp
theorem HS.allS_app {α : Type} {f : α → SA} : ∀ (xs ys : List α) {H : Hp} {L : List SA}, HS H (allS f xs :: allS f ys :: L) → HS H (allS f (xs ++ ys) :: L)
  | [], ys, H, L, h => h.drop
  | x :: xs, ys, H, L, h => by
    have h1 := HS.all1 (f := f) (a := x) (r := xs) h
    have h2 := HS.allS_app xs ys (L := f x :: L) ((h1.pk (.there (.there .here))).pk (.there (.there .here)))
    exact HS.all2 (h2.pk (.there .here))
theorem rows_len (sg : Nat) : ∀ k, (rowsN sg k).length = sg ^ k
  | 0 => rfl
  | k + 1 => by
    have : ∀ l : List (List Nat), (l.flatMap fun r => (List.range sg).map fun s => r ++ [s]).length = l.length * sg := by
      intro l
      induction l with
      | nil => simp
      | cons a l ih => rw [List.flatMap_cons, List.length_append, ih, List.length_map, List.length_range, List.length_cons, Nat.succ_mul, Nat.add_comm]
    show ((rowsN sg k).flatMap _).length = _
    rw [this, rows_len sg k, Nat.pow_succ]
theorem rows_few {sg k : Nat} (h8 : sg ≤ 8) (h4 : k ≤ 4) : k ≤ 20 ∧ ∀ j, j ≤ k → sg ^ j ≤ 4096 := ⟨by omega, fun j hj => by
  have a1 : sg ^ j ≤ 8 ^ j := Nat.pow_le_pow_left h8 j
  have a2 : 8 ^ j ≤ 8 ^ 4 := Nat.pow_le_pow_right (by decide) (by omega)
  omega⟩
theorem take_snoc' {α : Type} {l : List α} {i : Nat} {r : α} (h : l[i]? = some r) : l.take (i + 1) = l.take i ++ [r] := by rw [List.take_add_one, h]; rfl
abbrev rwS (z : Addr × List Nat) : SA := pt z.1 (.lst (iv (z.2.map Int.ofNat)))
def spRows (K : PySem.W.Frag) : Sp := fun vs H Q _ => ∃ (sg k : Nat) (L : List SA), vs = [.int (sg : Nat), .int (k : Nat)] ∧ sg ≤ 8 ∧ (k ≤ 20 ∧ ∀ j, j ≤ k → sg ^ j ≤ 4096) ∧ HS H L ∧
  ∀ R (rs : List Addr) H', rs.length = (rowsN sg k).length → HS H' (pt R (.lst (rs.map V.ref)) :: allS rwS (rs.zip (rowsN sg k)) :: L) → Q (.ref R) H'
def spSame (K : PySem.W.Frag) : Sp := fun vs H Q _ => ∃ p q a b c d L, vs = [.ref p, .ref q] ∧ HS H L ∧ RdT K L p [.int a, .int b] ∧ RdT K L q [.int c, .int d] ∧ (0 ≤ a ∧ a ≤ 2 ^ 840) ∧ (0 ≤ b ∧ b ≤ 2 ^ 840) ∧ (0 ≤ c ∧ c ≤ 2 ^ 840) ∧ (0 ≤ d ∧ d ≤ 2 ^ 840) ∧ Q (.bl (decide (a * d = c * b))) H
section
variable {K : PySem.W.Frag} {H : Hp} {Q : VK} {E : XK} {L L' : List SA} {p q : Addr} {i j a b c d : Int} {xs zs : List V}
theorem c_rows (sg k : Nat) (e1 : i = (sg : Nat)) (e2 : j = (k : Nat)) (h8 : sg ≤ 8) (h4 : k ≤ 20 ∧ ∀ j, j ≤ k → sg ^ j ≤ 4096) [hs : HS H L] (h : ∀ R (rs : List Addr) H', rs.length = (rowsN sg k).length → HS H' (pt R (.lst (rs.map V.ref)) :: allS rwS (rs.zip (rowsN sg k)) :: L) → Q (.ref R) H') : spRows K [.int i, .int j] H Q E := ⟨sg, k, L, by rw [e1, e2], h8, h4, hs, h⟩
theorem c_same [hs : HS H L] [m1 : RdT K L p [.int a, .int b]] [m2 : RdT K L q [.int c, .int d]] (ha : 0 ≤ a ∧ a ≤ 2 ^ 840) (hb : 0 ≤ b ∧ b ≤ 2 ^ 840) (hc : 0 ≤ c ∧ c ≤ 2 ^ 840) (hd : 0 ≤ d ∧ d ≤ 2 ^ 840) (h : Q (.bl (decide (a * d = c * b))) H) : spSame K [.ref p, .ref q] H Q E := ⟨p, q, a, b, c, d, L, rfl, hs, m1, m2, ha, hb, hc, hd, h⟩
theorem s_ext {L2 : List SA} [hs : HS H L] [o : Own L p (pt p (.lst xs)) L'] [o2 : Own L q (pt q (.lst zs)) L2] (z : xs.length + zs.length ≤ sizeLine) (h : ∀ H', HS H' (pt p (.lst (xs ++ zs)) :: L') → Q .non H') : rExtend (.ref p) [.ref q] H Q :=
  ⟨p, q, xs, zs, rfl, rfl, (hs.pk o.pk).get, (hs.pk o2.pk).get, z, h _ ((hs.pk o.pk).put id)⟩
end
end G

namespace G
open PySem L2
/-! Lists unpacked; the least and the greatest of a list. -/
section
open PySem PySem.Spec PyProof.Rows
theorem pg_unlK {X : Cx} {K : PySem.W.Frag} (h : X.K = K) {pos : Pos} {es : List Expr} {k : Nat} {t : TGs} {n : Nat} (hc : X.calm = true) (hp : PGs X es t)
    (hn : (assignEach es X.env).length = n := by rfl) (hst : (assignEach es X.env).findIdx? (·.1) = none := by rfl) : PG X (.Tuple es k pos) (gUnl K n t) := h ▸ pg_unl hc hp hn hst
end
section
variable {K : PySem.W.Frag} {σ : L2.St} {H : Hp} {Q : VK} {L : List SA} {p : Addr} {xs : List V} {n : Nat}
theorem s_gunl {t : TGs} {N : L2.St → Hp → Prop} [hs : HS H L] [m : RdL K L p xs] (e : xs.length = n) (h : t xs σ H N) : gUnl K n t (.ref p) σ H N := ⟨p, xs, rfl, m.sq hs, e, h⟩
theorem s_minL (cs : List Int) (e : xs = iv cs) [hs : HS H L] [m : RdL K L p xs] (h0 : 0 < cs.length) (h : ∀ z, z ∈ cs → (∀ y ∈ cs, z ≤ y) → Q (.int z) H) : rMinG K [.ref p] H Q :=
  .inr ⟨p, cs, rfl, (by show SqL K H p (iv cs); rw [← e]; exact m.sq hs), h0, h⟩
theorem s_maxL (cs : List Int) (e : xs = iv cs) [hs : HS H L] [m : RdL K L p xs] (h0 : 0 < cs.length) (h : ∀ z, z ∈ cs → (∀ y ∈ cs, y ≤ z) → Q (.int z) H) : rMaxG K [.ref p] H Q :=
  .inr ⟨p, cs, rfl, (by show SqL K H p (iv cs); rw [← e]; exact m.sq hs), h0, h⟩
end
theorem mul_le2 {x y a b : Int} (hx : 0 ≤ x ∧ x ≤ a) (hy : 0 ≤ y ∧ y ≤ b) : 0 ≤ x * y ∧ x * y ≤ a * b :=
  ⟨Int.mul_nonneg hx.1 hy.1, Int.mul_le_mul hx.2 hy.2 hy.1 (by omega)⟩
/-- a blend's share is between -/
theorem share_lo {w a b A B z : Int} (hw : 0 ≤ w) (hA : 0 ≤ A) (hB : 0 ≤ B) (h1 : z ≤ a * B) (h2 : z ≤ b * A) : z * (w * A + B) ≤ (w * a + b) * A * B := by
  have e1 : z * (w * A) ≤ a * B * (w * A) := Int.mul_le_mul_of_nonneg_right h1 (Int.mul_nonneg hw hA)
  have e2 : z * B ≤ b * A * B := Int.mul_le_mul_of_nonneg_right h2 hB
  have e3 : (w * a + b) * A * B = a * B * (w * A) + b * A * B := by
    rw [Int.add_mul, Int.add_mul]
    congr 1
    simp only [Int.mul_assoc, Int.mul_comm, Int.mul_left_comm]
  rw [Int.mul_add, e3]
  omega
theorem share_hi {w a b A B z : Int} (hw : 0 ≤ w) (hA : 0 ≤ A) (hB : 0 ≤ B) (h1 : a * B ≤ z) (h2 : b * A ≤ z) : (w * a + b) * A * B ≤ z * (w * A + B) := by
  have e1 : a * B * (w * A) ≤ z * (w * A) := Int.mul_le_mul_of_nonneg_right h1 (Int.mul_nonneg hw hA)
  have e2 : b * A * B ≤ z * B := Int.mul_le_mul_of_nonneg_right h2 hB
  have e3 : (w * a + b) * A * B = a * B * (w * A) + b * A * B := by
    rw [Int.add_mul, Int.add_mul]
    congr 1
    simp only [Int.mul_assoc, Int.mul_comm, Int.mul_left_comm]
  rw [Int.mul_add, e3]
  omega
end G

namespace G
open PySem L2
/-! Codes that lie apart. -/
/-- all numbers that begin with the one lie ahead of those that begin with the other -/
def RiseB (c d : List Nat) : Prop := (valB c + 1) * 2 ^ d.length ≤ valB d * 2 ^ c.length
theorem rise_div : ∀ (c d : List Nat), (∀ b ∈ c, b < 2) → (∀ b ∈ d, b < 2) → RiseB c d → ∃ p x y, c = p ++ 0 :: x ∧ d = p ++ 1 :: y
  | [], d, hc, hd, h => by
    exfalso
    obtain ⟨v0, v1⟩ := valB_lt d hd
    unfold RiseB at h
    simp [valB] at h
    have : valB d = List.foldl (fun (v : Int) (b : Nat) => 2 * v + (b : Int)) 0 d := rfl
    omega
  | a :: c, [], hc, hd, h => by
    exfalso
    obtain ⟨v0, v1⟩ := valB_lt (a :: c) hc
    unfold RiseB at h
    rw [show valB [] = 0 from rfl, Int.zero_mul, List.length_nil, Int.pow_zero, Int.mul_one] at h
    omega
  | a :: c, b :: d, hc, hd, h => by
    have ha := hc a List.mem_cons_self
    have hb := hd b List.mem_cons_self
    have hc' : ∀ z ∈ c, z < 2 := fun z hz => hc z (List.mem_cons_of_mem _ hz)
    have hd' : ∀ z ∈ d, z < 2 := fun z hz => hd z (List.mem_cons_of_mem _ hz)
    obtain ⟨c0, c1⟩ := valB_lt c hc'
    obtain ⟨d0, d1⟩ := valB_lt d hd'
    have hC := ipow_pos c.length
    have hD := ipow_pos d.length
    unfold RiseB at h
    rw [valB_cons, valB_cons, List.length_cons, List.length_cons, Int.pow_succ, Int.pow_succ] at h
    have e1 : ((a : Int) * 2 ^ c.length + valB c + 1) * (2 ^ d.length * 2) = 2 * ((a : Int) * (2 ^ c.length * 2 ^ d.length) + (valB c + 1) * 2 ^ d.length) := by
      rw [Int.add_assoc, Int.add_mul]
      have f1 : (a : Int) * 2 ^ c.length * (2 ^ d.length * 2) = 2 * ((a : Int) * (2 ^ c.length * 2 ^ d.length)) := by simp only [Int.mul_assoc, Int.mul_comm, Int.mul_left_comm]
      have f2 : (valB c + 1) * (2 ^ d.length * 2) = 2 * ((valB c + 1) * 2 ^ d.length) := by simp only [Int.mul_assoc, Int.mul_comm, Int.mul_left_comm]
      omega
    have e2 : ((b : Int) * 2 ^ d.length + valB d) * (2 ^ c.length * 2) = 2 * ((b : Int) * (2 ^ c.length * 2 ^ d.length) + valB d * 2 ^ c.length) := by
      rw [Int.add_mul]
      have f1 : (b : Int) * 2 ^ d.length * (2 ^ c.length * 2) = 2 * ((b : Int) * (2 ^ c.length * 2 ^ d.length)) := by simp only [Int.mul_assoc, Int.mul_comm, Int.mul_left_comm]
      have f2 : valB d * (2 ^ c.length * 2) = 2 * (valB d * 2 ^ c.length) := by simp only [Int.mul_assoc, Int.mul_comm, Int.mul_left_comm]
      omega
    rw [e1, e2] at h
    by_cases e : a = b
    · subst e
      have h' : RiseB c d := by unfold RiseB; omega
      obtain ⟨p, x, y, rfl, rfl⟩ := rise_div c d hc' hd' h'
      exact ⟨a :: p, x, y, rfl, rfl⟩
    · have hab : (a = 0 ∧ b = 1) ∨ (a = 1 ∧ b = 0) := by omega
      rcases hab with ⟨rfl, rfl⟩ | ⟨rfl, rfl⟩
      · exact ⟨[], c, d, rfl, rfl⟩
      · exfalso
        have m1 : valB d * 2 ^ c.length ≤ 2 ^ d.length * 2 ^ c.length := Int.mul_le_mul_of_nonneg_right (by omega) (by omega)
        have m2 : 0 < (valB c + 1) * 2 ^ d.length := Int.mul_pos (by omega) (by omega)
        rw [Int.mul_comm (2 ^ d.length)] at m1
        have z0 : ((0 : Nat) : Int) * (2 ^ c.length * 2 ^ d.length) = 0 := by simp
        have z1 : ((1 : Nat) : Int) * (2 ^ c.length * 2 ^ d.length) = 2 ^ c.length * 2 ^ d.length := by simp
        omega
theorem lex_pre0 {p x y : List Nat} : (p ++ 48 :: x) < (p ++ 49 :: y) := by
  induction p with
  | nil => exact List.Lex.rel (by decide)
  | cons a p ih => exact List.Lex.cons ih
theorem rise_lt {c d : List Nat} (hc : ∀ b ∈ c, b < 2) (hd : ∀ b ∈ d, b < 2) (h : RiseB c d) : (dgs c).cps.toList < (dgs d).cps.toList := by
  obtain ⟨p, x, y, rfl, rfl⟩ := rise_div c d hc hd h
  rw [dgs_list, dgs_list, List.map_append, List.map_append, List.map_cons, List.map_cons]
  exact lex_pre0
theorem rise_not {c d : List Nat} (hc : ∀ b ∈ c, b < 2) (hd : ∀ b ∈ d, b < 2) (h : RiseB c d) : ¬ c <+: d := by
  obtain ⟨p, x, y, rfl, rfl⟩ := rise_div c d hc hd h
  intro q
  rw [List.prefix_append_right_inj] at q
  rw [List.cons_prefix_cons] at q
  exact absurd q.1 (by decide)
/-- the sum of 1 by 2, once for each digit -/
theorem rise_sum (M : Nat) : ∀ (cs : List (List Nat)), (∀ c ∈ cs, c.length ≤ M ∧ ∀ b ∈ c, b < 2) → List.Pairwise RiseB cs → (∀ c t, cs = c :: t → valB c * 2 ^ (M - c.length) + (cs.map fun c => (2 : Int) ^ (M - c.length)).sum ≤ 2 ^ M)
  | [], _, _, c, t, h => by cases h
  | [c], hc, hp, c', t, h => by
    cases h
    obtain ⟨h1, h2⟩ := hc c List.mem_cons_self
    obtain ⟨v0, v1⟩ := valB_lt c h2
    have hp := ipow_pos (M - c.length)
    simp only [List.map_cons, List.map_nil, List.sum_cons, List.sum_nil, Int.add_zero]
    have e : (2 : Int) ^ M = 2 ^ c.length * 2 ^ (M - c.length) := by rw [← Int.pow_add, show c.length + (M - c.length) = M by omega]
    have m := Int.mul_le_mul_of_nonneg_right (show valB c + 1 ≤ 2 ^ c.length by omega) (show (0 : Int) ≤ 2 ^ (M - c.length) by omega)
    rw [Int.add_mul, Int.one_mul] at m
    omega
  | c :: d :: r, hc, hp, c', t, h => by
    cases h
    obtain ⟨h1, h2⟩ := hc c List.mem_cons_self
    obtain ⟨k1, k2⟩ := hc d (List.mem_cons_of_mem _ List.mem_cons_self)
    have hcd : RiseB c d := (List.pairwise_cons.mp hp).1 d List.mem_cons_self
    have ih := rise_sum M (d :: r) (fun z hz => hc z (List.mem_cons_of_mem _ hz)) (List.pairwise_cons.mp hp).2 d r rfl
    rw [List.map_cons, List.sum_cons]
    have hM1 : (valB c + 1) * 2 ^ (M - c.length) ≤ valB d * 2 ^ (M - d.length) := by
      unfold RiseB at hcd
      have hpc := ipow_pos c.length
      have hpd := ipow_pos d.length
      have hm1 := ipow_pos (M - c.length)
      have hm2 := ipow_pos (M - d.length)
      have m := Int.mul_le_mul_of_nonneg_right (Int.mul_le_mul_of_nonneg_right hcd (show (0 : Int) ≤ 2 ^ (M - c.length) by omega)) (show (0 : Int) ≤ 2 ^ (M - d.length) by omega)
      have eD : (2 : Int) ^ d.length * 2 ^ (M - d.length) = 2 ^ M := by rw [← Int.pow_add, show d.length + (M - d.length) = M by omega]
      have eC : (2 : Int) ^ c.length * 2 ^ (M - c.length) = 2 ^ M := by rw [← Int.pow_add, show c.length + (M - c.length) = M by omega]
      have a1 : (valB c + 1) * 2 ^ d.length * 2 ^ (M - c.length) * 2 ^ (M - d.length) = (valB c + 1) * 2 ^ (M - c.length) * 2 ^ M := by rw [← eD]; simp only [Int.mul_assoc, Int.mul_comm, Int.mul_left_comm]
      have a2 : valB d * 2 ^ c.length * 2 ^ (M - c.length) * 2 ^ (M - d.length) = valB d * 2 ^ (M - d.length) * 2 ^ M := by rw [← eC]; simp only [Int.mul_assoc, Int.mul_comm, Int.mul_left_comm]
      rw [a1, a2] at m
      exact Int.le_of_mul_le_mul_right m (by have := ipow_pos M; omega)
    rw [Int.add_mul, Int.one_mul] at hM1
    omega
/-! in the order of rows -/
theorem rsgn_mono {R k : Nat} {y : Rnd} {sg mo : Int} {v v' : Int} {L : Nat} (h : RndOk R k y sg mo) (h1 : y.lo * 2 ^ L ≤ v * 2 ^ (R + y.mn)) (h2 : ¬ OutR R y v' L) (hv : v ≤ v') : rsgn R y v L ≤ rsgn R y v' L := by
  have hN := ipow_pos (R + y.mn)
  have m1 := Int.mul_le_mul_of_nonneg_right hv (show (0 : Int) ≤ 2 ^ (R + y.mn) by omega)
  obtain ⟨a1, a2, _⟩ := rsgnQ_ok h h1 (fun q => h2 (by unfold OutR at q ⊢; omega))
  obtain ⟨b1, b2, _⟩ := rsgnQ_ok h (Int.le_trans h1 m1) h2
  obtain ⟨p4, _, _⟩ := part_pos h
  refine signF_mono h.ok.good.1 a1 b2 ?_
  unfold rsgnQ
  have hd := ipow_pos (L - (R + y.mn))
  have hd2 := ipow_pos (R + y.mn - L)
  refine Int.ediv_le_ediv (Int.mul_pos (by omega) (by omega)) ?_
  unfold rfar
  have := Int.mul_le_mul_of_nonneg_right hv (show (0 : Int) ≤ 2 ^ (R + y.mn - L) by omega)
  omega
theorem rnd_order {R : Nat} {m : Mdl} {r r' : List Nat} {v v' : Int} {L : Nat} (mok : MOk 3 m) (r4 : 4 ≤ R) (r20 : R ≤ 20) (hm : 8 * mst m ≤ 2 ^ R) (hr : ∀ s ∈ r, (s : Int) < nsg m) (hr' : ∀ s ∈ r', (s : Int) < nsg m) (hl : r.length = r'.length)
    (hi : InR R (rnds R (rnd0 R m) r) v L) (hi' : InR R (rnds R (rnd0 R m) r') v' L) (hv : v' ≤ v) : ∀ j, j ≤ r.length → ltR (r.take j) (r'.take j) = false
  | 0, _ => by simp [ltR]
  | j + 1, h => by
    have ih := rnd_order mok r4 r20 hm hr hr' hl hi hi' hv j (by omega)
    have hj : j < r.length := h
    have hj' : j < r'.length := by omega
    rw [take_succ hj, take_succ hj']
    obtain ⟨i1, i2⟩ := ltR_snoc (r.take j) (r'.take j) r[j] r'[j] (by rw [List.length_take, List.length_take]; omega)
    by_cases e : r.take j = r'.take j
    · rw [i2 e, decide_eq_false_iff_not, Nat.not_lt]
      obtain ⟨o1, s1⟩ := sgn_at mok r4 r20 hm hr hi hj
      obtain ⟨o2, s2⟩ := sgn_at mok r4 r20 hm hr' hi' hj'
      have a' := inr_at mok r4 r20 hm hr' hi' (show j ≤ r'.length by omega)
      rw [← e] at o2 s2 a'
      rw [← s1, ← s2]
      exact rsgn_mono (rnds_take_ok mok r4 r20 hm hr j (by omega)) a'.1 o1 hv
    · rw [i1 e]; exact ih
theorem ones_val (c : List Nat) (n : Nat) : valB (c ++ List.replicate n 1) = (valB c + 1) * 2 ^ n - 1 := by
  rw [valB_app, List.length_replicate, valB_ones, Int.add_mul, Int.one_mul]; omega
theorem zeros_val (c : List Nat) (n : Nat) : valB (c ++ List.replicate n 0) = valB c * 2 ^ n := by rw [valB_app, List.length_replicate, valB_zeros, Int.add_zero]
theorem rep1 (n : Nat) : ∀ b ∈ List.replicate n 1, b < 2 := fun b hb => by rw [List.eq_of_mem_replicate hb]; decide
theorem rep0 (n : Nat) : ∀ b ∈ List.replicate n 0, b < 2 := fun b hb => by rw [List.eq_of_mem_replicate hb]; decide
theorem w_rise {R : Nat} {m : Mdl} {r r' : List Nat} (mok : MOk 3 m) (r4 : 4 ≤ R) (r20 : R ≤ 20) (hm : 8 * mst m ≤ 2 ^ R) (hr : ∀ s ∈ r, (s : Int) < nsg m) (hr' : ∀ s ∈ r', (s : Int) < nsg m) (h60 : r.length ≤ 60) (hl : r.length = r'.length) (h : ltR r r' = true) :
    RiseB (wbits R (rnds R (rnd0 R m) r)) (wbits R (rnds R (rnd0 R m) r')) := by
  have nk := (RndOk.begun mok r4 r20 hm).rnds r hr
  have nk' := (RndOk.begun mok r4 r20 hm).rnds r' hr'
  have a := (wbits_all nk (by omega)).2
  have a' := (wbits_all nk' (by omega)).2
  generalize wbits R (rnds R (rnd0 R m) r) = c at *
  generalize wbits R (rnds R (rnd0 R m) r') = d at *
  rcases Int.lt_or_le (valB d * 2 ^ c.length) ((valB c + 1) * 2 ^ d.length) with q | q
  · exfalso
    have b := (allr_app (rep1 d.length) a).inr
    have b' := (allr_app (rep0 c.length) a').inr
    rw [ones_val, List.length_append, List.length_replicate] at b
    rw [zeros_val, List.length_append, List.length_replicate, Nat.add_comm] at b'
    have := rnd_order mok r4 r20 hm hr hr' hl b b' (by omega) r.length (Nat.le_refl _)
    rw [List.take_length, hl, List.take_length, h] at this
    cases this
  · exact q
theorem c_rise {m : Mdl} {r r' : List Nat} (mok : MOk 3 m) (hr : ∀ s ∈ r, (s : Int) < nsg m) (hr' : ∀ s ∈ r', (s : Int) < nsg m) (h60 : r.length ≤ 60) (hl : r.length = r'.length) (h : ltR r r' = true) :
    RiseB (codeB (nars (nar0 m) r)) (codeB (nars (nar0 m) r')) := by
  have nk := (NarOk.begun mok).nars r hr
  have nk' := (NarOk.begun mok).nars r' hr'
  have b := code_ins nk (by omega) (rep1 (codeB (nars (nar0 m) r')).length)
  have b' := code_ins nk' (by omega) (rep0 (codeB (nars (nar0 m) r)).length)
  have cb : ∀ b ∈ codeB (nars (nar0 m) r), b < 2 := bitsN_lt _ _
  have db : ∀ b ∈ codeB (nars (nar0 m) r'), b < 2 := bitsN_lt _ _
  generalize codeB (nars (nar0 m) r) = c at *
  generalize codeB (nars (nar0 m) r') = d at *
  rcases Int.lt_or_le (valB d * 2 ^ c.length) ((valB c + 1) * 2 ^ d.length) with q | q
  · exfalso
    rw [ones_val, List.length_append, List.length_replicate] at b
    rw [zeros_val, List.length_append, List.length_replicate, Nat.add_comm] at b'
    obtain ⟨c0, c1⟩ := valB_lt c cb
    obtain ⟨d0, d1⟩ := valB_lt d db
    have hD := ipow_pos d.length
    have hC := ipow_pos c.length
    have m1 : (valB c + 1) * 2 ^ d.length ≤ 2 ^ c.length * 2 ^ d.length := Int.mul_le_mul_of_nonneg_right (by omega) (by omega)
    have m0 : 0 ≤ valB d * 2 ^ c.length := Int.mul_nonneg d0 (by omega)
    rw [← Int.pow_add] at m1
    have t1 := tld_row mok hr b r.length (Nat.le_refl _)
    have t2 := tld_row mok hr' b' r.length (by omega)
    have := tld_mono (n := valB d * 2 ^ c.length) (n' := (valB c + 1) * 2 ^ d.length - 1) (D := c.length + d.length) mok m0 (by omega) (by omega) r.length
    rw [t1, t2, List.take_length, hl, List.take_length, h] at this
    cases this
  · exact q
theorem rows_rise (sg : Nat) : ∀ k, List.Pairwise (fun a b => ltR a b = true) (rowsN sg k)
  | 0 => by simp [rowsN]
  | k + 1 => by
    have ih := rows_rise sg k
    show List.Pairwise _ ((rowsN sg k).flatMap fun r => (List.range sg).map fun s => r ++ [s])
    rw [List.pairwise_flatMap]
    refine ⟨fun r hr => ?_, ?_⟩
    · rw [List.pairwise_map]
      exact List.pairwise_lt_range.imp fun {s t} hst => by
        rw [(ltR_snoc r r s t rfl).2 rfl]; exact decide_eq_true hst
    · refine List.Pairwise.imp_of_mem (fun {r q} hr hq hrq x hx y hy => ?_) ih
      obtain ⟨s, _, rfl⟩ := List.mem_map.mp hx
      obtain ⟨t, _, rfl⟩ := List.mem_map.mp hy
      rw [(ltR_snoc r q s t (by rw [(rows_mem k r hr).1, (rows_mem k q hq).1])).1 (fun e => by rw [e, ltR_irr] at hrq; cases hrq)]
      exact hrq
theorem ltR_total : ∀ (as bs : List Nat), as.length = bs.length → as ≠ bs → ltR as bs = false → ltR bs as = true
  | [], [], _, h, _ => absurd rfl h
  | [], _ :: _, h, _, _ => by cases h
  | _ :: _, [], h, _, _ => by cases h
  | a :: as, b :: bs, hl, hne, h => by
    simp only [ltR] at h ⊢
    by_cases e : a = b
    · subst e
      rw [if_pos rfl] at h ⊢
      exact ltR_total as bs (by simpa using hl) (fun q => hne (by rw [q])) h
    · rw [if_neg e] at h
      rw [if_neg (fun q => e q.symm)]
      have := of_decide_eq_false h
      exact decide_eq_true (by omega)
/-! reading -/
section
open PySem PySem.Spec PyProof.Rows
def rStarts : V → List V → Hp → VK → Prop := fun x xs H Q => ∃ a b, x = .str a ∧ xs = [.str b] ∧ Q (.bl (Txt.startswith a b)) H
def tStarts (to te : TE) : TE := tM1 rStarts to te
theorem pe_starts {X : Cx} {o e : Expr} {to te : TE} {apos pos : Pos} (ho : PE X o to) (he : PE X e te) (hs : starEach [e] X.env = [(false, eval e X.env)] := by rfl) (hbase : attributeBase o "startswith" X.env (eval o X.env) = eval o X.env := by rfl) (hline : (apos.endLine == pos.line) = true := by rfl) :
    PE X (.Call (.Attribute o "startswith" apos) [e] [] pos) (tStarts to te) := pe_m1 F.slot_str_startswith F.type_str_startswith mt_startswith ho he hs hbase hline
end
def rGeS : R2 := fun x y H Q => ∃ i j, x = .str i ∧ y = .str j ∧ Q (.bl (!decide (i.cps.toList < j.cps.toList))) H
theorem op_geS {X : Cx} : OpR X (compareOp .GtE) rGeS := op_ge_str
def sstK (te : TE) (σ : L2.St) (Q : VK) (x : V) (H1 : Hp) : Prop := (∃ a, x = .str a) ∧ te σ H1 fun y H2 => rStarts x [y] H2 Q
section
variable {K : PySem.W.Frag} {σ : L2.St} {H : Hp} {Q : VK} {E : XK} {L F : List SA} {te to : TE} {p : Addr} {xs : List V}
theorem s_starts (h : to σ H fun x H1 => sstK te σ Q x H1) : tStarts to te σ H Q := h
theorem s_sstK {a : Str} (h : te σ H fun y H2 => rStarts (.str a) [y] H2 Q) : sstK te σ Q (.str a) H := ⟨⟨a, rfl⟩, h⟩
theorem s_startsD {c d : List Nat} (h : Q (.bl (decide (c <+: d))) H) : rStarts (.str (dgs d)) [.str (dgs c)] H Q := by
  refine ⟨_, _, rfl, rfl, ?_⟩
  have e : Txt.startswith (dgs d) (dgs c) = decide (c <+: d) := by
    unfold Txt.startswith
    rw [StrLaws.subAt_eq, dgs_list, dgs_list, dgs_len, dgs_len, List.drop_zero, ← List.map_take]
    by_cases h : c <+: d
    · have hl := h.length_le
      rw [decide_eq_true h, decide_eq_true (show 0 + c.length ≤ d.length by omega), List.prefix_iff_eq_take.mp h |>.symm]
      simp
    · rw [decide_eq_false h, Bool.and_eq_false_iff]
      refine .inr ?_
      rw [beq_eq_false_iff_ne]
      intro q
      refine h (List.prefix_iff_eq_take.mpr ?_)
      have := congrArg (List.map fun x => x - 48) q
      rw [List.map_map, List.map_map] at this
      have f : ((fun x => x - 48) ∘ fun x => 48 + x) = (id : Nat → Nat) := by funext x; simp
      rw [f, List.map_id, List.map_id] at this
      exact this.symm
  rw [e]; exact h
theorem s_geD {c d : List Nat} (hc : ∀ b ∈ c, b < 2) (hd : ∀ b ∈ d, b < 2) (hr : RiseB c d) (h : Q (.bl false) H) : rGeS (.str (dgs c)) (.str (dgs d)) H Q := by
  refine ⟨_, _, rfl, rfl, ?_⟩
  rw [decide_eq_true (rise_lt hc hd hr)]; exact h
theorem cut_takeV (xs : List V) (n : Nat) : cutV xs none (some (n : Int)) = xs.take n := by
  unfold cutV
  rw [HT.sIx_none, HT.sIx_nat, List.drop_zero, Nat.sub_zero, ← List.take_eq_take_min]
theorem s_slTakeV (n : Nat) {i : Int} (e : i = (n : Int)) [hs : HS H L] [m : RdL K L p xs] (h : ∀ q H', HS H' (pt q (.lst (xs.take n)) :: L) → Q (.ref q) H') : rSlG K (.ref p) none (some i) H Q := by
  refine s_slL fun q H' hs => ?_
  rw [e, cut_takeV] at hs
  exact h q H' hs
end
structure Apt (cs : List (List Nat)) : Prop where
  n1 : 1 ≤ cs.length
  n2 : cs.length ≤ 64
  ok : ∀ c ∈ cs, c.length ≤ 1600 ∧ ∀ b ∈ c, b < 2
  rise : List.Pairwise RiseB cs
def spApart (K : PySem.W.Frag) : Sp := fun vs H Q _ => ∃ p cs L, vs = [.ref p] ∧ Apt cs ∧ HS H (pt p (.lst (List.map (fun c => V.str (dgs c)) cs)) :: L) ∧ ∀ H', HS H' (pt p (.lst (List.map (fun c => V.str (dgs c)) cs)) :: L) → Q (.bl true) H'
theorem c_apart {K : PySem.W.Frag} {H : Hp} {Q : VK} {E : XK} {L F : List SA} {p : Addr} (cs : List (List Nat)) (a : Apt cs) [hs : HS H L] [o : Own L p (pt p (.lst (List.map (fun c => V.str (dgs c)) cs))) F] (h : ∀ H', HS H' (pt p (.lst (List.map (fun c => V.str (dgs c)) cs)) :: F) → Q (.bl true) H') : spApart K [.ref p] H Q E := ⟨p, cs, F, rfl, a, hs.pk o.pk, h⟩
theorem rdl_all {K : PySem.W.Frag} {L F : List SA} {zs : List (Addr × List Nat)} {i : Nat} {q : Addr} {r : List Nat} [pk : PickI L (allS rwS zs) F] (h : zs[i]? = some (q, r)) : RdL K L q (iv (r.map Int.ofNat)) := ⟨fun hs => .inl (.inl (HS.get (HS.allS_in zs h (hs.pk pk.pk))))⟩
end G

/-! A lambda with a default that it does not read, handed to a def. -/
namespace G
open PySem PySem.Spec PySem.Calls PyProof.Rows L2 LamX
/-- the names of a lambda whose one parameter is a0 -/
structure LamSd (sc scope : Scope) (a0 : Str) : Prop where
  kind : scope.kind = .function
  co : scope.isCoroutine = false
  gen : scope.isGenerator = false
  nocell : ∀ y ∈ scope.names, y.2 ≠ .cell
  own : ∀ y ∈ scope.names, y.2 = .local → y.1 = a0
  free : ∀ y ∈ scope.names, y.2 = .free → sc.names.lookup y.1 = some .cell ∨ sc.names.lookup y.1 = some .free
  par : scope.names.lookup a0 = some .local
theorem LamSd.has {X : Cx} {scope : Scope} {a0 : Str} (L : LamSd X.env.scope scope a0) (ok : X.Ok) : ∀ y ∈ scope.names, y.2 = .free → ∃ c, X.env.cells.lookup y.1 = some c := fun y hy e => by
  rcases L.free y hy e with k | k
  · exact ok.has _ (.inl k)
  · exact ok.has _ (.inr k)
section
variable {X : Cx} {pins : List (Addr × Obj)} {σ : L2.St} {H HZ : Hp} {s s1 : Shared}
theorem lam_makeD {T : List (Addr × Str)} {c P : Addr} {params : Arguments} {body de : Expr} {dx : V} {scope : Scope} {pos : Pos} {Q : Value → Shared → Prop} (I : Inv X pins σ H s) (TB : TabB X.base X.mg c P) (hcode : X.env.code = .ref c)
    (hm : (P, X.env.qual ++ "<lambda>") ∈ T) (hu : ∀ p ∈ T, p.1 = P → p.2 = X.env.qual ++ "<lambda>") (hT : Tabs T H) (hd : params.defaults = [de]) (hk0 : params.kw_defaults = []) (hde : PE X de (tC dx)) (hfree : ∀ y ∈ scope.names, y.2 = .free → ∃ c, X.env.cells.lookup y.1 = some c)
    (h : ∀ (f c' t0 : Addr) (u pm doc ctv : Value) (H1 : Hp) (s' : Shared), Inv X pins σ H1 s' → ExtN H H1 → Tabs T H1 →
      s'.heap.get? f = some (PySem.W.kdv_obj "<lambda>" (X.env.qual ++ "<lambda>") params (.expr body) scope (cloFrom X.env.cells scope.names []) (.ref t0) doc pm c' ctv) → H1 f = none → f ∉ frs X.stack →
      s'.heap.get? t0 = some (PySem.W.kdv_tup [u]) → H1 t0 = none → t0 ∉ frs X.stack → H1 c' = some (CodeO c' (X.env.qual ++ "<lambda>")) → Q (.ref f) s') :
    wpAny (model X.prog X.w) X.A (eval (.Lambda params body scope pos) X.env) Q X.xe s := by
  refine PySem.W.kdv_lam (by rw [hd]; rfl) hk0 ?_
  rw [hd]
  refine PySem.W.kdv_all1 (thn (hde.run pins s σ H (fun v H1 => v = dx ∧ H1 = H) I ⟨rfl, rfl⟩) fun u s1 ⟨v, H1, I1, r1, e1, e2⟩ => ?_)
  subst e1 e2
  refine PySem.W.kdv_all0 ?_
  rw [makeFunction_eq]
  simp only [List.zip_nil_right, List.filterMap_nil, List.isEmpty_nil, if_true, pure_bind, List.isEmpty_cons, Bool.false_eq_true, if_false]
  refine wpAny_bind (wpAny_newTextTuple ?_)
  have I2 : Inv X pins σ H1 { s1 with heap := s1.heap.push (PySem.W.kdv_tup [u]) } := I1.kept fun b o e => Heap.get?_push_of_some _ e
  have t0n : H1 s1.heap.objs.size = none := I1.hok.fresh (Nat.le_refl _)
  have t0h : (s1.heap.push (PySem.W.kdv_tup [u])).get? s1.heap.objs.size = some (PySem.W.kdv_tup [u]) := Heap.get?_push_size _ rfl
  have t0s : s1.heap.objs.size < (s1.heap.push (PySem.W.kdv_tup [u])).objs.size := by rw [Heap.size_push]; omega
  have nofr0 : ∀ f, s1.heap.objs.size ≤ f → f ∉ frs X.stack := fun f hf z => by
    rcases List.mem_cons.mp (I1.stkSub _ z) with e | e
    · have h1 := I1.lt
      rw [← e] at h1
      exact Nat.lt_irrefl _ (Nat.lt_of_lt_of_le h1 hf)
    · exact I1.nofs hf e
  have t0f := nofr0 _ (Nat.le_refl _)
  obtain ⟨ps, hP, ht, ha⟩ := hT _ hm
  have hPs : s1.heap.get? P = some { cls := .none, data := .fields ps } := I1.hok P _ hP
  have t0P : s1.heap.objs.size ≠ P := Nat.ne_of_gt (Heap.lt_size hPs)
  clear hde I1
  generalize hs2 : ({ s1 with heap := s1.heap.push (PySem.W.kdv_tup [u]) } : Shared) = s2 at *
  have eh : s1.heap.push (PySem.W.kdv_tup [u]) = s2.heap := by rw [← hs2]
  rw [eh] at t0h t0s
  generalize s1.heap.objs.size = t0 at *
  have bP : s2.heap.BuiltinsAt X.mg P := TB.bm.keeps I2.bk
  have hP' : s2.heap.get? P = some { cls := .none, data := .fields ps } := I2.hok P _ hP
  cases hc : codeAmong pos ps.toList with
  | none =>
    refine PySem.W.kdv_makeTail (mg := X.mg) (c := c) (P := P) (ps := ps) (closure_ok hfree) I2.ok.glob (I2.mod.glob.keeps I2.bk) hcode (TB.code.keeps I2.bk) hP' ht hc TB.gP bP fun c' ctv doc h' tk hx hge hlt hrec htb => ?_
    obtain ⟨c2, oc, vs, t, e2, hoc, hd, hv⟩ := hrec
    cases e2
    have hsz : s2.heap.objs.size ≤ h'.objs.size := Nat.le_trans hge (Nat.le_of_lt hlt)
    have nC : H1 c' = none := I2.hok.fresh hge
    have I3 := inv_table (t' := tk) (more := #[rawInt pos.line, rawInt pos.col, .ref c']) (h' := h'.push (PySem.W.kdv_obj "<lambda>" (X.env.qual ++ "<lambda>") params (.expr body) scope (cloFrom X.env.cells scope.names []) (.ref t0) doc ((X.mg "__name__").getD .none) c' ctv)) I2 hP
      (fun b o hb e => Heap.get?_push_of_some _ (hx b o hb e)) (Heap.get?_push_of_some _ htb) hge ⟨oc, vs, t, Heap.get?_push_of_some _ hoc, hd, hv⟩
    have hE : ExtN H1 (upd (upd H1 P (.tbl (ps ++ #[rawInt pos.line, rawInt pos.col, .ref c']))) c' (CodeO c' (X.env.qual ++ "<lambda>"))) := fun b o e n => by
      rw [upd_ne (ne_of_none e nC), upd_ne (fun z => n ps (Option.some.inj (e.symm.trans (by rw [z]; exact hP))))]
      exact e
    have eL : (ps ++ #[rawInt pos.line, rawInt pos.col, .ref c']).toList = ps.toList ++ [rawInt pos.line, rawInt pos.col, .ref c'] := by simp
    have ft : t0 < h'.objs.size := Nat.lt_of_lt_of_le t0s hsz
    refine h h'.objs.size c' t0 u ((X.mg "__name__").getD .none) doc ctv _ _ I3 hE (fun p hp => ?_) (Heap.get?_push_size _ rfl) ?_ (nofr0 _ (Nat.le_of_lt ft)) (Heap.get?_push_of_some _ (hx _ _ t0P t0h)) ?_ t0f upd_same
    · by_cases hb : p.1 = P
      · rw [hu p hp hb, hb]
        refine ⟨_, by rw [upd_ne (ne_of_none hP nC), upd_same], by rw [eL]; exact PySem.TriplesOk_snoc _ _ _ _ ht, fun p' cv hcv => ?_⟩
        rw [eL] at hcv
        rcases among_app _ ht hcv with z | z
        · obtain ⟨c0, e1, e2⟩ := ha p' cv z
          exact ⟨c0, e1, hE _ _ e2 codeO_ne⟩
        · exact ⟨c', z, upd_same⟩
      · obtain ⟨ps', a1, a2, a3⟩ := hT p hp
        refine ⟨ps', by rw [upd_ne (ne_of_none a1 nC), upd_ne hb]; exact a1, a2, fun p' cv hcv => ?_⟩
        obtain ⟨c0, e1, e2⟩ := a3 p' cv hcv
        exact ⟨c0, e1, hE _ _ e2 codeO_ne⟩
    · have n1 : h'.objs.size ≠ c' := Nat.ne_of_gt hlt
      have n2 : h'.objs.size ≠ P := Nat.ne_of_gt (Nat.lt_of_lt_of_le (Heap.lt_size hP') hsz)
      rw [upd_ne n1, upd_ne n2]
      exact I2.hok.fresh hsz
    · rw [upd_ne (Nat.ne_of_lt (Nat.lt_of_lt_of_le t0s hge)), upd_ne t0P]
      exact t0n
  | some cv =>
    obtain ⟨c', e, hco⟩ := ha pos cv hc
    subst e
    refine PySem.W.kdv_makeTailHit (mg := X.mg) (c := c) (P := P) (ps := ps) (closure_ok hfree) I2.ok.glob (I2.mod.glob.keeps I2.bk) hcode (TB.code.keeps I2.bk) hP' ht hc bP fun ctv doc h' tk hx hsz => ?_
    have I3 : Inv X pins σ H1 { s2 with heap := h'.push (PySem.W.kdv_obj "<lambda>" (X.env.qual ++ "<lambda>") params (.expr body) scope (cloFrom X.env.cells scope.names []) (.ref t0) doc ((X.mg "__name__").getD .none) c' ctv), toks := tk } := I2.kept fun b o e => Heap.get?_push_of_some _ (hx b o e)
    have ft : t0 < h'.objs.size := Nat.lt_of_lt_of_le t0s hsz
    exact h h'.objs.size c' t0 u ((X.mg "__name__").getD .none) doc ctv H1 _ I3 (ExtN.refl H1) hT (Heap.get?_push_size _ rfl) (I2.hok.fresh hsz) (nofr0 _ (Nat.le_of_lt ft)) (Heap.get?_push_of_some _ (hx _ _ t0h)) t0n t0f hco
theorem lam_startD {A : Around} {outer : List Env} {E : XK} {scope : Scope} {f c' : Addr} {a0 : Str} {h₁ : Heap} {tk : Nat} {mm : Str → Option Value} (I : Inv X pins σ H s) (L : LamSd X.env.scope scope a0) (ha0 : a0 ∉ X.N) (e0 : Env0 X.prog X.w X.K X.mg X.base A outer s1 HZ) (hd : A.handled = none)
    (un : Un (frs X.stack) [] H HZ s.heap s1.heap) (hns : h₁.Ns s1.heap.objs.size mm) (kp : ∀ b o, s1.heap.get? b = some o → h₁.get? b = some o) :
    Inv (lamCx X A outer s1 HZ E scope f c') [] σ HZ { s1 with heap := h₁, toks := tk } := by
  have hfree := L.has I.ok
  have cm : ∀ {y c}, (cloFrom X.env.cells scope.names []).lookup y = some c → X.env.cells.lookup y = some c := fun {y c} e => by
    rcases cloFrom_mem (PySem.mem_of_lookup e) with hm | ⟨h1, h2⟩
    · cases hm
    · obtain ⟨c1, hc⟩ := hfree _ h1 rfl
      have hc : X.env.cells.lookup y = some c1 := hc
      have e2 : c = c1 := by
        rw [h2, hc] <;> rfl
      rw [e2]
      exact hc
  have look : ∀ {y}, scope.names.lookup y = some .free → ∃ c, (cloFrom X.env.cells scope.names []).lookup y = some c := fun {y} hl => by
    have hy : (y, NameKind.free) ∈ scope.names := PySem.mem_of_lookup hl
    exact mem_lookup (cloFrom_has (cells := X.env.cells) (acc := []) hy)
  have cellK : ∀ {c : Addr} {v : Option Value}, H c = none → s.heap.IsCell c v → h₁.IsCell c v := fun {c v} n ⟨o, ho, hd⟩ => by
    obtain ⟨sl, q⟩ := un.any ho n (by simp)
    exact ⟨_, kp _ _ q, hd⟩
  have noA : ∀ b : Addr, b ∉ (lamCx X A outer s1 HZ E scope f c').ex := fun b z => absurd (show b ∈ ([] : List Addr) from z) (by simp)
  refine ⟨⟨e0.mod, L.kind, rfl, rfl, Nat.le_refl _, fun y z c e1 e2 => I.ok.inj y z c (cm e1) (cm e2), fun y hy => ?_, fun y c z _ => ?_, fun _ => hd, Around.frames_deeper e0.frames, .inr ⟨rfl, rfl⟩, fun b z => absurd z (noA b), e0.bs, e0.bsz, fun b _ _ => noA b,
      fun b z => absurd z (noA b), e0.funs, e0.frf⟩,
    rfl, e0.bare, Un.kept kp, ⟨_, hns, fun i y v e1 e2 e3 => ?_⟩, fun y c e => ?_, e0.hok.fresh (Nat.le_refl _), fun y c e => ?_, fun q hq => absurd (show q ∈ ([] : List (Addr × Obj)) ++ [] from hq) (by simp), e0.hok.kept kp, I.len⟩
  · have hy : scope.names.lookup y = some .cell ∨ scope.names.lookup y = some .free := hy
    rcases hy with hy | hy
    · exact absurd rfl (L.nocell _ (PySem.mem_of_lookup hy))
    · exact look hy
  · have z : false = true := z
    cases z
  · have e3 : Vis scope y := e3
    rcases e3 with k | k | k
    · have hy := L.own _ (PySem.mem_of_lookup k) rfl
      have hy : y = a0 := hy
      rw [hy] at e1
      exact absurd (List.mem_of_getElem? e1) ha0
    · exact absurd rfl (L.nocell _ (PySem.mem_of_lookup k))
    · obtain ⟨m, hn, hl⟩ := I.loc
      have hvis : Vis X.env.scope y := (L.free _ (PySem.mem_of_lookup k) rfl).elim (fun k => .inr (.inl k)) (fun k => .inr (.inr k))
      obtain ⟨w', r, q⟩ := hl i y v e1 e2 hvis
      obtain ⟨c2, h2⟩ := look k
      refine ⟨w', r, .inr ⟨.inr k, c2, h2, ?_⟩⟩
      have c1 := cm h2
      rcases q with ⟨k', _⟩ | ⟨_, c3, e', z⟩
      · have k' : X.env.scope.names.lookup y = some .local := k'
        rcases L.free _ (PySem.mem_of_lookup k) rfl with k2 | k2 <;> rw [show X.env.scope.names.lookup y = _ from k2] at k' <;> cases k'
      · rw [c1] at e'
        cases e'
        exact cellK (I.freeC y _ c1) z
  · obtain ⟨w', z⟩ := I.cell y c (cm e)
    exact ⟨w', cellK (I.freeC y c (cm e)) z⟩
  · obtain ⟨v, o, ho, hd⟩ := I.cell y c (cm e)
    exact un.free c o ho (I.freeC y c (cm e)) (by simp)
theorem pe_actD {CXg : CXT} {Eg : XK} {Ng : List Str} {qg : Str} {sg : Scope} {g f c' t0 : Addr} {cdg pm doc ctv u : Value} {params : Arguments} {body : Expr} {scope : Scope} {k i : Nat} {a a0 : Str} {pn : List (Addr × Obj)} {xe : Value → Shared → Prop} {W : WX} {E : XK} {tb : TE} {p1 p2 : Pos}
    (I : Inv X pins σ H s) (L : LamSd X.env.scope scope a0) (ha0 : a0 ∉ X.N) (hf : s.heap.get? f = some (PySem.W.kdv_obj "<lambda>" (X.env.qual ++ "<lambda>") params (.expr body) scope (cloFrom X.env.cells scope.names []) (.ref t0) doc pm c' ctv)) (hfn : H f = none) (hfr : f ∉ frs X.stack)
    (ht0 : s.heap.get? t0 = some (PySem.W.kdv_tup [u])) (htn : H t0 = none) (htr : t0 ∉ frs X.stack)
    (hbind : ∃ kk, bindArgs (PySem.W.kdv_fn "<lambda>" (X.env.qual ++ "<lambda>") params (.expr body) scope (cloFrom X.env.cells scope.names []) (.ref t0) doc pm (.ref c') ctv) ⟨[], []⟩ = seqItems? (.ref t0) >>= kk ∧ kk (some #[u]) = pure [(a0, u)])
    (tk : Takes ((cxOf CXg X.prog X.w X.K X.mg X.base Ng qg sg g cdg X.A X.stack s H Eg).tr pn xe) W) (hW : ∀ cls d σ' H', E cls d H' → W cls d σ' H') (hr : Room (k + 1) (X.A.deeper (envOfC qg sg s.heap.objs.size g cdg)))
    (hbody : ∀ (A : Around) (outer : List Env) (s : Shared) (H : Hp), Room k (A.deeper (lamEnv X scope s.heap.objs.size f c')) → PE (lamCx X A outer s H E scope f c') body tb)
    (hN : Ng[i]? = some a) (hv : Vis sg a) (hd : (a == ("__debug__" : Str)) = false := by decide) (hcd : (a == ("__classdict__" : Str)) = false := by decide) :
    PE ((cxOf CXg X.prog X.w X.K X.mg X.base Ng qg sg g cdg X.A X.stack s H Eg).tr pn xe) (.Call (.Name a p1) [] [] p2)
      (fun σZ HZ Q => σZ[i]? = some (some (.ref f)) ∧ HZ c' = some (CodeO c' (X.env.qual ++ "<lambda>")) ∧ tb σ HZ Q) := by
  refine ⟨fun pinsZ sZ σZ HZ Q IZ h => ?_⟩
  obtain ⟨hs, hc, ht⟩ := h
  refine wpAny_Call_Name_kw (thn ((pe_var (pos := p1) (i := i) hN hv hd hcd).run pinsZ sZ σZ HZ (fun v H1 => v = .ref f ∧ H1 = HZ) IZ ⟨.ref f, hs, rfl, rfl⟩) fun u1 s1 ⟨v, H1, I1, r1, q1⟩ => ?_)
  obtain ⟨ev, eH⟩ := q1
  subst ev
  rw [eH] at I1
  obtain rfl : u1 = Value.ref f := r1
  have of1 : s1.heap.get? f = some (PySem.W.kdv_obj "<lambda>" (X.env.qual ++ "<lambda>") params (.expr body) scope (cloFrom X.env.cells scope.names []) (.ref t0) doc pm c' ctv) := I1.base.keep f _ hf hfn hfr (fun z => nomatch (show f ∈ ([] : List Addr) from z))
  have ot1 : s1.heap.get? t0 = some (PySem.W.kdv_tup [u]) := I1.base.keep t0 _ ht0 htn htr (fun z => nomatch (show t0 ∈ ([] : List Addr) from z))
  refine PySem.W.callWith_F0 ⟨_, _, _, _, of1⟩ ?_
  have un : Un (frs X.stack) [] H HZ s.heap s1.heap := I1.base
  obtain ⟨⟨oc, vs, t, hoc, hdc, hvc⟩, _, _⟩ := I1.hok c' _ hc
  obtain ⟨kk, b1, b2⟩ := hbind
  have bt : BindsTo s1 (PySem.W.kdv_fn "<lambda>" (X.env.qual ++ "<lambda>") params (.expr body) scope (cloFrom X.env.cells scope.names []) (.ref t0) doc pm (.ref c') ctv) ⟨[], []⟩ [(a0, u)] := BindsTo.of_defaults rfl ot1 rfl b1 b2
  have rc : codeAny (model X.prog X.w) (X.A.deeper (envOfC qg sg s.heap.objs.size g cdg)) (.call (.ref f) ⟨[], []⟩) (CR (L2.CX X.prog X.w) (envOfC qg sg s.heap.objs.size g cdg :: X.stack) X.prog X.w HZ s1 Q E) s1 := by
    refine PySem.W.kla_callFunE hr.depth of1 rfl L.co L.gen rfl ⟨c', oc, vs, t, rfl, hoc, hdc, hvc⟩ (bt _ _ _ _ ?_)
    refine wpAny_newFunctionEnv (fun y hy => L.nocell y hy) (fun y hy => by rw [List.mem_singleton.mp hy]; exact L.par) (fun h₁ hns hsb => ⟨I1.nolimit.fresh _ hsb, ?_⟩) L.kind
    show codeAny _ _ (.expr body (lamEnv X scope s1.heap.objs.size f c')) _ _
    have kp : ∀ b o, s1.heap.get? b = some o → h₁.get? b = some o := fun b o e => hsb.extBut b o (Nat.ne_of_lt (Heap.lt_size e)) (Heap.get?_push_of_some _ e)
    have J : Inv (lamCx X (X.A.deeper (envOfC qg sg s.heap.objs.size g cdg)) (envOfC qg sg s.heap.objs.size g cdg :: X.stack) s1 HZ E scope f c') [] σ HZ { s1 with heap := h₁, toks := s1.toks + [(a0, u)].length } :=
      lam_startD I L ha0 I1.env0 hr.hd un hns kp
    refine PySem.W.kla_codeExpr (wpAny_mono ((hbody _ _ s1 HZ (hr.deeper _)).run [] _ _ HZ Q J ht) (fun v s' hq => ?_) fun e s' hq => hq)
    obtain ⟨w', H', J', rv, q⟩ := hq
    exact ⟨w', H', J'.os, J'.bare, J'.base, J'.hok, rv, q⟩
  have hx : Passes (L2.CX X.prog X.w) ((cxOf CXg X.prog X.w X.K X.mg X.base Ng qg sg g cdg X.A X.stack s H Eg).tr pn xe) E := passes_call tk hW
  refine wpAny_call (codeAny_mono rc fun r s' hq => ?_)
  cases r with
  | error e => exact hx pinsZ σZ HZ s1 e s' I1 hq
  | ok fl =>
    cases fl with
    | ret u => exact I1.after hq
    | next => exact False.elim hq
    | brk => exact False.elim hq
    | cont => exact False.elim hq
/-- x(lambda a0=..: body) -/
theorem pe_lamcallD {T : List (Addr × Str)} {TT : (XK → Hp → VK → Prop) → Hp → VK → Prop} {x a a0 : Str} {g c P : Addr} {k : Nat} {pg : Arguments} {bg : List Stmt} {sg : Scope} {dV kV doc pm cdv ct oc : Value} {an od : Option Addr} {osl : Array (Option Value)} {Ng : List Str}
    {params : Arguments} {body de : Expr} {dx : V} {scope : Scope} {t : XK → TE} {p lpos pos : Pos} (hg : Gl X x) (hm : X.mg x = some (.ref g)) (hk : PySem.W.keepIn X.K (.ref g) = true)
    (lk : X.K.lookup g = some ⟨oc, od, .func (PySem.W.fnOf x x pg bg sg dV kV doc pm an cdv ct), osl⟩) (hcg : PySem.W.codeIn X.K cdv x = true) (hb : L2.Binds X.K (PySem.W.fnOf x x pg bg sg dV kV doc pm an cdv ct) [a] []) (Sg : FnScope Ng [a] sg) (hNg : Ng[0]? = some a) (hva : Vis sg a)
    (hG : GivesTo X Ng x sg g cdv bg a (X.env.qual ++ "<lambda>") TT)
    (TB : TabB X.base X.mg c P) (hcode : X.env.code = .ref c) (hmT : (P, X.env.qual ++ "<lambda>") ∈ T) (hu : ∀ p ∈ T, p.1 = P → p.2 = X.env.qual ++ "<lambda>") (hr : Room (k + 2) X.A) (L : LamSd X.env.scope scope a0) (ha0 : a0 ∉ X.N) (hd0 : params.defaults = [de]) (hk0 : params.kw_defaults = []) (hde : PE X de (tC dx))
    (hbind : ∀ (q : Str) (cl : List (Str × Addr)) (t0 : Addr) (doc pm cv ctv u : Value), ∃ kk, bindArgs (PySem.W.kdv_fn "<lambda>" q params (.expr body) scope cl (.ref t0) doc pm cv ctv) ⟨[], []⟩ = seqItems? (.ref t0) >>= kk ∧ kk (some #[u]) = pure [(a0, u)])
    (hbody : ∀ (A : Around) (outer : List Env) (s : Shared) (H : Hp) (E : XK) (f c' : Addr), Room k (A.deeper (lamEnv X scope s.heap.objs.size f c')) → PE (lamCx X A outer s H E scope f c') body (t E))
    (hdb : (x == ("__debug__" : Str)) = false := by decide) (hd : (a == ("__debug__" : Str)) = false := by decide) (hcd : (a == ("__classdict__" : Str)) = false := by decide) :
    PE X (.Call (.Name x p) [.Lambda params body scope lpos] [] pos) (tLam T TT t) := by
  refine ⟨fun pins s σ H Q I h => ?_⟩
  obtain ⟨hT, h⟩ := h
  refine wpAny_Call_Name_kw (ld_glob I hg hm ?_ hdb)
  refine PySem.W.callWith_K (h₀ := X.base) I.ok.mod.kin hk ?_ (by rfl) (by rfl)
  show wpAny _ _ (spliced ((false, eval (.Lambda params body scope lpos) X.env) :: backTo pos (starEach [] X.env))) _ _ s
  refine Calls.spliced_cons (lam_makeD I TB hcode hmT hu hT hd0 hk0 hde (L.has I.ok) fun f c' t0 u pm' doc' ctv H1 s' I1 eN T1 hf hfn hfr ht0 htn htr hco => ?_)
  refine Calls.spliced_nil ⟨I1.kIn, ?_⟩
  have rc : codeAny (model X.prog X.w) X.A (.call (.ref g) ⟨[.ref f], []⟩) (CR C8.CX0 X.stack X.prog X.w H1 s' Q C8.E0) s' := by
    refine run_ofS (N := Ng) (ps := [a]) (us := [.ref f]) (vs := [.ref f]) lk hcg Sg hr I1.env0 (hb s' [.ref f] I1.kIn rfl) (.cons rfl .nil) rfl fun hr' => ?_
    obtain ⟨t', ht', hq'⟩ := hG f c' s' H1 Q (fun E H' Q' => t E σ H' Q') (fun W pn xe E p1 p2 tk hW => pe_actD (i := 0) I1 L ha0 hf hfn hfr ht0 htn htr (hbind _ _ _ _ _ _ _ _) tk hW hr' (fun A outer s H hr2 => hbody A outer s H E f c' hr2) hNg hva hd hcd) hco (h H1 eN T1)
    exact ⟨t', ht'.nox, hq'⟩
  refine wpAny_call (codeAny_mono rc fun r s2 hq => ?_)
  cases r with
  | error e => exact (show False from hq).elim
  | ok fl =>
    cases fl with
    | ret u => exact I1.after hq
    | next => exact False.elim hq
    | brk => exact False.elim hq
    | cont => exact False.elim hq
end
theorem WordQ.peD {P : Program} {w : World} {K : PySem.W.Frag} {mg : Str → Option Value} {base : Heap} {st : Stmt} {Ng : List Str} {TT : (XK → Hp → VK → Prop) → Hp → VK → Prop} {N0 : List Str} {q0 a0 : Str} {sc0 : Scope} {f0 C Pt : Addr} {A0 : Around} {out0 : List Env} {s0 : Shared} {H0 : Hp} {E00 : XK}
    {k : Nat} {params : Arguments} {body de : Expr} {dx : V} {scope : Scope} {t : XK → TE} {p lpos pos : Pos} (W : WordQ P w K mg base st Ng TT) (hr : Room (k + 2) (cxN P w K mg base N0 q0 sc0 f0 (.ref C) A0 out0 s0 H0 E00).A) (TB : LamX.TabB base mg C Pt) (hg : Gl (cxN P w K mg base N0 q0 sc0 f0 (.ref C) A0 out0 s0 H0 E00) "_law_word")
    (L : LamSd sc0 scope a0) (ha0 : a0 ∉ N0) (hd0 : params.defaults = [de]) (hk0 : params.kw_defaults = []) (hde : PE (cxN P w K mg base N0 q0 sc0 f0 (.ref C) A0 out0 s0 H0 E00) de (tC dx))
    (hbind : ∀ (q : Str) (cl : List (Str × Addr)) (t0 : Addr) (doc pm cv ctv u : Value), ∃ kk, bindArgs (PySem.W.kdv_fn "<lambda>" q params (.expr body) scope cl (.ref t0) doc pm cv ctv) ⟨[], []⟩ = seqItems? (.ref t0) >>= kk ∧ kk (some #[u]) = pure [(a0, u)])
    (hbody : ∀ (A : Around) (outer : List Env) (s : Shared) (H : Hp) (E : XK) (f c' : Addr), Room k (A.deeper (LamX.lamEnv (cxN P w K mg base N0 q0 sc0 f0 (.ref C) A0 out0 s0 H0 E00) scope s.heap.objs.size f c')) → PE (LamX.lamCx (cxN P w K mg base N0 q0 sc0 f0 (.ref C) A0 out0 s0 H0 E00) A outer s H E scope f c') body (t E)) :
    PE (cxN P w K mg base N0 q0 sc0 f0 (.ref C) A0 out0 s0 H0 E00) (.Call (.Name "_law_word" p) [.Lambda params body scope lpos] [] pos) (LamX.tLam [(Pt, lamQ q0)] TT t) := by
  obtain ⟨g, fd, F, hm, hb⟩ := W.ex
  obtain ⟨oc, od, kV, doc, pm, an, cdv, ct, osl, rfl, lk, hcd⟩ := F.ex
  exact pe_lamcallD hg hm F.kp lk hcd hb W.sc W.nm W.vs (W.gv (hr.mono (by omega))) TB rfl (List.mem_singleton.mpr rfl) (fun p hp _ => by rw [List.mem_singleton.mp hp]; rfl) hr L ha0 hd0 hk0 hde hbind hbody
end G

/-! A writer's put that may refuse. -/
namespace G
open PySem L2
instance {K : PySem.W.Frag} {Sh Pl Le Ah Bl Wr p : Addr} {R k : Nat} {y : Rnd} {sg : Int} : NT (wrS K Sh Pl Le Ah Bl Wr p R y k sg) := by unfold wrS; infer_instance
section
variable (K : PySem.W.Frag) (Sh Pl Le Ah Bl Wr Bs Bc : Addr)
def spWPutX : Sp := fun vs H Q E => ∃ p R y k sg mo i L, vs = [.ref p, .int i] ∧ RndOk R k y sg mo ∧ k ≤ 60 ∧ HS H (wrS K Sh Pl Le Ah Bl Wr p R y k sg :: L) ∧
  (∀ s : Nat, i = (s : Nat) → (s : Int) < sg → k < 60 → ∀ H', HS H' (wrS K Sh Pl Le Ah Bl Wr p R (rnd R y s) (k + 1) sg :: L) → Q .non H') ∧
  (¬ (0 ≤ i ∧ i ≤ sg - 1) → ∀ H', HS H' (wrS K Sh Pl Le Ah Bl Wr p R y k sg :: L) → E (.ref Bs) none H') ∧
  (0 ≤ i ∧ i ≤ sg - 1 → k = 60 → ∀ H', HS H' (wrS K Sh Pl Le Ah Bl Wr p R y k sg :: L) → E (.ref Bc) none H')
end
section
variable {K : PySem.W.Frag} {Sh Pl Le Ah Bl Wr Bs Bc p q r : Addr} {H : Hp} {Q : VK} {E : XK} {L F : List SA} {x : V} {y : Rnd} {m : Mdl} {sg mo i : Int} {R k : Nat}
theorem c_wPutN (s : Nat) (e : i = (s : Nat)) [hs : HS H L] [o : Own L p (wrS K Sh Pl Le Ah Bl Wr p R y k sg) F] (ok : RndOk R k y sg mo) (hk : k < 60) (hl : (s : Int) < sg) (h : ∀ H', HS H' (wrS K Sh Pl Le Ah Bl Wr p R (rnd R y s) (k + 1) sg :: F) → Q .non H') : spWPutX K Sh Pl Le Ah Bl Wr Bs Bc [.ref p, .int i] H Q E :=
  ⟨p, R, y, k, sg, mo, i, F, rfl, ok, by omega, hs.pk o.pk, fun s2 e2 h2 _ => by
    obtain rfl : s = s2 := by omega
    exact h, fun n => absurd (by omega) n, fun _ n => absurd n (by omega)⟩
theorem c_wPutS [hs : HS H L] [o : Own L p (wrS K Sh Pl Le Ah Bl Wr p R y k sg) F] (ok : RndOk R k y sg mo) (hk : k ≤ 60) (hl : ¬ (0 ≤ i ∧ i ≤ sg - 1)) (h : ∀ H', HS H' (wrS K Sh Pl Le Ah Bl Wr p R y k sg :: F) → E (.ref Bs) none H') : spWPutX K Sh Pl Le Ah Bl Wr Bs Bc [.ref p, .int i] H Q E :=
  ⟨p, R, y, k, sg, mo, i, F, rfl, ok, hk, hs.pk o.pk, fun s2 e2 h2 _ => absurd (by omega) hl, fun _ => h, fun n => absurd n hl⟩
theorem c_wPutC [hs : HS H L] [o : Own L p (wrS K Sh Pl Le Ah Bl Wr p R y k sg) F] (ok : RndOk R k y sg mo) (hk : k = 60) (hl : 0 ≤ i ∧ i ≤ sg - 1) (h : ∀ H', HS H' (wrS K Sh Pl Le Ah Bl Wr p R y k sg :: F) → E (.ref Bc) none H') : spWPutX K Sh Pl Le Ah Bl Wr Bs Bc [.ref p, .int i] H Q E :=
  ⟨p, R, y, k, sg, mo, i, F, rfl, ok, by omega, hs.pk o.pk, fun s2 e2 h2 h3 => absurd h3 (by omega), fun n => absurd hl n, fun _ _ => h⟩
end
theorem dgs_ok {bs : List Nat} (h : ∀ b ∈ bs, b < 2) : PyData.strOk (dgs bs) = true := by
  unfold PyData.strOk dgs
  rw [Array.all_eq_true']
  intro x hx
  have hx : x ∈ bs.map (48 + ·) := by simpa using hx
  obtain ⟨b, hb, rfl⟩ := List.mem_map.mp hx
  have := h b hb
  exact decide_eq_true (by omega)
section
variable {K : PySem.W.Frag} {H : Hp} {Q : VK} {L : List SA} {p q : Addr}
/-- two lists of the same two texts -/
theorem s_neS2 {z : Str} (ok : PyData.strOk z = true) [hs : HS H L] [m1 : RdL K L p [.str z, .str z]] [m2 : RdL K L q [.str z, .str z]] (h : Q (.bl false) H) : rNeG K (.ref p) (.ref q) H Q := by
  refine .inr ⟨_, _, .lst (m1.sq hs) (.cons (.str z) (.cons (.str z) .nil)), .lst (m2.sq hs) (.cons (.str z) (.cons (.str z) .nil)), ?_, ?_, ?_⟩
  · simp [SeqAt.shaped, PyData.canLay0, PyData.canLayAll0, PyData.depth, PyData.depthAll, ok]
  · simp [SeqAt.shaped, PyData.canLay0, PyData.canLayAll0, PyData.depth, PyData.depthAll, ok]
  · have e : PyData.eqv (.list [.str z, .str z]) (.list [.str z, .str z]) = true := by simp [PyData.eqv, PyData.eqvAll]
    rw [e]; exact h
/-- two lists of the same two words -/
theorem s_neW2 {z y : Str} {i j : Int} {t1 t2 u1 u2 : Addr} (okz : PyData.strOk z = true) (oky : PyData.strOk y = true) [hs : HS H L] [m1 : RdL K L p [.ref t1, .ref t2]] [m2 : RdL K L q [.ref u1, .ref u2]]
    [a1 : RdT K L t1 [.str z, .int i]] [a2 : RdT K L t2 [.str y, .int j]] [b1 : RdT K L u1 [.str z, .int i]] [b2 : RdT K L u2 [.str y, .int j]] (h : Q (.bl false) H) : rNeG K (.ref p) (.ref q) H Q := by
  have d1 : ∀ {t : Addr} {z : Str} {i : Int}, SqT K H t [.str z, .int i] → Dp K H (.ref t) (.tuple [.str z, .int i]) := fun h => .tup h (.cons (.str _) (.cons (.int _) .nil))
  refine .inr ⟨_, _, .lst (m1.sq hs) (.cons (d1 (a1.sq hs)) (.cons (d1 (a2.sq hs)) .nil)), .lst (m2.sq hs) (.cons (d1 (b1.sq hs)) (.cons (d1 (b2.sq hs)) .nil)), ?_, ?_, ?_⟩
  · simp [SeqAt.shaped, PyData.canLay0, PyData.canLayAll0, PyData.depth, PyData.depthAll, okz, oky]
  · simp [SeqAt.shaped, PyData.canLay0, PyData.canLayAll0, PyData.depth, PyData.depthAll, okz, oky]
  · have e : PyData.eqv (.list [.tuple [.str z, .int i], .tuple [.str y, .int j]]) (.list [.tuple [.str z, .int i], .tuple [.str y, .int j]]) = true := by simp [PyData.eqv, PyData.eqvAll]
    rw [e]; exact h
end
end G

namespace G
open PySem L2
def top (i : Nat) : Stmt := PySem.Challenge.pw_stretchcode_k18_whole_digits_are_never_t.main.body.getD i (.Pass ⟨0, 0, 0, 0⟩)
local macro_rules | `(tactic| walk_at "s") => `(tactic| (first
  | with_reducible refine s_varV ?_
  | with_reducible refine s_seq ?_
  | with_reducible refine s_wh ?_
  | with_reducible refine s_asg ?_
  | with_reducible refine s_nameV ?_
  | with_reducible refine s_op ?_
  | with_reducible refine s_c ?_
  | with_reducible refine s_cons ?_
  | with_reducible refine s_nil ?_
  | with_reducible refine s_test ?_
  | with_reducible refine s_tst ?_
  | with_reducible refine s_if ?_
  | with_reducible refine s_add ?_
  | with_reducible refine s_sub ?_
  | with_reducible refine s_eq ?_
  | with_reducible refine s_ne ?_
  | with_reducible refine s_lt ?_
  | with_reducible refine s_le ?_
  | with_reducible refine s_gt ?_
  | with_reducible refine s_ge ?_
  | with_reducible refine s_bitand ?_
  | with_reducible refine s_drop ?_
  | with_reducible refine s_ret ?_
  | with_reducible refine s_retN ?_
  | with_reducible refine s_next ?_
  | with_reducible refine s_cb ?_
  | with_reducible refine s_call ?_
  | with_reducible refine s_mth ?_
  | with_reducible refine s_fld ?_
  | with_reducible refine s_put ?_
  | with_reducible refine s_for ?_
  | with_reducible refine s_rng1 ?_
  | with_reducible refine s_rng2 ?_
  | with_reducible refine s_rng3 ?_
  | with_reducible refine s_join ?_
  | with_reducible refine s_idx ?_
  | with_reducible refine s_starts ?_
  | with_reducible refine s_sstK ?_
  | with_reducible refine s_idK ?_
  | with_reducible refine s_joK ?_
  | with_reducible refine s_m1 ?_
  | with_reducible refine s_callS ?_
  | with_reducible refine s_mthS ?_
  | with_reducible refine s_try ?_
  | with_reducible refine s_m1K ?_
  | with_reducible refine s_rev ?_
  | with_reducible refine s_not ?_
  | with_reducible refine s_and ?_
  | with_reducible refine s_or ?_
  | with_reducible refine s_tB ?_
  | with_reducible refine s_andV ?_
  | with_reducible refine s_orV ?_
  | with_reducible refine s_notV ?_
  | with_reducible refine s_andK ?_
  | with_reducible refine s_orK ?_
  | with_reducible refine s_notK ?_
  | with_reducible refine s_chain ?_
  | with_reducible refine s_chain3 ?_
  | with_reducible refine s_chK3 ?_
  | with_reducible refine s_chK4 ?_
  | with_reducible refine s_lstRg ?_
  | with_reducible refine s_lstZip ?_
  | with_reducible refine s_zipA ?_
  | with_reducible refine s_un ?_
  | with_reducible refine s_neg ?_
  | with_reducible refine s_dget ?_
  | with_reducible refine s_dget2 ?_
  | with_reducible refine s_dg2T ?_
  | with_reducible refine s_dput ?_
  | with_reducible refine s_dnotin ?_
  | with_reducible refine s_pnil ?_
  | with_reducible refine s_pcons ?_
  | with_reducible refine s_rg1 ?_
  | with_reducible refine s_rg1K ?_
  | with_reducible refine s_chK ?_
  | with_reducible refine s_ife ?_
  | with_reducible refine s_par ?_
  | with_reducible refine s_parK ?_
  | with_reducible refine s_par3 ?_
  | with_reducible refine s_parK3 ?_
  | with_reducible refine s_lst ?_
  | with_reducible refine s_tup ?_
  | with_reducible refine s_lc ?_
  | with_reducible refine s_yes ?_
  | with_reducible refine s_make ?_
  | with_reducible refine s_gsub ?_
  | with_reducible refine s_sl ?_
  | with_reducible refine s_noPart ?_
  | with_reducible refine s_part ?_
  | with_reducible refine s_partK ?_
  | with_reducible refine s_bm ?_
  | with_reducible refine s_bm0 ?_
  | with_reducible refine s_gnil ?_
  | with_reducible refine s_gcons ?_
  | with_reducible refine s_int ?_
  | with_reducible refine s_intB ?_
  | with_reducible refine i_t ?_
  | with_reducible refine i_f ?_
  | with_reducible refine i_nf ?_
  | with_reducible refine i_nt ?_
  | with_reducible refine s_eqS ?_
  | with_reducible refine s_neS ?_
  | with_reducible refine s_eqB ?_
  | with_reducible refine s_neB ?_))
local macro_rules | `(tactic| walk_at "f") => `(tactic| (((with_reducible refine' s_fldK ?c ?n ?l ?k); (case c => assumption); (case n => assumption); (case l => exact rfl))))
local macro_rules | `(tactic| walk_at "m") => `(tactic| (first | ((with_reducible refine' s_mthK ?l ?k); (case l => exact rfl)) | ((with_reducible refine' s_mthSh ?l ?k); (case l => exact ⟨rfl, rfl⟩)) | ((with_reducible refine' s_mthMo ?l ?k); (case l => exact fun _ _ => rfl)) | ((with_reducible refine' s_mthEx ?l ?k); (case l => exact fun _ _ _ _ => rfl)) | ((with_reducible refine' s_mthWr ?l ?k); (case l => exact fun _ _ _ _ _ _ _ _ _ => rfl)) | ((with_reducible refine' s_mthWd ?l ?k); (case l => exact fun _ _ => rfl)) | ((with_reducible refine' s_mthRd ?l ?k); (case l => exact fun _ _ _ _ _ _ _ _ _ => rfl))))
local macro_rules | `(tactic| walk_at "v") => `(tactic| (((with_reducible refine' s_var ?e ?k); (case e => exact rfl))))
local macro_rules | `(tactic| walk_at "n") => `(tactic| (with_reducible refine s_name ?_))
local macro_rules | `(tactic| walk_at "g") => `(tactic| (repeat (first | walk_at "s" | walk_at "f" | walk_at "m" | walk_at "v" | walk_at "n")))
local macro_rules | `(tactic| walk_at "p") => `(tactic| (((with_reducible refine' s_putK ?c ?n ?z ?e ?k); (case c => assumption); (case n => assumption); (case z => exact (Nat.le_of_ble_eq_true rfl)); (case e => (simp (config := { decide := true }) only [putF, if_true, if_false]; rfl)))))
local macro_rules | `(tactic| walk_at "z") => `(tactic| (first | exact Nat.zero_le _ | exact small_line (by simp) | decide))
local macro_rules | `(tactic| walk_at "e") => `(tactic| (first | (refine i_y rfl ?_; walk_at "g") | (refine i_n (by decide +kernel) ?_; walk_at "g") | (refine i_nd (fun n => absurd rfl n) (fun _ => ?_); walk_at "g") | (refine i_nd (fun _ => ?_) (fun q => absurd q (by decide +kernel)); walk_at "g")))
local macro_rules | `(tactic| walk_at "b") => `(tactic| (repeat (first | with_reducible refine s_seq ?_ | with_reducible refine s_next ?_ | with_reducible refine s_add ?_ | with_reducible refine s_nil ?_ | with_reducible refine s_cons ?_ | with_reducible refine s_parK ?_ | with_reducible refine s_parK3 ?_ | with_reducible refine s_drop ?_ | with_reducible refine s_gnil ?_ | with_reducible refine s_gcons ?_ | with_reducible refine s_nameV ?_ | walk_at "n" | walk_at "v")))
section
variable {P : Program} {w : World} {K : PySem.W.Frag} {mg : Str → Option Value} {base : Heap} {v_MOST_NUMBER : Int} {C_StretchError C_BadModel C_BadSign C_BadShare C_BadRow C_BadCode C_BadRoom C_BadCount C_BadNumber C_BadText C_Shares C_Plain C_Learner C_Ahead C_Blend C_Writer C_tab_law P_tab_law : Addr} {t_MOST_SIGNS t_MOST_COUNT t_PLAIN t_LEARN t_AHEAD t_BLEND t_MOST_PLAIN t_MOST_STEP t_MOST_LIMIT t_MOST_ORDER t_MOST_WEIGHT t_MOST_WHOLE t_MOST_DEEP t_MOST_ROW t_LEAST_ROOM t_MOST_ROOM : Tok}
abbrev s_is_within : Stmt := (top 15)
theorem sc_is_within : FnScope ["number", "low", "high"] ["number", "low", "high"] (defScope s_is_within) := ⟨rfl, rfl, rfl, by decide +kernel, rfl, by decide +kernel, by decide +kernel⟩
theorem ok_is_within {f : Addr} {fd : FuncData} (F : Fun K "is_within" "is_within" s_is_within f fd) (b_isinstance : mg "isinstance" = none) (b_bool : mg "bool" = none) (b_int : mg "int" = none) : FnOk P w K mg base CX0 (1) f fd ["number", "low", "high"] (spWithin) := by
  have nd := sc_is_within.nd
  refine F.ok sc_is_within (fun vs H Q E h => ?_) (fun cdv A outer s H vs Q E hr h => ?_)
  · repeat (first | (obtain ⟨rfl, _⟩ := h; rfl) | (obtain ⟨_, h⟩ := h))
  refine (fun q => ⟨_, (pss_one (ps_ret (pe_and (pe_callB (call_isiK' (K := K) rfl) rfl b_isinstance (by decide +kernel) (pa_cons (pv 0) (pa_cons (pe_bltn (v := .ty "int") rfl b_int (by decide +kernel) rfl) pa_nil))) (pe_and (pe_not (pe_callB (call_isiK' (K := K) rfl) rfl b_isinstance (by decide +kernel) (pa_cons (pv 0) (pa_cons (pe_bltn (v := .ty "bool") rfl b_bool (by decide +kernel) rfl) pa_nil)))) (pe_one (pe_chain op_leG op_leG (pv 1) (pv 0) (pv 2))))))), q⟩) ?_

  obtain ⟨x, lo, hi, rfl, h⟩ := h
  rw [show start ["number", "low", "high"] [x, .int lo, .int hi] = [some x, some (.int lo), some (.int hi)] from rfl]
  walk_at "g"
  rcases h with ⟨i, rfl, k⟩ | ⟨b, rfl, k⟩
  · refine s_isi (.ty _) (.base (.int i)) (kit_ty (a := "int") (b := "int") (r := true) (by decide +kernel)) ?_
    walk_at "g"
    refine s_isi (.ty _) (.base (.int i)) (kit_ty (a := "int") (b := "bool") (r := false) (by decide +kernel)) ?_
    walk_at "g"
    refine i_d (fun h1 => ?_) (fun h1 => ?_)
    · walk_at "g"
      rw [show decide (i ≤ hi) = decide (lo ≤ i ∧ i ≤ hi) from by simp [h1]]
      exact k
    · rw [show decide (lo ≤ i ∧ i ≤ hi) = false from decide_eq_false (fun q => h1 q.1)] at k
      exact k
  · refine s_isi (.ty _) (.base (.bl b)) (kit_ty (a := "bool") (b := "int") (r := true) (by decide +kernel)) ?_
    walk_at "g"
    refine s_isi (.ty _) (.base (.bl b)) (kit_ty (a := "bool") (b := "bool") (r := true) (by decide +kernel)) ?_
    walk_at "g"
    exact k
abbrev s_Shares_climb : Stmt := (inClass (top 17) 1)
theorem sc_Shares_climb : FnScope ["self", "sign", "by", "at"] ["self", "sign", "by"] (defScope s_Shares_climb) := ⟨rfl, rfl, rfl, by decide +kernel, rfl, by decide +kernel, by decide +kernel⟩
theorem ok_Shares_climb {f : Addr} {fd : FuncData} (F : Fun K "climb" "Shares.climb" s_Shares_climb f fd) (n_Shares_signs : NoAttr K C_Shares "signs") (cl_Shares : Cls K C_Shares) (n_Shares_tree : NoAttr K C_Shares "tree") : FnOk P w K mg base CX0 (1) f fd ["self", "sign", "by"] (spClimb C_Shares) := by
  have nd := sc_Shares_climb.nd
  refine F.ok sc_Shares_climb (fun vs H Q E h => ?_) (fun cdv A outer s H vs Q E hr h => ?_)
  · repeat (first | (obtain ⟨rfl, _⟩ := h; rfl) | (obtain ⟨_, h⟩ := h))
  refine (fun q => ⟨_, (pss_cons (ps_set (i := 3) nd rfl (Or.inl rfl) (pe_op (op_addK (K := K) rfl) (pv 1) pe_int)) (pss_one (ps_while PassesOwn.never (pt_cmpR op_leG (pv 3) (pe_fldK (K := K) rfl (pv 0) rfl) (nomark _)) (pss_cons (ps_asg (pe_op (op_addK (K := K) rfl) (pe_ix (ix_seqK (K := K) rfl) (pe_fldK (K := K) rfl (pv 0) rfl) (pv 3) (fun _ _ => rfl)) (pv 2)) (pg_sub (pe_fldK (K := K) rfl (pv 0) rfl) (pv 3) set_list)) (pss_one (ps_set (i := 3) nd rfl (Or.inl rfl) (pe_op (op_addK (K := K) rfl) (pv 3) (pe_op op_andG (pv 3) (pe_op op_subG pe_int (pv 3)))))))))), q⟩) ?_

  obtain ⟨p, s, b, cs, L, rfl, hs, h8, hl, k⟩ := h
  rw [show start ["self", "sign", "by", "at"] [.ref p, .int (s : Nat), .int b] = [some (.ref p), some (.int (s : Nat)), some (.int b), none] from rfl]
  obtain ⟨l, hs⟩ := hs.sh_in
  walk_at "g"
  refine f_while (fun m σ H => ∃ (i : Nat) (T : List Int), σ = [some (.ref p), some (.int (s : Nat)), some (.int b), some (.int (i : Nat))] ∧ 1 ≤ i ∧ 9 ≤ i + m ∧ T.length = cs.length + 1 ∧ climbF cs.length b m i T = treeOf (cs.set s (cs.getD s 0 + b))
    ∧ HS H (pt l (.lst (iv T)) :: ob p C_Shares [("signs", .int cs.length), ("tree", .ref l)] :: L)) 8 ⟨s + 1, treeOf cs, rfl, by omega, by omega, treeOf_len _, climb_is cs s b h8 hl, hs.pk (Pick.there Pick.here)⟩ ?_
  rintro m σ H ⟨i, T, rfl, h1, h9, hT, e, hs⟩
  walk_at "g"
  refine i_d (fun hi => ?_) (fun hi => ?_)
  · have hi' : i ≤ cs.length := by omega
    have hg : T[i]? = some (T.getD i 0) := by rw [List.getD_eq_getElem?_getD, List.getElem?_eq_getElem (by omega)]; rfl
    walk_at "g"
    refine s_ixL (at_iv hg) ?_
    walk_at "g"
    refine s_setL (ixN_nat (by rw [iv_len]; omega)) fun H' hs => ?_
    walk_at "g"
    rw [and_neg i h1 (by omega)]
    cases m with
    | zero => omega
    | succ m =>
      refine ⟨m, by omega, i + lb i, T.set i (T.getD i 0 + b), rfl, by omega, ?_, by simpa using hT, ?_, by rw [iv_set] at hs; exact hs⟩
      · have := lb_pos i; omega
      · rw [climbF, if_pos hi'] at e; exact e
  · have hz : T = treeOf (cs.set s (cs.getD s 0 + b)) := by
      rw [← e]; cases m with
      | zero => rfl
      | succ m => rw [climbF, if_neg (by omega)]
    subst hz
    refine k _ (HS.sh_out (l := l) ?_)
    rw [List.length_set]
    exact hs.pk (.there .here)
abbrev s_Shares_need_sign : Stmt := (inClass (top 17) 2)
theorem sc_Shares_need_sign : FnScope ["self", "sign", "most"] ["self", "sign", "most"] (defScope s_Shares_need_sign) := ⟨rfl, rfl, rfl, by decide +kernel, rfl, by decide +kernel, by decide +kernel⟩
theorem ok_Shares_need_sign {f : Addr} {fd : FuncData} (F : Fun K "need_sign" "Shares.need_sign" s_Shares_need_sign f fd) (q_is_within : Cal P w K mg base CX0 1 "is_within" ["number", "low", "high"] (spWithin)) : FnOk P w K mg base CX0 (2) f fd ["self", "sign", "most"] (spNeedSign) := by
  have nd := sc_Shares_need_sign.nd
  refine F.ok sc_Shares_need_sign (fun vs H Q E h => ?_) (fun cdv A outer s H vs Q E hr h => ?_)
  · repeat (first | (obtain ⟨rfl, _⟩ := h; rfl) | (obtain ⟨_, h⟩ := h))
  refine (fun q => ⟨_, (pss_one (ps_if (pt_not (pt_val (pe_cal q_is_within (hr.mono (by decide)) rfl pass0 (pa_cons (pv 1) (pa_cons pe_int (pa_cons (pv 2) pa_nil)))))) pss_never pss_nil)), q⟩) ?_

  obtain ⟨p, s, m, rfl, h0, h1, k⟩ := h
  rw [show start ["self", "sign", "most"] [.ref p, .int s, .int m] = [some (.ref p), some (.int s), some (.int m)] from rfl]
  walk_at "g"
  refine c_within ?_
  walk_at "g"
  refine i_nd (fun n => absurd ⟨h0, h1⟩ n) fun _ => ?_
  walk_at "g"
  exact k

abbrev s_need_counts : Stmt := (top 16)
theorem sc_need_counts : FnScope ["counts", "one"] ["counts"] (defScope s_need_counts) := ⟨rfl, rfl, rfl, by decide +kernel, rfl, by decide +kernel, by decide +kernel⟩
theorem ok_need_counts {f : Addr} {fd : FuncData} (F : Fun K "need_counts" "need_counts" s_need_counts f fd) (k_MOST_COUNT : mg "MOST_COUNT" = some (.int (4000) t_MOST_COUNT)) (b_len : mg "len" = none) (k_MOST_SIGNS : mg "MOST_SIGNS" = some (.int (8) t_MOST_SIGNS)) (q_is_within : Cal P w K mg base CX0 1 "is_within" ["number", "low", "high"] (spWithin)) : FnOk P w K mg base CX0 (2) f fd ["counts"] (spNeedCounts K) := by
  have nd := sc_need_counts.nd
  refine F.ok sc_need_counts (fun vs H Q E h => ?_) (fun cdv A outer s H vs Q E hr h => ?_)
  · repeat (first | (obtain ⟨rfl, _⟩ := h; rfl) | (obtain ⟨_, h⟩ := h))
  refine (fun q => ⟨_, (pss_one (ps_if (PW.pt (pw_or (pt_not (pt_chain op_leG op_leG pe_int (pe_callB (call_lenK (K := K) rfl) rfl b_len PySem.boot_len (pa_cons (pv 0) pa_nil)) (pe_glob (v := .int (8)) rfl k_MOST_SIGNS ⟨_, rfl⟩))) (pw_or1 (pt_cmpR (op_neK (K := K) rfl hr.units) (pe_lc (own := [("one", 1)]) rfl nd (pi_anyK (K := K) rfl (pv 0)) (blkOk_by (N := ["counts", "one"]) (sc := defScope s_need_counts) (by decide +kernel)) (fun _ _ _ _ _ => (pg_name (i := 1) nd rfl (Or.inl rfl))) (fun _ _ _ _ _ => (pts_one (pt_not (pt_val (pe_cal q_is_within (hr.mono (by decide)) rfl pass0 (pa_cons (pv 1) (pa_cons pe_int (pa_cons (pe_glob (v := .int (4000)) rfl k_MOST_COUNT ⟨_, rfl⟩) pa_nil)))))))) (fun _ _ _ _ _ => (pv 1))) (pe_lst pa_nil) (nomark _))))) pss_never pss_nil)), q⟩) ?_

  obtain ⟨p, t, cs, L, rfl, hs, hr1, hg, h4, k⟩ := h
  rw [show start ["counts", "one"] [.ref p] = [some (.ref p), none] from rfl]
  walk_at "g"
  refine s_lenB (hr1.sq hs) ?_
  walk_at "g"
  have h1 := hg.1
  have h8 := hg.2.1
  refine i_y (by rw [iv_len]; omega) ?_
  walk_at "g"
  rw [show decide (((iv cs).length : Int) ≤ 8) = true from decide_eq_true (by rw [iv_len]; omega)]
  walk_at "g"
  refine c_any (iv cs) (hr1.sq hs) (fun D i H => HS H (pt D (.lst []) :: L)) (fun D H' h => h) (fun D i H _ hs => hr1.sq hs.drop) ?_ ?_
  · intro D i x H hx hs
    obtain ⟨c, hc, rfl⟩ := iv_at hx
    have hm : c ∈ cs := List.mem_of_getElem? hc
    walk_at "g"
    refine ⟨rfl, ?_⟩
    walk_at "g"
    refine c_within ?_
    walk_at "g"
    rw [show decide (1 ≤ c ∧ c ≤ 4000) = true from decide_eq_true ⟨hg.2.2 c hm, h4 c hm⟩]
    walk_at "g"
    exact hs
  · intro D H hs
    walk_at "g"
    refine s_lstN (by walk_at "z") fun q H' hs => ?_
    refine .inr ⟨_, _, .lst (hs.pk (.there .here) |> fun z => .inl (.inl z.get)) .nil, .lst (.inl (.inl hs.get)) .nil, rfl, rfl, ?_⟩
    walk_at "g"
    exact k _ hs.drop.drop
abbrev s_Shares_ahead_of : Stmt := (inClass (top 17) 3)
theorem sc_Shares_ahead_of : FnScope ["self", "sign", "found", "at"] ["self", "sign"] (defScope s_Shares_ahead_of) := ⟨rfl, rfl, rfl, by decide +kernel, rfl, by decide +kernel, by decide +kernel⟩
theorem ok_Shares_ahead_of {f : Addr} {fd : FuncData} (F : Fun K "ahead_of" "Shares.ahead_of" s_Shares_ahead_of f fd) (cl_Shares : Cls K C_Shares) (n_Shares_signs : NoAttr K C_Shares "signs") (n_Shares_tree : NoAttr K C_Shares "tree") (q_Shares_need_sign : CalM P w K mg base CX0 2 C_Shares "need_sign" ["self", "sign", "most"] (spNeedSign)) : FnOk P w K mg base CX0 (3) f fd ["self", "sign"] (spAheadOf C_Shares) := by
  have nd := sc_Shares_ahead_of.nd
  refine F.ok sc_Shares_ahead_of (fun vs H Q E h => ?_) (fun cdv A outer s H vs Q E hr h => ?_)
  · repeat (first | (obtain ⟨rfl, _⟩ := h; rfl) | (obtain ⟨_, h⟩ := h))
  refine (fun q => ⟨_, (pss_cons (ps_expr (pe_calM (pv 0) cl_Shares q_Shares_need_sign (hr.mono (by decide)) pass0 (pa_cons (pv 1) (pa_cons (pe_fldK (K := K) rfl (pv 0) rfl) pa_nil)))) (pss_cons (ps_set (i := 2) nd rfl (Or.inl rfl) pe_int) (pss_cons (ps_set (i := 3) nd rfl (Or.inl rfl) (pv 1)) (pss_cons (ps_while PassesOwn.never (pt_cmpR op_gtG (pv 3) pe_int (nomark _)) (pss_cons (ps_set (i := 2) nd rfl (Or.inl rfl) (pe_op (op_addK (K := K) rfl) (pv 2) (pe_ix (ix_seqK (K := K) rfl) (pe_fldK (K := K) rfl (pv 0) rfl) (pv 3) (fun _ _ => rfl)))) (pss_one (ps_set (i := 3) nd rfl (Or.inl rfl) (pe_op op_andG (pv 3) (pe_op op_subG (pv 3) pe_int)))))) (pss_one (ps_ret (pv 2))))))), q⟩) ?_

  obtain ⟨p, s, cs, L, rfl, hs, h8, hl, k⟩ := h
  rw [show start ["self", "sign", "found", "at"] [.ref p, .int (s : Nat)] = [some (.ref p), some (.int (s : Nat)), none, none] from rfl]
  obtain ⟨l, hs⟩ := hs.sh_in
  walk_at "g"
  refine c_needSign (by omega) (by omega) ?_
  walk_at "g"
  refine f_while (fun m σ H => ∃ (i : Nat) (x : Int), σ = [some (.ref p), some (.int (s : Nat)), some (.int x), some (.int (i : Nat))] ∧ i ≤ m ∧ i ≤ cs.length ∧ x + (cs.take i).sum = (cs.take s).sum
    ∧ HS H (ob p C_Shares [("signs", .int cs.length), ("tree", .ref l)] :: pt l (.lst (iv (treeOf cs))) :: L)) s ⟨s, 0, rfl, by omega, hl, by omega, hs⟩ ?_
  rintro m σ H ⟨i, x, rfl, h1, h2, e, hs⟩
  walk_at "g"
  refine i_d (fun hi => ?_) (fun hi => ?_)
  · walk_at "g"
    refine s_ixL (at_iv (treeOf_at cs i h2)) ?_
    walk_at "g"
    rw [and_dec i (by omega) (by omega)]
    have := lb_pos i
    refine ⟨i - lb i, by omega, _, _, rfl, by omega, by omega, by omega, hs⟩
  · have : i = 0 := by omega
    subst this
    walk_at "g"
    rw [show x = (cs.take s).sum by simpa using e]
    exact k _ (HS.sh_out hs)
abbrev s_Shares_many_of : Stmt := (inClass (top 17) 4)
theorem sc_Shares_many_of : FnScope ["self", "sign"] ["self", "sign"] (defScope s_Shares_many_of) := ⟨rfl, rfl, rfl, by decide +kernel, rfl, by decide +kernel, by decide +kernel⟩
theorem ok_Shares_many_of {f : Addr} {fd : FuncData} (F : Fun K "many_of" "Shares.many_of" s_Shares_many_of f fd) (cl_Shares : Cls K C_Shares) (n_Shares_signs : NoAttr K C_Shares "signs") (q_Shares_ahead_of : CalM P w K mg base CX0 3 C_Shares "ahead_of" ["self", "sign"] (spAheadOf C_Shares)) (q_Shares_need_sign : CalM P w K mg base CX0 2 C_Shares "need_sign" ["self", "sign", "most"] (spNeedSign)) : FnOk P w K mg base CX0 (4) f fd ["self", "sign"] (spManyOf C_Shares) := by
  have nd := sc_Shares_many_of.nd
  refine F.ok sc_Shares_many_of (fun vs H Q E h => ?_) (fun cdv A outer s H vs Q E hr h => ?_)
  · repeat (first | (obtain ⟨rfl, _⟩ := h; rfl) | (obtain ⟨_, h⟩ := h))
  refine (fun q => ⟨_, (pss_cons (ps_expr (pe_calM (pv 0) cl_Shares q_Shares_need_sign (hr.mono (by decide)) pass0 (pa_cons (pv 1) (pa_cons (pe_op op_subG (pe_fldK (K := K) rfl (pv 0) rfl) pe_int) pa_nil)))) (pss_one (ps_ret (pe_op op_subG (pe_calM (pv 0) cl_Shares q_Shares_ahead_of (hr.mono (by decide)) pass0 (pa_cons (pe_op (op_addK (K := K) rfl) (pv 1) pe_int) pa_nil)) (pe_calM (pv 0) cl_Shares q_Shares_ahead_of (hr.mono (by decide)) pass0 (pa_cons (pv 1) pa_nil)))))), q⟩) ?_

  obtain ⟨p, s, cs, L, rfl, hs, h8, hl, k⟩ := h
  rw [show start ["self", "sign"] [.ref p, .int (s : Nat)] = [some (.ref p), some (.int (s : Nat))] from rfl]
  obtain ⟨l, hs⟩ := hs.sh_in
  walk_at "g"
  refine c_needSign (by omega) (by omega) ?_
  walk_at "g"
  refine ⟨p, s + 1, cs, L, by simp, HS.sh_out hs, h8, by omega, fun H' hs => ?_⟩
  obtain ⟨l, hs⟩ := hs.sh_in
  walk_at "g"
  refine ⟨p, s, cs, L, rfl, HS.sh_out hs, h8, by omega, fun H' hs => ?_⟩
  walk_at "g"
  rw [show (cs.take (s + 1)).sum - (cs.take s).sum = cs.getD s 0 by rw [take_getD cs s hl]; omega]
  exact k _ hs
abbrev s_Shares_whole : Stmt := (inClass (top 17) 5)
theorem sc_Shares_whole : FnScope ["self"] ["self"] (defScope s_Shares_whole) := ⟨rfl, rfl, rfl, by decide +kernel, rfl, by decide +kernel, by decide +kernel⟩
theorem ok_Shares_whole {f : Addr} {fd : FuncData} (F : Fun K "whole" "Shares.whole" s_Shares_whole f fd) (cl_Shares : Cls K C_Shares) (n_Shares_signs : NoAttr K C_Shares "signs") (q_Shares_ahead_of : CalM P w K mg base CX0 3 C_Shares "ahead_of" ["self", "sign"] (spAheadOf C_Shares)) : FnOk P w K mg base CX0 (4) f fd ["self"] (spWhole C_Shares) := by
  have nd := sc_Shares_whole.nd
  refine F.ok sc_Shares_whole (fun vs H Q E h => ?_) (fun cdv A outer s H vs Q E hr h => ?_)
  · repeat (first | (obtain ⟨rfl, _⟩ := h; rfl) | (obtain ⟨_, h⟩ := h))
  refine (fun q => ⟨_, (pss_one (ps_ret (pe_calM (pv 0) cl_Shares q_Shares_ahead_of (hr.mono (by decide)) pass0 (pa_cons (pe_fldK (K := K) rfl (pv 0) rfl) pa_nil)))), q⟩) ?_

  obtain ⟨p, cs, L, rfl, hs, h8, k⟩ := h
  rw [show start ["self"] [.ref p] = [some (.ref p)] from rfl]
  obtain ⟨l, hs⟩ := hs.sh_in
  walk_at "g"
  refine ⟨p, cs.length, cs, L, rfl, HS.sh_out hs, h8, Nat.le_refl _, fun H' hs => ?_⟩
  rw [List.take_length]
  exact k _ hs
abbrev s_Shares_init : Stmt := (inClass (top 17) 0)
theorem sc_Shares_init : FnScope ["self", "counts", "sign"] ["self", "counts"] (defScope s_Shares_init) := ⟨rfl, rfl, rfl, by decide +kernel, rfl, by decide +kernel, by decide +kernel⟩
theorem ok_Shares_init {f : Addr} {fd : FuncData} (F : Fun K "__init__" "Shares.__init__" s_Shares_init f fd) (b_range : mg "range" = none) (b_len : mg "len" = none) (cl_Shares : Cls K C_Shares) (n_Shares_signs : NoAttr K C_Shares "signs") (n_Shares_tree : NoAttr K C_Shares "tree") (q_Shares_climb : CalM P w K mg base CX0 1 C_Shares "climb" ["self", "sign", "by"] (spClimb C_Shares)) (q_need_counts : Cal P w K mg base CX0 2 "need_counts" ["counts"] (spNeedCounts K)) : FnOk P w K mg base CX0 (3) f fd ["self", "counts"] (spSharesInit K C_Shares) := by
  have nd := sc_Shares_init.nd
  refine F.ok sc_Shares_init (fun vs H Q E h => ?_) (fun cdv A outer s H vs Q E hr h => ?_)
  · repeat (first | (obtain ⟨rfl, _⟩ := h; rfl) | (obtain ⟨_, h⟩ := h))
  refine (fun q => ⟨_, (pss_cons (ps_expr (pe_cal q_need_counts (hr.mono (by decide)) rfl pass0 (pa_cons (pv 1) pa_nil))) (pss_cons (ps_fldK (K := K) rfl (pv 0) (pe_callB (call_lenK (K := K) rfl) rfl b_len PySem.boot_len (pa_cons (pv 1) pa_nil)) rfl) (pss_cons (ps_fldK (K := K) rfl (pv 0) (pe_op op_mulG (pe_lst (pa_cons pe_int pa_nil)) (pe_op (op_addK (K := K) rfl) (pe_callB (call_lenK (K := K) rfl) rfl b_len PySem.boot_len (pa_cons (pv 1) pa_nil)) pe_int)) rfl) (pss_one (ps_for PassesOwn.never rfl (pi_range1 rfl b_range (pa_cons (pe_callB (call_lenK (K := K) rfl) rfl b_len PySem.boot_len (pa_cons (pv 1) pa_nil)) pa_nil)) (pg_name (i := 2) nd rfl (Or.inl rfl)) (pss_one (ps_expr (pe_calM (pv 0) cl_Shares q_Shares_climb (hr.mono (by decide)) pass0 (pa_cons (pv 2) (pa_cons (pe_ix (ix_seqK (K := K) rfl) (pv 1) (pv 2) (fun _ _ => rfl)) pa_nil)))))))))), q⟩) ?_

  obtain ⟨p, q, t, cs, L, rfl, hs, hr1, hg, h4, k⟩ := h
  have h8 := hg.2.1
  rw [show start ["self", "counts", "sign"] [.ref p, .ref q] = [some (.ref p), some (.ref q), none] from rfl]
  walk_at "g"
  refine ⟨q, t, cs, _, rfl, hs, hr1.there, hg, h4, fun H' hs => ?_⟩
  walk_at "g"
  refine s_lenB (hr1.there.sq hs) ?_
  walk_at "g"
  walk_at "p"
  case k =>
  intro H' hs
  walk_at "g"
  refine s_lstN (by decide) fun z H' hs => ?_
  walk_at "g"
  refine s_lenB (hr1.there.there.sq hs) ?_
  walk_at "g"
  have e1 : (((iv cs).length : Int) + 1).toNat = cs.length + 1 := by rw [iv_len]; omega
  refine s_rep (by rw [iv_len]; omega) (by rw [iv_len]; omega) (by rw [e1]; exact small_line (by simp; omega)) fun l H' hs => ?_
  walk_at "g"
  walk_at "p"
  case k =>
  intro H' hs
  walk_at "g"
  refine s_lenB (hr1.there.there.there.sq hs) ?_
  walk_at "g"
  refine s_rngK1 (by rw [iv_len]; omega) (by rw [iv_len]; omega) ?_
  have e2 : (((iv cs).length : Int)).toNat = cs.length := by rw [iv_len]; omega
  rw [e2]
  have e3 : (List.replicate (((iv cs).length : Int) + 1).toNat [V.int 0]).flatten = iv (treeOf (List.replicate cs.length 0)) := by
    rw [e1]
    have : ∀ n : Nat, n ≤ 8 → (List.replicate (n + 1) [V.int 0]).flatten = iv (treeOf (List.replicate n 0)) := by
      intro n hn
      have : n = 0 ∨ n = 1 ∨ n = 2 ∨ n = 3 ∨ n = 4 ∨ n = 5 ∨ n = 6 ∨ n = 7 ∨ n = 8 := by omega
      rcases this with rfl | rfl | rfl | rfl | rfl | rfl | rfl | rfl | rfl <;> decide +kernel
    exact this _ h8
  rw [e3, iv_len] at hs
  have hb := HS.sh_out (C := C_Shares) (p := p) (l := l) (cs := List.replicate cs.length 0) (L := L) (by rw [List.length_replicate]; exact hs.re)
  refine f_range (fun i σ H => ∃ v, σ = [some (.ref p), some (.ref q), v] ∧ HS H (shR C_Shares p (cs.take i ++ List.replicate (cs.length - i) 0) :: L)) ⟨_, rfl, by simpa using hb⟩ ?_ ?_
  · rintro i σ H hi ⟨v, rfl, hs⟩
    have hl : (cs.take i ++ List.replicate (cs.length - i) (0 : Int)).length = cs.length := by simp; omega
    have hc : cs[i]? = some (cs.getD i 0) := by rw [List.getD_eq_getElem?_getD, List.getElem?_eq_getElem hi]; rfl
    walk_at "g"
    obtain ⟨l, hs⟩ := hs.sh_in
    walk_at "g"
    refine s_ixB (hr1.there.there.sq hs) (at_iv hc) ?_
    walk_at "g"
    refine ⟨p, i, _, _, L, rfl, HS.sh_out hs, by rw [hl]; exact h8, by rw [hl]; exact hi, fun H' hs => ?_⟩
    walk_at "g"
    refine ⟨_, rfl, ?_⟩
    rw [fill_step rfl hi] at hs
    exact hs
  · rintro σ H ⟨v, rfl, hs⟩
    exact k _ (by simpa using hs)
abbrev s_Shares_grow : Stmt := (inClass (top 17) 7)
theorem sc_Shares_grow : FnScope ["self", "sign", "by"] ["self", "sign", "by"] (defScope s_Shares_grow) := ⟨rfl, rfl, rfl, by decide +kernel, rfl, by decide +kernel, by decide +kernel⟩
theorem ok_Shares_grow {f : Addr} {fd : FuncData} (F : Fun K "grow" "Shares.grow" s_Shares_grow f fd) (cl_Shares : Cls K C_Shares) (k_MOST_COUNT : mg "MOST_COUNT" = some (.int (4000) t_MOST_COUNT)) (n_Shares_signs : NoAttr K C_Shares "signs") (q_Shares_climb : CalM P w K mg base CX0 1 C_Shares "climb" ["self", "sign", "by"] (spClimb C_Shares)) (q_is_within : Cal P w K mg base CX0 1 "is_within" ["number", "low", "high"] (spWithin)) (q_Shares_need_sign : CalM P w K mg base CX0 2 C_Shares "need_sign" ["self", "sign", "most"] (spNeedSign)) : FnOk P w K mg base CX0 (3) f fd ["self", "sign", "by"] (spGrow C_Shares) := by
  have nd := sc_Shares_grow.nd
  refine F.ok sc_Shares_grow (fun vs H Q E h => ?_) (fun cdv A outer s H vs Q E hr h => ?_)
  · repeat (first | (obtain ⟨rfl, _⟩ := h; rfl) | (obtain ⟨_, h⟩ := h))
  refine (fun q => ⟨_, (pss_cons (ps_expr (pe_calM (pv 0) cl_Shares q_Shares_need_sign (hr.mono (by decide)) pass0 (pa_cons (pv 1) (pa_cons (pe_op op_subG (pe_fldK (K := K) rfl (pv 0) rfl) pe_int) pa_nil)))) (pss_cons (ps_if (pt_not (pt_val (pe_cal q_is_within (hr.mono (by decide)) rfl pass0 (pa_cons (pv 2) (pa_cons pe_int (pa_cons (pe_glob (v := .int (4000)) rfl k_MOST_COUNT ⟨_, rfl⟩) pa_nil)))))) pss_never pss_nil) (pss_one (ps_expr (pe_calM (pv 0) cl_Shares q_Shares_climb (hr.mono (by decide)) pass0 (pa_cons (pv 1) (pa_cons (pv 2) pa_nil))))))), q⟩) ?_

  obtain ⟨p, s, b, cs, L, rfl, hs, h8, hl, h0, h1, k⟩ := h
  rw [show start ["self", "sign", "by"] [.ref p, .int (s : Nat), .int b] = [some (.ref p), some (.int (s : Nat)), some (.int b)] from rfl]
  obtain ⟨l, hs⟩ := hs.sh_in
  walk_at "g"
  refine c_needSign (by omega) (by omega) ?_
  walk_at "g"
  refine c_within ?_
  walk_at "g"
  refine i_nd (fun n => absurd ⟨h0, h1⟩ n) fun _ => ?_
  walk_at "g"
  exact ⟨p, s, b, cs, L, rfl, HS.sh_out hs, h8, hl, k⟩
abbrev s_Shares_all_counts : Stmt := (inClass (top 17) 9)
theorem sc_Shares_all_counts : FnScope ["self", "sign"] ["self"] (defScope s_Shares_all_counts) := ⟨rfl, rfl, rfl, by decide +kernel, rfl, by decide +kernel, by decide +kernel⟩
theorem ok_Shares_all_counts {f : Addr} {fd : FuncData} (F : Fun K "all_counts" "Shares.all_counts" s_Shares_all_counts f fd) (b_range : mg "range" = none) (cl_Shares : Cls K C_Shares) (n_Shares_signs : NoAttr K C_Shares "signs") (q_Shares_many_of : CalM P w K mg base CX0 4 C_Shares "many_of" ["self", "sign"] (spManyOf C_Shares)) : FnOk P w K mg base CX0 (5) f fd ["self"] (spAllCounts C_Shares) := by
  have nd := sc_Shares_all_counts.nd
  refine F.ok sc_Shares_all_counts (fun vs H Q E h => ?_) (fun cdv A outer s H vs Q E hr h => ?_)
  · repeat (first | (obtain ⟨rfl, _⟩ := h; rfl) | (obtain ⟨_, h⟩ := h))
  refine (fun q => ⟨_, (pss_one (ps_ret (pe_lc (own := [("sign", 1)]) rfl nd (pi_range1 rfl b_range (pa_cons (pe_fldK (K := K) rfl (pv 0) rfl) pa_nil)) (blkOk_by (N := ["self", "sign"]) (sc := defScope s_Shares_all_counts) (by decide +kernel)) (fun _ _ _ _ _ => (pg_name (i := 1) nd rfl (Or.inl rfl))) (fun _ _ _ _ _ => pts_nil) (fun _ _ _ _ _ => (pe_calM (pv 0) cl_Shares q_Shares_many_of (hr.mono (by decide)) pass0 (pa_cons (pv 1) pa_nil)))))), q⟩) ?_

  obtain ⟨p, cs, L, rfl, hs, h8, k⟩ := h
  rw [show start ["self", "sign"] [.ref p] = [some (.ref p), none] from rfl]
  obtain ⟨l, hs⟩ := hs.sh_in
  walk_at "g"
  refine s_rngK1 (by omega) (by omega) ?_
  rw [show ((cs.length : Int)).toNat = cs.length from by omega]
  have hs := HS.sh_out hs
  refine c_range (fun D i H => HS H (pt D (.lst (iv (cs.take i))) :: shR C_Shares p cs :: L)) (fun D H' h => h) ?_ ?_
  · intro D i H hi hs
    walk_at "n"
    refine ⟨rfl, ?_⟩
    walk_at "g"
    obtain ⟨l, hs⟩ := (hs.pk (.there .here)).sh_in
    walk_at "g"
    have hs := HS.sh_out hs
    refine c_manyOf i rfl h8 hi fun H' hs => ?_
    refine s_acc (small_lt (by rw [iv_len, List.length_take]; omega)) fun H' hs => ?_
    rw [iv_snoc (get_getD hi)] at hs
    exact hs
  · intro D H hs
    rw [List.take_length] at hs
    exact k _ _ hs
abbrev s_Shares_halve : Stmt := (inClass (top 17) 8)
theorem sc_Shares_halve : FnScope ["self", "some", "one", "sign"] ["self"] (defScope s_Shares_halve) := ⟨rfl, rfl, rfl, by decide +kernel, rfl, by decide +kernel, by decide +kernel⟩
theorem ok_Shares_halve {f : Addr} {fd : FuncData} (F : Fun K "halve" "Shares.halve" s_Shares_halve f fd) (b_range : mg "range" = none) (cl_Shares : Cls K C_Shares) (n_Shares_tree : NoAttr K C_Shares "tree") (n_Shares_signs : NoAttr K C_Shares "signs") (q_Shares_climb : CalM P w K mg base CX0 1 C_Shares "climb" ["self", "sign", "by"] (spClimb C_Shares)) (q_Shares_all_counts : CalM P w K mg base CX0 5 C_Shares "all_counts" ["self"] (spAllCounts C_Shares)) : FnOk P w K mg base CX0 (6) f fd ["self"] (spHalve C_Shares) := by
  have nd := sc_Shares_halve.nd
  refine F.ok sc_Shares_halve (fun vs H Q E h => ?_) (fun cdv A outer s H vs Q E hr h => ?_)
  · repeat (first | (obtain ⟨rfl, _⟩ := h; rfl) | (obtain ⟨_, h⟩ := h))
  refine (fun q => ⟨_, (pss_cons (ps_setLc (i := 1) (own := [("one", 2)]) rfl nd rfl rfl (sw_true rfl rfl rfl (by decide +kernel)) (pi_anyK (K := K) rfl (pe_calM0 (pv 0) cl_Shares q_Shares_all_counts (hr.mono (by decide)) pass0)) (blkOk_by (N := ["self", "some", "one", "sign"]) (sc := defScope s_Shares_halve) (by decide +kernel)) (fun _ _ _ _ _ => (pg_name (i := 2) nd rfl (Or.inl rfl))) (fun _ _ _ _ _ => pts_nil) (fun _ _ _ _ _ => (pe_op op_divG (pe_op (op_addK (K := K) rfl) (pv 2) pe_int) pe_int))) (pss_cons (ps_fldK (K := K) rfl (pv 0) (pe_op op_mulG (pe_lst (pa_cons pe_int pa_nil)) (pe_op (op_addK (K := K) rfl) (pe_fldK (K := K) rfl (pv 0) rfl) pe_int)) rfl) (pss_one (ps_for PassesOwn.never rfl (pi_range1 rfl b_range (pa_cons (pe_fldK (K := K) rfl (pv 0) rfl) pa_nil)) (pg_name (i := 3) nd rfl (Or.inl rfl)) (pss_one (ps_expr (pe_calM (pv 0) cl_Shares q_Shares_climb (hr.mono (by decide)) pass0 (pa_cons (pv 3) (pa_cons (pe_ix (ix_seqK (K := K) rfl) (pv 1) (pv 3) (fun _ _ => rfl)) pa_nil))))))))), q⟩) ?_

  obtain ⟨p, cs, L, rfl, hs, h8, k⟩ := h
  rw [show start ["self", "some", "one", "sign"] [.ref p] = [some (.ref p), none, none, none] from rfl]
  walk_at "g"
  refine s_any ?_
  walk_at "g"
  obtain ⟨l, hs⟩ := hs.sh_in
  walk_at "g"
  have hs := HS.sh_out hs
  refine c_allCounts h8 fun q H' hs => ?_
  refine s_lsK ?_
  refine c_list (iv cs) (fun D i H => HS H (pt D (.lst (iv ((halves cs).take i))) :: pt q (.lst (iv cs)) :: shR C_Shares p cs :: L)) (fun D H' h => h) (fun D i H _ h => RdL.sq h) ?_ ?_
  · intro D i x H hx hs
    obtain ⟨c, hc, rfl⟩ := iv_at hx
    walk_at "n"
    refine ⟨rfl, ?_⟩
    walk_at "g"
    refine s_div (by exact ⟨by decide, by decide⟩) ?_
    have hi := (List.getElem?_eq_some_iff.mp hc).1
    refine s_acc (small_lt (by rw [iv_len, List.length_take, halves, List.length_map]; omega)) fun H' hs => ?_
    have e : iv ((halves cs).take i) ++ [V.int ((c + 1) / 2)] = iv ((halves cs).take (i + 1)) := by
      rw [List.take_add_one, halves, List.getElem?_map, hc]
      simp [iv]
    rw [e] at hs
    exact hs
  · intro D H hs
    walk_at "g"
    refine s_lstN (by walk_at "z") fun z H' hs => ?_
    walk_at "g"
    obtain ⟨l, hs⟩ := (hs.re : HS _ (shR C_Shares p cs :: pt z (.lst [.int 0]) :: pt D (.lst (iv (List.take (iv cs).length (halves cs)))) :: L)).sh_in
    walk_at "g"
    have e1 : ((cs.length : Int) + 1).toNat = cs.length + 1 := by omega
    refine s_rep (by omega) (by omega) (by rw [e1]; exact small_line (by simp; omega)) fun l2 H' hs => ?_
    walk_at "g"
    walk_at "p"
    case k =>
    intro H' hs
    walk_at "g"
    refine s_rngK1 (by omega) (by omega) ?_
    rw [show ((cs.length : Int)).toNat = cs.length from by omega]
    have e3 : (List.replicate ((cs.length : Int) + 1).toNat [V.int 0]).flatten = iv (treeOf (List.replicate cs.length 0)) := by
      rw [e1]
      have : ∀ n : Nat, n ≤ 8 → (List.replicate (n + 1) [V.int 0]).flatten = iv (treeOf (List.replicate n 0)) := by
        intro n hn
        have : n = 0 ∨ n = 1 ∨ n = 2 ∨ n = 3 ∨ n = 4 ∨ n = 5 ∨ n = 6 ∨ n = 7 ∨ n = 8 := by omega
        rcases this with rfl | rfl | rfl | rfl | rfl | rfl | rfl | rfl | rfl <;> decide +kernel
      exact this _ h8
    have ec : List.take (iv cs).length (halves cs) = halves cs := List.take_of_length_le (by rw [iv_len, halves, List.length_map]; exact Nat.le_refl _)
    have hh : (halves cs).length = cs.length := by rw [halves, List.length_map]
    rw [e3, ec] at hs
    have hb := HS.sh_out (C := C_Shares) (p := p) (l := l2) (cs := List.replicate cs.length 0) (L := pt D (.lst (iv (halves cs))) :: L) (by rw [List.length_replicate]; exact hs.re)
    refine f_range (fun i σ H => ∃ v w, σ = [some (.ref p), some (.ref D), v, w] ∧ HS H (shR C_Shares p ((halves cs).take i ++ List.replicate (cs.length - i) 0) :: pt D (.lst (iv (halves cs))) :: L)) ⟨_, _, rfl, by simpa using hb⟩ ?_ ?_
    · rintro i σ H hi ⟨v, w, rfl, hs⟩
      have hl : ((halves cs).take i ++ List.replicate (cs.length - i) (0 : Int)).length = cs.length := by simp; omega
      have hc : (halves cs)[i]? = some ((halves cs).getD i 0) := by rw [List.getD_eq_getElem?_getD, List.getElem?_eq_getElem (by omega)]; rfl
      walk_at "g"
      obtain ⟨l, hs⟩ := hs.sh_in
      walk_at "g"
      refine s_ixL (at_iv hc) ?_
      walk_at "g"
      refine ⟨p, i, _, _, _, rfl, HS.sh_out hs, by rw [hl]; exact h8, by rw [hl]; exact hi, fun H' hs => ?_⟩
      walk_at "g"
      refine ⟨_, _, rfl, ?_⟩
      rw [fill_step hh hi] at hs
      exact hs
    · rintro σ H ⟨v, w, rfl, hs⟩
      have e4 : (halves cs).take cs.length = halves cs := List.take_of_length_le (by omega)
      rw [e4, Nat.sub_self, List.replicate_zero, List.append_nil] at hs
      exact k _ hs.re

abbrev s_l_taken : Stmt := (top 58)
theorem sc_l_taken : FnScope ["_law_row", "_law_many", "_law_found", "_law_cell"] ["_law_row", "_law_many"] (defScope s_l_taken) := ⟨rfl, rfl, rfl, by decide +kernel, rfl, by decide +kernel, by decide +kernel⟩
theorem ok_l_taken {f : Addr} {fd : FuncData} (F : Fun K "_law_taken" "_law_taken" s_l_taken f fd) (b_len : mg "len" = none) : FnOk P w K mg base CX0 (1) f fd ["_law_row", "_law_many"] (spTaken K) := by
  have nd := sc_l_taken.nd
  refine F.ok sc_l_taken (fun vs H Q E h => ?_) (fun cdv A outer s H vs Q E hr h => ?_)
  · repeat (first | (obtain ⟨rfl, _⟩ := h; rfl) | (obtain ⟨_, h⟩ := h))
  refine (fun q => ⟨_, (pss_cons (ps_if (pt_cmpR op_gtG (pe_ix (ix_seqK (K := K) rfl) (pv 0) pe_int (fun _ _ => rfl)) pe_int (nomark _)) (pss_cons (ps_set (i := 2) nd rfl (Or.inl rfl) (pe_op op_modG (pe_ix (ix_seqK (K := K) rfl) (pv 0) pe_int (fun _ _ => rfl)) (pv 1))) (pss_cons (ps_asg (pe_op op_divG (pe_ix (ix_seqK (K := K) rfl) (pv 0) pe_int (fun _ _ => rfl)) (pv 1)) (pg_sub (pv 0) pe_int set_list)) (pss_one (ps_ret (pv 2))))) pss_nil) (pss_cons (ps_asg (pe_op (op_addK (K := K) rfl) (pe_ix (ix_seqK (K := K) rfl) (pv 0) pe_int (fun _ _ => rfl)) pe_int) (pg_sub (pv 0) pe_int set_list)) (pss_cons (ps_if (pt_cmpR op_gtG (pe_ix (ix_seqK (K := K) rfl) (pv 0) pe_int (fun _ _ => rfl)) (pe_callB (call_lenK (K := K) rfl) rfl b_len PySem.boot_len (pa_cons (pe_ix (ix_seqK (K := K) rfl) (pv 0) pe_int (fun _ _ => rfl)) pa_nil)) (nomark _)) (pss_cons (ps_asg (pe_op op_modG (pe_op (op_addK (K := K) rfl) (pe_op op_mulG (pe_ix (ix_seqK (K := K) rfl) (pv 0) pe_int (fun _ _ => rfl)) pe_int) pe_int) pe_int) (pg_sub (pv 0) pe_int set_list)) (pss_one (ps_ret (pe_op op_modG (pe_op op_divG (pe_ix (ix_seqK (K := K) rfl) (pv 0) pe_int (fun _ _ => rfl)) pe_int) (pv 1))))) pss_nil) (pss_cons (ps_set (i := 3) nd rfl (Or.inl rfl) (pe_ix (ix_seqK (K := K) rfl) (pe_ix (ix_seqK (K := K) rfl) (pv 0) pe_int (fun _ _ => rfl)) (pe_op op_subG (pe_ix (ix_seqK (K := K) rfl) (pv 0) pe_int (fun _ _ => rfl)) pe_int) (fun _ _ => rfl))) (pss_cons (ps_asg (pe_op op_modG (pe_op (op_addK (K := K) rfl) (pe_op (op_addK (K := K) rfl) (pe_op op_mulG (pe_ix (ix_seqK (K := K) rfl) (pv 0) pe_int (fun _ _ => rfl)) pe_int) (pv 3)) pe_int) pe_int) (pg_sub (pv 0) pe_int set_list)) (pss_cons (ps_if (pt_cmpR op_geG (pv 3) (pe_op op_powG pe_int pe_int) (nomark _)) (pss_one (ps_asg (pe_op op_divG (pv 3) (pv 1)) (pg_sub (pv 0) pe_int set_list))) pss_nil) (pss_one (ps_ret (pe_op op_modG (pv 3) (pv 1)))))))))), q⟩) ?_

  obtain ⟨p, n, L, rfl, hs, h0, h1, k⟩ := h
  rw [show start ["_law_row", "_law_many", "_law_found", "_law_cell"] [.ref p, .int n] = [some (.ref p), some (.int n), none, none] from rfl]
  obtain ⟨a, zs, i, m, c, hr1, hs⟩ := hs.row_in
  obtain ⟨hi, hm, hm'⟩ := hr1
  walk_at "g"
  refine s_ixL (v := .int c) rfl ?_
  walk_at "g"
  refine i_d (fun hc => ?_) (fun hc => ?_)
  · walk_at "g"
    refine s_ixL (v := .int c) rfl ?_
    walk_at "g"
    refine s_mod h0 ?_
    walk_at "g"
    refine s_ixL (v := .int c) rfl ?_
    walk_at "g"
    refine s_div (div64 h0 h1) ?_
    walk_at "g"
    refine s_setL (j := 3) rfl fun H' hs => ?_
    walk_at "g"
    exact k _ _ (Int.emod_nonneg _ (by omega)) (Int.emod_lt_of_pos _ h0) (HS.row_out ⟨hi, hm, hm'⟩ hs)
  · walk_at "g"
    refine s_ixL (v := .int i) rfl ?_
    walk_at "g"
    refine s_setL (j := 1) rfl fun H' hs => ?_
    walk_at "g"
    refine s_ixL (v := .int (i + 1)) rfl ?_
    walk_at "g"
    refine s_ixL (v := .ref a) rfl ?_
    walk_at "g"
    refine s_lenL ?_
    walk_at "g"
    refine i_d (fun hl => ?_) (fun hl => ?_)
    · walk_at "g"
      refine s_ixL (v := .int m) rfl ?_
      walk_at "g"
      refine s_mul (mulx64 (by omega) (by omega)) ?_
      walk_at "g"
      refine s_mod (by decide) ?_
      walk_at "g"
      refine s_setL (j := 2) rfl fun H' hs => ?_
      walk_at "g"
      refine s_ixL (v := .int ((m * 48271 + 11) % 2147483647)) rfl ?_
      walk_at "g"
      refine s_div (by exact ⟨by decide, by decide⟩) ?_
      walk_at "g"
      refine s_mod h0 ?_
      exact k _ _ (Int.emod_nonneg _ (by omega)) (Int.emod_lt_of_pos _ h0) (HS.row_out ⟨by omega, by omega, by omega⟩ hs)
    · have hlt : i.toNat < zs.length := by rw [iv_len] at hl; omega
      obtain ⟨z, hz⟩ : ∃ z, zs[i.toNat]? = some z := ⟨_, List.getElem?_eq_getElem hlt⟩
      walk_at "g"
      refine s_ixL (v := .ref a) rfl ?_
      walk_at "g"
      refine s_ixL (v := .int (i + 1)) rfl ?_
      walk_at "g"
      refine s_ixL (at_of (j := i.toNat) (v := .int z) (by omega) (by rw [iv, List.getElem?_map, hz]; rfl)) ?_
      walk_at "g"
      refine s_ixL (v := .int m) rfl ?_
      walk_at "g"
      refine s_mul (mulx64 (by omega) (by omega)) ?_
      walk_at "g"
      refine s_mod (by decide) ?_
      walk_at "g"
      refine s_setL (j := 2) rfl fun H' hs => ?_
      walk_at "g"
      refine s_pow (by exact ⟨by decide, by decide, by decide⟩) ?_
      walk_at "g"
      refine i_d (fun hb => ?_) (fun hb => ?_)
      · walk_at "g"
        refine s_div (div64 h0 h1) ?_
        walk_at "g"
        refine s_setL (j := 3) rfl fun H' hs => ?_
        walk_at "g"
        refine s_mod h0 ?_
        exact k _ _ (Int.emod_nonneg _ (by omega)) (Int.emod_lt_of_pos _ h0) (HS.row_out ⟨by omega, by omega, by omega⟩ hs)
      · walk_at "g"
        refine s_mod h0 ?_
        exact k _ _ (Int.emod_nonneg _ (by omega)) (Int.emod_lt_of_pos _ h0) (HS.row_out ⟨by omega, by omega, by omega⟩ hs)



abbrev s_are_learning : Stmt := (top 31)
theorem sc_are_learning : FnScope ["signs", "step", "limit"] ["signs", "step", "limit"] (defScope s_are_learning) := ⟨rfl, rfl, rfl, by decide +kernel, rfl, by decide +kernel, by decide +kernel⟩
theorem ok_are_learning {f : Addr} {fd : FuncData} (F : Fun K "are_learning" "are_learning" s_are_learning f fd) (k_MOST_LIMIT : mg "MOST_LIMIT" = some (.int (200) t_MOST_LIMIT)) (k_MOST_STEP : mg "MOST_STEP" = some (.int (20) t_MOST_STEP)) (k_MOST_SIGNS : mg "MOST_SIGNS" = some (.int (8) t_MOST_SIGNS)) (q_is_within : Cal P w K mg base CX0 1 "is_within" ["number", "low", "high"] (spWithin)) : FnOk P w K mg base CX0 (2) f fd ["signs", "step", "limit"] (spAreLearning) := by
  have nd := sc_are_learning.nd
  refine F.ok sc_are_learning (fun vs H Q E h => ?_) (fun cdv A outer s H vs Q E hr h => ?_)
  · repeat (first | (obtain ⟨rfl, _⟩ := h; rfl) | (obtain ⟨_, h⟩ := h))
  refine (fun q => ⟨_, (pss_one (ps_ret (pe_and (pe_cal q_is_within (hr.mono (by decide)) rfl pass0 (pa_cons (pv 0) (pa_cons pe_int (pa_cons (pe_glob (v := .int (8)) rfl k_MOST_SIGNS ⟨_, rfl⟩) pa_nil)))) (pe_and (pe_cal q_is_within (hr.mono (by decide)) rfl pass0 (pa_cons (pv 1) (pa_cons pe_int (pa_cons (pe_glob (v := .int (20)) rfl k_MOST_STEP ⟨_, rfl⟩) pa_nil)))) (pe_one (pe_cal q_is_within (hr.mono (by decide)) rfl pass0 (pa_cons (pv 2) (pa_cons (pv 0) (pa_cons (pe_glob (v := .int (200)) rfl k_MOST_LIMIT ⟨_, rfl⟩) pa_nil))))))))), q⟩) ?_

  obtain ⟨s, st, li, rfl, ⟨⟨h1, h2⟩, ⟨h3, h4⟩, h5, h6⟩, k⟩ := h
  rw [show start ["signs", "step", "limit"] [.int s, .int st, .int li] = [some (.int s), some (.int st), some (.int li)] from rfl]
  walk_at "g"
  refine c_within ?_
  rw [decide_eq_true (show (1 ≤ s ∧ s ≤ 8) from ⟨h1, h2⟩)]
  walk_at "g"
  refine c_within ?_
  rw [decide_eq_true (show (1 ≤ st ∧ st ≤ 20) from ⟨h3, h4⟩)]
  walk_at "g"
  refine c_within ?_
  rw [decide_eq_true (show (s ≤ li ∧ li ≤ 200) from ⟨h5, h6⟩)]
  exact k
abbrev s_signs_of : Stmt := (top 34)
theorem sc_signs_of : FnScope ["model"] ["model"] (defScope s_signs_of) := ⟨rfl, rfl, rfl, by decide +kernel, rfl, by decide +kernel, by decide +kernel⟩
theorem ok_signs_of {f : Addr} {fd : FuncData} (F : Fun K "signs_of" "signs_of" s_signs_of f fd) (k_BLEND : mg "BLEND" = some (.str "blend" t_BLEND)) (k_AHEAD : mg "AHEAD" = some (.str "ahead" t_AHEAD)) (k_LEARN : mg "LEARN" = some (.str "learn" t_LEARN)) (k_PLAIN : mg "PLAIN" = some (.str "plain" t_PLAIN)) (b_len : mg "len" = none) (n : Nat) (q_signs_of : Cal P w K mg base CX0 (n + 1) "signs_of" ["model"] (spSignsOf K n)) : FnOk P w K mg base CX0 (n + 2) f fd ["model"] (spSignsOf K (n + 1)) := by
  have nd := sc_signs_of.nd
  refine F.ok sc_signs_of (fun vs H Q E h => ?_) (fun cdv A outer s H vs Q E hr h => ?_)
  · repeat (first | (obtain ⟨rfl, _⟩ := h; rfl) | (obtain ⟨_, h⟩ := h))
  refine (fun q => ⟨_, (pss_cons (ps_if (pt_cmpR (op_eqK (K := K) rfl hr.units) (pe_ix (ix_seqK (K := K) rfl) (pv 0) pe_int (fun _ _ => rfl)) (pe_glob (v := .str "plain") rfl k_PLAIN ⟨_, rfl⟩) (nomark _)) (pss_one (ps_ret (pe_callB (call_lenK (K := K) rfl) rfl b_len PySem.boot_len (pa_cons (pe_ix (ix_seqK (K := K) rfl) (pv 0) pe_int (fun _ _ => rfl)) pa_nil)))) pss_nil) (pss_one (ps_ret (pe_ifExp (pt_cmpR (op_neK (K := K) rfl hr.units) (pe_ix (ix_seqK (K := K) rfl) (pv 0) pe_int (fun _ _ => rfl)) (pe_glob (v := .str "blend") rfl k_BLEND ⟨_, rfl⟩) (nomark _)) (pe_dget (hu_of hr) (pe_disp (pps_cons (pe_glob (v := .str "learn") rfl k_LEARN ⟨_, rfl⟩) (pe_ix (ix_seqK (K := K) rfl) (pv 0) pe_int (fun _ _ => rfl)) (pps_cons (pe_glob (v := .str "ahead") rfl k_AHEAD ⟨_, rfl⟩) (pe_ix (ix_seqK (K := K) rfl) (pv 0) pe_int (fun _ _ => rfl)) pps_nil)) rfl rfl (by intro q; cases q) (by decide)) (pe_ix (ix_seqK (K := K) rfl) (pv 0) pe_int (fun _ _ => rfl)) (fun _ _ => rfl)) (pe_cal q_signs_of hr rfl pass0 (pa_cons (pe_ix (ix_seqK (K := K) rfl) (pv 0) pe_int (fun _ _ => rfl)) pa_nil)))))), q⟩) ?_

  obtain ⟨x, m, L, rfl, hs, hr1, ok, k⟩ := h
  rw [show start ["model"] [x] = [some x] from rfl]
  cases m with
  | plain cs =>
    obtain ⟨p, q, rfl, hs⟩ := hs.md_plain (hr1.rd hs)
    walk_at "g"
    refine s_ixT (v := .str "plain") rfl ?_
    walk_at "g"
    walk_at "e"
    refine s_ixT (v := .ref q) rfl ?_
    walk_at "g"
    refine s_lenT ?_
    rw [iv_len]
    exact k _ hs.re
  | learn s st li =>
    obtain ⟨p, rfl, hs⟩ := hs.md_learn (hr1.rd hs)
    walk_at "g"
    refine s_ixT (v := .str "learn") rfl ?_
    walk_at "g"
    walk_at "e"
    refine s_ixT (v := .str "learn") rfl ?_
    walk_at "g"
    walk_at "e"
    refine s_disp fun d H' hs => ?_
    walk_at "g"
    refine s_ixT (v := .int s) rfl ?_
    walk_at "g"
    refine s_ixT (v := .int st) rfl ?_
    walk_at "g"
    refine s_dispK [(.inr "learn", .int s), (.inr "ahead", .int st)] rfl (by simp) fun H' hs => ?_
    walk_at "g"
    refine s_ixT (v := .str "learn") rfl ?_
    refine s_dgK (.inr "learn") rfl (v := .int s) rfl ?_
    exact k _ hs.re
  | ahead o s st li =>
    obtain ⟨p, rfl, hs⟩ := hs.md_ahead (hr1.rd hs)
    walk_at "g"
    refine s_ixT (v := .str "ahead") rfl ?_
    walk_at "g"
    walk_at "e"
    refine s_ixT (v := .str "ahead") rfl ?_
    walk_at "g"
    walk_at "e"
    refine s_disp fun d H' hs => ?_
    walk_at "g"
    refine s_ixT (v := .int o) rfl ?_
    walk_at "g"
    refine s_ixT (v := .int s) rfl ?_
    walk_at "g"
    refine s_dispK [(.inr "learn", .int o), (.inr "ahead", .int s)] rfl (by simp) fun H' hs => ?_
    walk_at "g"
    refine s_ixT (v := .str "ahead") rfl ?_
    refine s_dgK (.inr "ahead") rfl (v := .int s) rfl ?_
    exact k _ hs.re
  | blend a b w =>
    obtain ⟨p, u, v, rfl, hs⟩ := hs.md_blend (hr1.rd hs)
    walk_at "g"
    refine s_ixT (v := .str "blend") rfl ?_
    walk_at "g"
    walk_at "e"
    refine s_ixT (v := .str "blend") rfl ?_
    walk_at "g"
    walk_at "e"
    refine s_ixT (v := u) rfl ?_
    walk_at "g"
    refine c_signsOf ok.2.1 fun H' hs => ?_
    exact k _ hs.re
abbrev s_most_of : Stmt := (top 35)
theorem sc_most_of : FnScope ["model"] ["model"] (defScope s_most_of) := ⟨rfl, rfl, rfl, by decide +kernel, rfl, by decide +kernel, by decide +kernel⟩
theorem ok_most_of {f : Addr} {fd : FuncData} (F : Fun K "most_of" "most_of" s_most_of f fd) (k_BLEND : mg "BLEND" = some (.str "blend" t_BLEND)) (k_PLAIN : mg "PLAIN" = some (.str "plain" t_PLAIN)) (b_sum : mg "sum" = none) (n : Nat) (q_most_of : Cal P w K mg base CX0 (n + 1) "most_of" ["model"] (spMostOf K n)) : FnOk P w K mg base CX0 (n + 2) f fd ["model"] (spMostOf K (n + 1)) := by
  have nd := sc_most_of.nd
  refine F.ok sc_most_of (fun vs H Q E h => ?_) (fun cdv A outer s H vs Q E hr h => ?_)
  · repeat (first | (obtain ⟨rfl, _⟩ := h; rfl) | (obtain ⟨_, h⟩ := h))
  refine (fun q => ⟨_, (pss_cons (ps_if (pt_cmpR (op_eqK (K := K) rfl hr.units) (pe_ix (ix_seqK (K := K) rfl) (pv 0) pe_int (fun _ _ => rfl)) (pe_glob (v := .str "plain") rfl k_PLAIN ⟨_, rfl⟩) (nomark _)) (pss_one (ps_ret (pe_callB (call_sumTK (K := K) rfl rfl) rfl b_sum (by decide +kernel) (pa_cons (pe_ix (ix_seqK (K := K) rfl) (pv 0) pe_int (fun _ _ => rfl)) pa_nil)))) pss_nil) (pss_cons (ps_if (pt_cmpR (op_eqK (K := K) rfl hr.units) (pe_ix (ix_seqK (K := K) rfl) (pv 0) pe_int (fun _ _ => rfl)) (pe_glob (v := .str "blend") rfl k_BLEND ⟨_, rfl⟩) (nomark _)) (pss_one (ps_ret (pe_op (op_addK (K := K) rfl) (pe_op op_mulG (pe_ix (ix_seqK (K := K) rfl) (pv 0) pe_int (fun _ _ => rfl)) (pe_cal q_most_of hr rfl pass0 (pa_cons (pe_ix (ix_seqK (K := K) rfl) (pv 0) pe_int (fun _ _ => rfl)) pa_nil))) (pe_cal q_most_of hr rfl pass0 (pa_cons (pe_ix (ix_seqK (K := K) rfl) (pv 0) pe_int (fun _ _ => rfl)) pa_nil))))) pss_nil) (pss_one (ps_ret (pe_ix (ix_seqK (K := K) rfl) (pv 0) (pe_un un_neg pe_int) (fun _ _ => rfl)))))), q⟩) ?_

  obtain ⟨x, m, L, rfl, hs, hr1, ok, k⟩ := h
  rw [show start ["model"] [x] = [some x] from rfl]
  cases m with
  | plain cs =>
    obtain ⟨p, q, rfl, hs⟩ := hs.md_plain (hr1.rd hs)
    walk_at "g"
    refine s_ixT (v := .str "plain") rfl ?_
    walk_at "g"
    walk_at "e"
    refine s_ixT (v := .ref q) rfl ?_
    walk_at "g"
    refine s_sumT ?_
    exact k _ hs.re
  | learn s st li =>
    obtain ⟨p, rfl, hs⟩ := hs.md_learn (hr1.rd hs)
    walk_at "g"
    refine s_ixT (v := .str "learn") rfl ?_
    walk_at "g"
    walk_at "e"
    refine s_ixT (v := .str "learn") rfl ?_
    walk_at "g"
    walk_at "e"
    refine s_ixT (v := .int li) rfl ?_
    exact k _ hs.re
  | ahead o s st li =>
    obtain ⟨p, rfl, hs⟩ := hs.md_ahead (hr1.rd hs)
    walk_at "g"
    refine s_ixT (v := .str "ahead") rfl ?_
    walk_at "g"
    walk_at "e"
    refine s_ixT (v := .str "ahead") rfl ?_
    walk_at "g"
    walk_at "e"
    refine s_ixT (v := .int li) rfl ?_
    exact k _ hs.re
  | blend a b w =>
    obtain ⟨p, u, v, rfl, hs⟩ := hs.md_blend (hr1.rd hs)
    have a1 := ok.2.1.mst
    have w1 := ok.1
    walk_at "g"
    refine s_ixT (v := .str "blend") rfl ?_
    walk_at "g"
    walk_at "e"
    refine s_ixT (v := .str "blend") rfl ?_
    walk_at "g"
    walk_at "e"
    refine s_ixT (v := .int w) rfl ?_
    walk_at "g"
    refine s_ixT (v := u) rfl ?_
    walk_at "g"
    refine c_mostOf ok.2.1 fun H' hs => ?_
    refine s_mul (mulx64 (by omega) (by omega)) ?_
    walk_at "g"
    refine s_ixT (v := v) rfl ?_
    walk_at "g"
    refine c_mostOf ok.2.2.1 fun H' hs => ?_
    walk_at "g"
    exact k _ hs.re
abbrev s_is_plain : Stmt := (top 32)
theorem sc_is_plain : FnScope ["model", "one"] ["model"] (defScope s_is_plain) := ⟨rfl, rfl, rfl, by decide +kernel, rfl, by decide +kernel, by decide +kernel⟩
theorem ok_is_plain {f : Addr} {fd : FuncData} (F : Fun K "is_plain" "is_plain" s_is_plain f fd) (k_MOST_PLAIN : mg "MOST_PLAIN" = some (.int (60) t_MOST_PLAIN)) (b_len : mg "len" = none) (k_MOST_SIGNS : mg "MOST_SIGNS" = some (.int (8) t_MOST_SIGNS)) (b_isinstance : mg "isinstance" = none) (b_tuple : mg "tuple" = none) (q_is_within : Cal P w K mg base CX0 1 "is_within" ["number", "low", "high"] (spWithin)) : FnOk P w K mg base CX0 (2) f fd ["model"] (spIsPlain K) := by
  have nd := sc_is_plain.nd
  refine F.ok sc_is_plain (fun vs H Q E h => ?_) (fun cdv A outer s H vs Q E hr h => ?_)
  · repeat (first | (obtain ⟨rfl, _⟩ := h; rfl) | (obtain ⟨_, h⟩ := h))
  refine (fun q => ⟨_, (pss_cons (ps_if (PW.pt (pw_or (pt_cmpR (op_neK (K := K) rfl hr.units) (pe_callB (call_lenK (K := K) rfl) rfl b_len PySem.boot_len (pa_cons (pv 0) pa_nil)) pe_int (nomark _)) (pw_or (pt_not (pt_val (pe_callB (call_isiK' (K := K) rfl) rfl b_isinstance (by decide +kernel) (pa_cons (pe_ix (ix_seqK (K := K) rfl) (pv 0) pe_int (fun _ _ => rfl)) (pa_cons (pe_bltn (v := .ty "tuple") rfl b_tuple (by decide +kernel) rfl) pa_nil))))) (pw_or1 (pt_not (pt_chain op_leG op_leG pe_int (pe_callB (call_lenK (K := K) rfl) rfl b_len PySem.boot_len (pa_cons (pe_ix (ix_seqK (K := K) rfl) (pv 0) pe_int (fun _ _ => rfl)) pa_nil)) (pe_glob (v := .int (8)) rfl k_MOST_SIGNS ⟨_, rfl⟩))))))) (pss_one (ps_ret pe_bl)) pss_nil) (pss_one (ps_ret (pe_cmpR (op_eqK (K := K) rfl hr.units) (pe_lc (own := [("one", 1)]) rfl nd (pi_anyK (K := K) rfl (pe_ix (ix_seqK (K := K) rfl) (pv 0) pe_int (fun _ _ => rfl))) (blkOk_by (N := ["model", "one"]) (sc := defScope s_is_plain) (by decide +kernel)) (fun _ _ _ _ _ => (pg_name (i := 1) nd rfl (Or.inl rfl))) (fun _ _ _ _ _ => (pts_one (pt_not (pt_val (pe_cal q_is_within (hr.mono (by decide)) rfl pass0 (pa_cons (pv 1) (pa_cons pe_int (pa_cons (pe_glob (v := .int (60)) rfl k_MOST_PLAIN ⟨_, rfl⟩) pa_nil)))))))) (fun _ _ _ _ _ => (pv 1))) (pe_lst pa_nil) (nomark _))))), q⟩) ?_

  obtain ⟨x, cs, L, rfl, hs, hr1, ok, k⟩ := h
  rw [show start ["model", "one"] [x] = [some x, none] from rfl]
  obtain ⟨⟨l1, l8⟩, hc⟩ := ok
  obtain ⟨p, q, rfl, hs⟩ := hs.md_plain (hr1.rd hs)
  walk_at "g"
  refine s_lenT ?_
  walk_at "g"
  walk_at "e"
  refine s_ixT (v := .ref q) rfl ?_
  walk_at "g"
  refine s_isiN (ty_tup (RdT.sq hs)) (r := true) (by decide +kernel) ?_
  walk_at "g"
  refine s_ixT (v := .ref q) rfl ?_
  walk_at "g"
  refine s_lenT ?_
  walk_at "g"
  rw [iv_len]
  refine i_y (by omega) ?_
  walk_at "g"
  refine i_nd (fun n => absurd (by omega) n) fun _ => ?_
  walk_at "g"
  refine s_anyTK ?_
  walk_at "g"
  refine s_ixT (v := .ref q) rfl ?_
  refine s_tuK ?_
  refine c_tuple (iv cs) (fun D i H => HS H (pt D (.lst []) :: tq K q (iv cs) :: tq K p [.str "plain", .ref q] :: L)) (fun D H' h => h) (fun D i H _ h => RdT.sq h) ?_ ?_
  · intro D i y H hy hs
    obtain ⟨c, hc1, rfl⟩ := iv_at hy
    have hc2 := hc c (List.mem_of_getElem? hc1)
    walk_at "n"
    refine ⟨rfl, ?_⟩
    walk_at "g"
    refine c_within ?_
    walk_at "g"
    refine i_nd (fun n => absurd hc2 n) fun _ => ?_
    exact hs
  · intro D H hs
    walk_at "g"
    refine s_lstN (by walk_at "z") fun E H' hs => ?_
    refine s_eqNil ?_
    exact k _ hs.re
abbrev s_is_model : Stmt := (top 33)
theorem sc_is_model : FnScope ["model", "deep"] ["model", "deep"] (defScope s_is_model) := ⟨rfl, rfl, rfl, by decide +kernel, rfl, by decide +kernel, by decide +kernel⟩
theorem ok_is_model {f : Addr} {fd : FuncData} (F : Fun K "is_model" "is_model" s_is_model f fd) (k_MOST_WHOLE : mg "MOST_WHOLE" = some (.int (4000) t_MOST_WHOLE)) (k_MOST_WEIGHT : mg "MOST_WEIGHT" = some (.int (5) t_MOST_WEIGHT)) (b_len : mg "len" = none) (k_BLEND : mg "BLEND" = some (.str "blend" t_BLEND)) (k_AHEAD : mg "AHEAD" = some (.str "ahead" t_AHEAD)) (k_MOST_ORDER : mg "MOST_ORDER" = some (.int (2) t_MOST_ORDER)) (k_LEARN : mg "LEARN" = some (.str "learn" t_LEARN)) (k_PLAIN : mg "PLAIN" = some (.str "plain" t_PLAIN)) (b_isinstance : mg "isinstance" = none) (b_str : mg "str" = none) (b_tuple : mg "tuple" = none) (n : Nat) (q_most_of : Cal P w K mg base CX0 5 "most_of" ["model"] (spMostOf K 4)) (q_signs_of : Cal P w K mg base CX0 5 "signs_of" ["model"] (spSignsOf K 4)) (q_is_model : Cal P w K mg base CX0 (n + 6) "is_model" ["model", "deep"] (spIsModel K n)) (q_is_within : Cal P w K mg base CX0 1 "is_within" ["number", "low", "high"] (spWithin)) (q_are_learning : Cal P w K mg base CX0 2 "are_learning" ["signs", "step", "limit"] (spAreLearning)) (q_is_plain : Cal P w K mg base CX0 2 "is_plain" ["model"] (spIsPlain K)) : FnOk P w K mg base CX0 (n + 7) f fd ["model", "deep"] (spIsModel K (n + 1)) := by
  have nd := sc_is_model.nd
  refine F.ok sc_is_model (fun vs H Q E h => ?_) (fun cdv A outer s H vs Q E hr h => ?_)
  · repeat (first | (obtain ⟨rfl, _⟩ := h; rfl) | (obtain ⟨_, h⟩ := h))
  refine (fun q => ⟨_, (pss_cons (ps_if (PW.pt (pw_or (pt_not (pt_val (pe_callB (call_isiK' (K := K) rfl) rfl b_isinstance (by decide +kernel) (pa_cons (pv 0) (pa_cons (pe_bltn (v := .ty "tuple") rfl b_tuple (by decide +kernel) rfl) pa_nil))))) (pw_or (pt_cmpR (op_eqK (K := K) rfl hr.units) (pv 0) (pe_tup pa_nil) (nomark _)) (pw_or (pt_not (pt_val (pe_callB (call_isiK' (K := K) rfl) rfl b_isinstance (by decide +kernel) (pa_cons (pe_ix (ix_seqK (K := K) rfl) (pv 0) pe_int (fun _ _ => rfl)) (pa_cons (pe_bltn (v := .ty "str") rfl b_str (by decide +kernel) rfl) pa_nil))))) (pw_or1 (pt_cmpR (op_eqK (K := K) rfl hr.units) (pv 1) pe_int (nomark _))))))) (pss_one (ps_ret pe_bl)) pss_nil) (pss_cons (ps_if (pt_cmpR (op_eqK (K := K) rfl hr.units) (pe_ix (ix_seqK (K := K) rfl) (pv 0) pe_int (fun _ _ => rfl)) (pe_glob (v := .str "plain") rfl k_PLAIN ⟨_, rfl⟩) (nomark _)) (pss_one (ps_ret (pe_cal q_is_plain (hr.mono (by omega)) rfl pass0 (pa_cons (pv 0) pa_nil)))) pss_nil) (pss_cons (ps_if (pt_cmpR (op_eqK (K := K) rfl hr.units) (pe_ix (ix_seqK (K := K) rfl) (pv 0) pe_int (fun _ _ => rfl)) (pe_glob (v := .str "learn") rfl k_LEARN ⟨_, rfl⟩) (nomark _)) (pss_one (ps_ret (pe_and (pe_cmpR (op_eqK (K := K) rfl hr.units) (pe_callB (call_lenK (K := K) rfl) rfl b_len PySem.boot_len (pa_cons (pv 0) pa_nil)) pe_int (nomark _)) (pe_one (pe_cal q_are_learning (hr.mono (by omega)) rfl pass0 (pa_cons (pe_ix (ix_seqK (K := K) rfl) (pv 0) pe_int (fun _ _ => rfl)) (pa_cons (pe_ix (ix_seqK (K := K) rfl) (pv 0) pe_int (fun _ _ => rfl)) (pa_cons (pe_ix (ix_seqK (K := K) rfl) (pv 0) pe_int (fun _ _ => rfl)) pa_nil)))))))) pss_nil) (pss_cons (ps_if (pt_cmpR (op_eqK (K := K) rfl hr.units) (pe_ix (ix_seqK (K := K) rfl) (pv 0) pe_int (fun _ _ => rfl)) (pe_glob (v := .str "ahead") rfl k_AHEAD ⟨_, rfl⟩) (nomark _)) (pss_one (ps_ret (pe_and (pe_cmpR (op_eqK (K := K) rfl hr.units) (pe_callB (call_lenK (K := K) rfl) rfl b_len PySem.boot_len (pa_cons (pv 0) pa_nil)) pe_int (nomark _)) (pe_and (pe_cal q_is_within (hr.mono (by omega)) rfl pass0 (pa_cons (pe_ix (ix_seqK (K := K) rfl) (pv 0) pe_int (fun _ _ => rfl)) (pa_cons pe_int (pa_cons (pe_glob (v := .int (2)) rfl k_MOST_ORDER ⟨_, rfl⟩) pa_nil)))) (pe_one (pe_cal q_are_learning (hr.mono (by omega)) rfl pass0 (pa_cons (pe_ix (ix_seqK (K := K) rfl) (pv 0) pe_int (fun _ _ => rfl)) (pa_cons (pe_ix (ix_seqK (K := K) rfl) (pv 0) pe_int (fun _ _ => rfl)) (pa_cons (pe_ix (ix_seqK (K := K) rfl) (pv 0) pe_int (fun _ _ => rfl)) pa_nil))))))))) pss_nil) (pss_cons (ps_if (PW.pt (pw_or (pt_cmpR (op_neK (K := K) rfl hr.units) (pe_ix (ix_seqK (K := K) rfl) (pv 0) pe_int (fun _ _ => rfl)) (pe_glob (v := .str "blend") rfl k_BLEND ⟨_, rfl⟩) (nomark _)) (pw_or (pt_cmpR (op_neK (K := K) rfl hr.units) (pe_callB (call_lenK (K := K) rfl) rfl b_len PySem.boot_len (pa_cons (pv 0) pa_nil)) pe_int (nomark _)) (pw_or1 (pt_not (pt_val (pe_cal q_is_within (hr.mono (by omega)) rfl pass0 (pa_cons (pe_ix (ix_seqK (K := K) rfl) (pv 0) pe_int (fun _ _ => rfl)) (pa_cons pe_int (pa_cons (pe_glob (v := .int (5)) rfl k_MOST_WEIGHT ⟨_, rfl⟩) pa_nil)))))))))) (pss_one (ps_ret pe_bl)) pss_nil) (pss_cons (ps_if (PW.pt (pw_or (pt_not (pt_val (pe_cal q_is_model hr rfl pass0 (pa_cons (pe_ix (ix_seqK (K := K) rfl) (pv 0) pe_int (fun _ _ => rfl)) (pa_cons (pe_op op_subG (pv 1) pe_int) pa_nil))))) (pw_or1 (pt_not (pt_val (pe_cal q_is_model hr rfl pass0 (pa_cons (pe_ix (ix_seqK (K := K) rfl) (pv 0) pe_int (fun _ _ => rfl)) (pa_cons (pe_op op_subG (pv 1) pe_int) pa_nil)))))))) (pss_one (ps_ret pe_bl)) pss_nil) (pss_one (ps_ret (pe_and (pe_cmpR (op_eqK (K := K) rfl hr.units) (pe_cal q_signs_of (hr.mono (by omega)) rfl pass0 (pa_cons (pe_ix (ix_seqK (K := K) rfl) (pv 0) pe_int (fun _ _ => rfl)) pa_nil)) (pe_cal q_signs_of (hr.mono (by omega)) rfl pass0 (pa_cons (pe_ix (ix_seqK (K := K) rfl) (pv 0) pe_int (fun _ _ => rfl)) pa_nil)) (nomark _)) (pe_one (pe_cmpR op_leG (pe_cal q_most_of (hr.mono (by omega)) rfl pass0 (pa_cons (pv 0) pa_nil)) (pe_glob (v := .int (4000)) rfl k_MOST_WHOLE ⟨_, rfl⟩) (nomark _)))))))))))), q⟩) ?_

  obtain ⟨x, m, L, rfl, hn, hs, hr1, ok, k⟩ := h
  rw [show start ["model", "deep"] [x, .int ((n + 1 : Nat) : Int)] = [some x, some (.int ((n + 1 : Nat) : Int))] from rfl]
  cases m with
  | plain cs =>
    have hs0 := hs
    obtain ⟨p, q, rfl, hs⟩ := hs.md_plain (hr1.rd hs)
    haveI hr2 := hr1.there.there (A := tq K q (iv cs)) (L := tq K p [.str "plain", .ref q] :: L)
    walk_at "g"
    refine s_isiN (ty_tup (RdT.sq hs)) (r := true) (by decide +kernel) ?_
    walk_at "g"
    refine s_tupN (by walk_at "z") fun z H' hs => ?_
    refine s_eqMd (m := .plain cs) ok (by omega) ?_
    walk_at "g"
    refine s_ixT (v := .str "plain") rfl ?_
    walk_at "g"
    refine s_isiN (.base (.str _)) (r := true) (by decide +kernel) ?_
    walk_at "g"
    refine i_n (by omega) ?_
    walk_at "g"
    refine s_ixT (v := .str "plain") rfl ?_
    walk_at "g"
    walk_at "e"
    refine c_isPlain (MdR.there hr2) ⟨ok.1, ok.2⟩ fun H' hs => ?_
    exact k _ hs.re
  | learn s st li =>
    obtain ⟨p, rfl, hs⟩ := hs.md_learn (hr1.rd hs)
    haveI hr2 := hr1.there (A := tq K p [.str "learn", .int s, .int st, .int li])
    walk_at "g"
    refine s_isiN (ty_tup (RdT.sq hs)) (r := true) (by decide +kernel) ?_
    walk_at "g"
    refine s_tupN (by walk_at "z") fun z H' hs => ?_
    refine s_eqMd (m := .learn s st li) ok (by omega) ?_
    walk_at "g"
    refine s_ixT (v := .str "learn") rfl ?_
    walk_at "g"
    refine s_isiN (.base (.str _)) (r := true) (by decide +kernel) ?_
    walk_at "g"
    refine i_n (by omega) ?_
    walk_at "g"
    refine s_ixT (v := .str "learn") rfl ?_
    walk_at "g"
    walk_at "e"
    refine s_ixT (v := .str "learn") rfl ?_
    walk_at "g"
    walk_at "e"
    refine s_lenT ?_
    walk_at "g"
    walk_at "e"
    refine s_ixT (v := .int s) rfl ?_
    walk_at "g"
    refine s_ixT (v := .int st) rfl ?_
    walk_at "g"
    refine s_ixT (v := .int li) rfl ?_
    walk_at "g"
    refine c_areLearning ok ?_
    exact k _ hs.re
  | ahead o s st li =>
    obtain ⟨p, rfl, hs⟩ := hs.md_ahead (hr1.rd hs)
    haveI hr2 := hr1.there (A := tq K p [.str "ahead", .int o, .int s, .int st, .int li])
    walk_at "g"
    refine s_isiN (ty_tup (RdT.sq hs)) (r := true) (by decide +kernel) ?_
    walk_at "g"
    refine s_tupN (by walk_at "z") fun z H' hs => ?_
    refine s_eqMd (m := .ahead o s st li) ok (by omega) ?_
    walk_at "g"
    refine s_ixT (v := .str "ahead") rfl ?_
    walk_at "g"
    refine s_isiN (.base (.str _)) (r := true) (by decide +kernel) ?_
    walk_at "g"
    refine i_n (by omega) ?_
    walk_at "g"
    refine s_ixT (v := .str "ahead") rfl ?_
    walk_at "g"
    walk_at "e"
    refine s_ixT (v := .str "ahead") rfl ?_
    walk_at "g"
    walk_at "e"
    refine s_ixT (v := .str "ahead") rfl ?_
    walk_at "g"
    walk_at "e"
    refine s_lenT ?_
    walk_at "g"
    walk_at "e"
    refine s_ixT (v := .int o) rfl ?_
    walk_at "g"
    refine c_within ?_
    rw [decide_eq_true (show (1 ≤ o ∧ o ≤ 2) from ok.1)]
    walk_at "g"
    refine s_ixT (v := .int s) rfl ?_
    walk_at "g"
    refine s_ixT (v := .int st) rfl ?_
    walk_at "g"
    refine s_ixT (v := .int li) rfl ?_
    walk_at "g"
    refine c_areLearning ok.2 ?_
    exact k _ hs.re
  | blend a b w =>
    obtain ⟨p, u, v, rfl, hs⟩ := hs.md_blend (hr1.rd hs)
    haveI hr2 := hr1.there.there.there (A := md K a u) (L := md K b v :: tq K p [.str "blend", u, v, .int w] :: L)
    walk_at "g"
    refine s_isiN (ty_tup (RdT.sq hs)) (r := true) (by decide +kernel) ?_
    walk_at "g"
    refine s_tupN (by walk_at "z") fun z H' hs => ?_
    refine s_eqMd (m := .blend a b w) ok (by omega) ?_
    walk_at "g"
    refine s_ixT (v := .str "blend") rfl ?_
    walk_at "g"
    refine s_isiN (.base (.str _)) (r := true) (by decide +kernel) ?_
    walk_at "g"
    refine i_n (by omega) ?_
    walk_at "g"
    refine s_ixT (v := .str "blend") rfl ?_
    walk_at "g"
    walk_at "e"
    refine s_ixT (v := .str "blend") rfl ?_
    walk_at "g"
    walk_at "e"
    refine s_ixT (v := .str "blend") rfl ?_
    walk_at "g"
    walk_at "e"
    refine s_ixT (v := .str "blend") rfl ?_
    walk_at "g"
    walk_at "e"
    refine s_lenT ?_
    walk_at "g"
    walk_at "e"
    refine s_ixT (v := .int w) rfl ?_
    walk_at "g"
    refine c_within ?_
    rw [decide_eq_true (show (1 ≤ w ∧ w ≤ 5) from ok.1)]
    walk_at "g"
    refine s_ixT (v := u) rfl ?_
    walk_at "g"
    refine c_isModel (m := a) (by omega) (by omega) ok.2.1 fun H' hs => ?_
    walk_at "g"
    refine s_ixT (v := v) rfl ?_
    walk_at "g"
    refine c_isModel (m := b) (by omega) (by omega) ok.2.2.1 fun H' hs => ?_
    walk_at "g"
    refine s_ixT (v := u) rfl ?_
    walk_at "g"
    refine c_signsOf (m := a) (ok.2.1.le (by omega)) fun H' hs => ?_
    walk_at "g"
    refine s_ixT (v := v) rfl ?_
    walk_at "g"
    refine c_signsOf (m := b) (ok.2.2.1.le (by omega)) fun H' hs => ?_
    walk_at "g"
    rw [decide_eq_true ok.2.2.2.1]
    walk_at "g"
    refine c_mostOf (m := .blend a b w) (ok.le (by omega)) fun H' hs => ?_
    walk_at "g"
    rw [decide_eq_true (show mst (.blend a b w) ≤ 4000 from ok.2.2.2.2)]
    exact k _ hs.re
abbrev s_need_model : Stmt := (top 36)
theorem sc_need_model : FnScope ["model"] ["model"] (defScope s_need_model) := ⟨rfl, rfl, rfl, by decide +kernel, rfl, by decide +kernel, by decide +kernel⟩
theorem ok_need_model {f : Addr} {fd : FuncData} (F : Fun K "need_model" "need_model" s_need_model f fd) (k_MOST_DEEP : mg "MOST_DEEP" = some (.int (3) t_MOST_DEEP)) (q_is_model : Cal P w K mg base CX0 9 "is_model" ["model", "deep"] (spIsModel K 3)) : FnOk P w K mg base CX0 (10) f fd ["model"] (spNeedModel K) := by
  have nd := sc_need_model.nd
  refine F.ok sc_need_model (fun vs H Q E h => ?_) (fun cdv A outer s H vs Q E hr h => ?_)
  · repeat (first | (obtain ⟨rfl, _⟩ := h; rfl) | (obtain ⟨_, h⟩ := h))
  refine (fun q => ⟨_, (pss_one (ps_if (pt_not (pt_val (pe_cal q_is_model (hr.mono (by decide)) rfl pass0 (pa_cons (pv 0) (pa_cons (pe_glob (v := .int (3)) rfl k_MOST_DEEP ⟨_, rfl⟩) pa_nil))))) pss_never pss_nil)), q⟩) ?_

  obtain ⟨x, m, L, rfl, hs, hr1, ok, k⟩ := h
  rw [show start ["model"] [x] = [some x] from rfl]
  walk_at "g"
  refine c_isModel (m := m) rfl (by decide) ok fun H' hs => ?_
  walk_at "g"
  exact k _ hs
abbrev s_Plain_init : Stmt := (inClass (top 38) 0)
theorem sc_Plain_init : FnScope ["self", "counts"] ["self", "counts"] (defScope s_Plain_init) := ⟨rfl, rfl, rfl, by decide +kernel, rfl, by decide +kernel, by decide +kernel⟩
theorem ok_Plain_init {f : Addr} {fd : FuncData} (F : Fun K "__init__" "Plain.__init__" s_Plain_init f fd) (n_Plain_here : NoAttr K C_Plain "here") (cl_Plain : Cls K C_Plain) (q_Shares_init : CalC P w K mg base CX0 3 C_Shares "Shares" ["self", "counts"] (spSharesInit K C_Shares)) : FnOk P w K mg base CX0 (5) f fd ["self", "counts"] (spPlainInit K C_Shares C_Plain C_Learner C_Ahead C_Blend) := by
  have nd := sc_Plain_init.nd
  refine F.ok sc_Plain_init (fun vs H Q E h => ?_) (fun cdv A outer s H vs Q E hr h => ?_)
  · repeat (first | (obtain ⟨rfl, _⟩ := h; rfl) | (obtain ⟨_, h⟩ := h))
  refine (fun q => ⟨_, (pss_one (ps_fldK (K := K) rfl (pv 0) (pe_calC q_Shares_init (hr.mono (by decide)) rfl pass0 (pa_cons (pv 1) pa_nil)) rfl)), q⟩) ?_

  obtain ⟨p, q, b, cs, L, rfl, hs, hr1, g, h4, k⟩ := h
  rw [show start ["self", "counts"] [.ref p, .ref q] = [some (.ref p), some (.ref q)] from rfl]
  walk_at "g"
  refine s_mkK fun x H' hs => ?_
  refine ⟨x, q, b, cs, _, rfl, hs, hr1.there, g, h4, fun H' hs => ⟨rfl, ?_⟩⟩
  walk_at "g"
  walk_at "p"
  case k =>
  intro H' hs
  exact k _ (HS.pl_out (h0 := x) hs.re)
abbrev s_Plain_now : Stmt := (inClass (top 38) 1)
theorem sc_Plain_now : FnScope ["self"] ["self"] (defScope s_Plain_now) := ⟨rfl, rfl, rfl, by decide +kernel, rfl, by decide +kernel, by decide +kernel⟩
theorem ok_Plain_now {f : Addr} {fd : FuncData} (F : Fun K "now" "Plain.now" s_Plain_now f fd) (n_Plain_here : NoAttr K C_Plain "here") (cl_Plain : Cls K C_Plain) : FnOk P w K mg base CX0 (1) f fd ["self"] (spNow K C_Shares C_Plain C_Learner C_Ahead C_Blend 0 1) := by
  have nd := sc_Plain_now.nd
  refine F.ok sc_Plain_now (fun vs H Q E h => ?_) (fun cdv A outer s H vs Q E hr h => ?_)
  · repeat (first | (obtain ⟨rfl, _⟩ := h; rfl) | (obtain ⟨_, h⟩ := h))
  refine (fun q => ⟨_, (pss_one (ps_ret (pe_fldK (K := K) rfl (pv 0) rfl))), q⟩) ?_

  obtain ⟨p, m, sg, mo, L, rfl, hk, ok, hs, k⟩ := h
  rw [show start ["self"] [.ref p] = [some (.ref p)] from rfl]
  cases m with
  | learn => exact False.elim hk
  | ahead => exact False.elim hk
  | blend => exact False.elim hk
  | plain cs =>
  obtain ⟨h0, hs⟩ := hs.pl_in
  walk_at "g"
  exact k h0 (ob p C_Plain [("here", .ref h0)]) _ (show HS _ (shR C_Shares h0 cs :: _ :: L) from hs.re) fun {H L} h => HS.pl_out (h0 := h0) (show HS H (shR C_Shares h0 cs :: _ :: L) from h).re
abbrev s_Plain_learn : Stmt := (inClass (top 38) 2)
theorem sc_Plain_learn : FnScope ["self", "sign"] ["self", "sign"] (defScope s_Plain_learn) := ⟨rfl, rfl, rfl, by decide +kernel, rfl, by decide +kernel, by decide +kernel⟩
theorem ok_Plain_learn {f : Addr} {fd : FuncData} (F : Fun K "learn" "Plain.learn" s_Plain_learn f fd)  : FnOk P w K mg base CX0 (1) f fd ["self", "sign"] (spLrn K C_Shares C_Plain C_Learner C_Ahead C_Blend 0 1) := by
  have nd := sc_Plain_learn.nd
  refine F.ok sc_Plain_learn (fun vs H Q E h => ?_) (fun cdv A outer s H vs Q E hr h => ?_)
  · repeat (first | (obtain ⟨rfl, _⟩ := h; rfl) | (obtain ⟨_, h⟩ := h))
  refine (fun q => ⟨_, (pss_one (ps_ret pe_non)), q⟩) ?_

  obtain ⟨p, m, sg, mo, s, L, rfl, hk, ok, hl, hs, k⟩ := h
  rw [show start ["self", "sign"] [.ref p, .int (s : Nat)] = [some (.ref p), some (.int (s : Nat))] from rfl]
  cases m with
  | learn => exact False.elim hk
  | ahead => exact False.elim hk
  | blend => exact False.elim hk
  | plain cs =>
  walk_at "g"
  exact k _ hs
abbrev s_Learner_init : Stmt := (inClass (top 39) 0)
theorem sc_Learner_init : FnScope ["self", "signs", "step", "limit"] ["self", "signs", "step", "limit"] (defScope s_Learner_init) := ⟨rfl, rfl, rfl, by decide +kernel, rfl, by decide +kernel, by decide +kernel⟩
theorem ok_Learner_init {f : Addr} {fd : FuncData} (F : Fun K "__init__" "Learner.__init__" s_Learner_init f fd) (n_Learner_here : NoAttr K C_Learner "here") (cl_Learner : Cls K C_Learner) (n_Learner_step : NoAttr K C_Learner "step") (n_Learner_limit : NoAttr K C_Learner "limit") (q_Shares_init : CalC P w K mg base CX0 3 C_Shares "Shares" ["self", "counts"] (spSharesInit K C_Shares)) : FnOk P w K mg base CX0 (5) f fd ["self", "signs", "step", "limit"] (spLearnerInit K C_Shares C_Plain C_Learner C_Ahead C_Blend) := by
  have nd := sc_Learner_init.nd
  refine F.ok sc_Learner_init (fun vs H Q E h => ?_) (fun cdv A outer s H vs Q E hr h => ?_)
  · repeat (first | (obtain ⟨rfl, _⟩ := h; rfl) | (obtain ⟨_, h⟩ := h))
  refine (fun q => ⟨_, (pss_cons (ps_fldK (K := K) rfl (pv 0) (pe_calC q_Shares_init (hr.mono (by decide)) rfl pass0 (pa_cons (pe_op op_mulG (pe_lst (pa_cons pe_int pa_nil)) (pv 1)) pa_nil)) rfl) (pss_cons (ps_fldK (K := K) rfl (pv 0) (pv 2) rfl) (pss_one (ps_fldK (K := K) rfl (pv 0) (pv 3) rfl)))), q⟩) ?_

  obtain ⟨p, s, st, li, L, rfl, hs, ok, k⟩ := h
  rw [show start ["self", "signs", "step", "limit"] [.ref p, .int s, .int st, .int li] = [some (.ref p), some (.int s), some (.int st), some (.int li)] from rfl]
  have s1 := ok.1
  have hc := ones_ok (s := s) (li := s) (by omega) (Int.le_refl _)
  walk_at "g"
  refine s_lstN (by walk_at "z") fun z H' hs => ?_
  walk_at "g"
  refine s_rep (by omega) (by omega) (small_line (by simp; omega)) fun q H' hs => ?_
  have e : (List.replicate s.toNat [V.int 1]).flatten = iv (ones s) := by
    have : ∀ n : Nat, (List.replicate n [V.int 1]).flatten = iv (List.replicate n 1) := by
      intro n; induction n with
      | zero => rfl
      | succ n ih => rw [List.replicate_succ, List.flatten_cons, ih, List.replicate_succ]; rfl
    exact this _
  rw [e] at hs
  walk_at "g"
  refine s_mkK fun x H' hs => ?_
  refine c_sharesInit (t := false) (hc.good (by omega)) (fun c hc2 => by have := mem_le_sum _ hc.pos c hc2; have := hc.sum; omega) fun H' hs => ⟨rfl, ?_⟩
  walk_at "g"
  walk_at "p"
  case k =>
  intro H' hs
  walk_at "g"
  walk_at "p"
  case k =>
  intro H' hs
  walk_at "g"
  walk_at "p"
  case k =>
  intro H' hs
  exact k _ (HS.lr_out (h0 := x) hs.re)
abbrev s_Learner_now : Stmt := (inClass (top 39) 1)
theorem sc_Learner_now : FnScope ["self"] ["self"] (defScope s_Learner_now) := ⟨rfl, rfl, rfl, by decide +kernel, rfl, by decide +kernel, by decide +kernel⟩
theorem ok_Learner_now {f : Addr} {fd : FuncData} (F : Fun K "now" "Learner.now" s_Learner_now f fd) (n_Learner_here : NoAttr K C_Learner "here") (cl_Learner : Cls K C_Learner) : FnOk P w K mg base CX0 (1) f fd ["self"] (spNow K C_Shares C_Plain C_Learner C_Ahead C_Blend 1 1) := by
  have nd := sc_Learner_now.nd
  refine F.ok sc_Learner_now (fun vs H Q E h => ?_) (fun cdv A outer s H vs Q E hr h => ?_)
  · repeat (first | (obtain ⟨rfl, _⟩ := h; rfl) | (obtain ⟨_, h⟩ := h))
  refine (fun q => ⟨_, (pss_one (ps_ret (pe_fldK (K := K) rfl (pv 0) rfl))), q⟩) ?_

  obtain ⟨p, m, sg, mo, L, rfl, hk, ok, hs, k⟩ := h
  rw [show start ["self"] [.ref p] = [some (.ref p)] from rfl]
  cases m with
  | plain => exact False.elim hk
  | ahead => exact False.elim hk
  | blend => exact False.elim hk
  | learn cs st li =>
  obtain ⟨h0, hs⟩ := HS.lr_in hs
  walk_at "g"
  exact k h0 (ob p C_Learner [("here", .ref h0), ("step", .int st), ("limit", .int li)]) _ (show HS _ (shR C_Shares h0 cs :: _ :: L) from hs.re) fun {H L} h => HS.lr_out (h0 := h0) (show HS H (shR C_Shares h0 cs :: _ :: L) from h).re
abbrev s_Learner_learn : Stmt := (inClass (top 39) 2)
theorem sc_Learner_learn : FnScope ["self", "sign"] ["self", "sign"] (defScope s_Learner_learn) := ⟨rfl, rfl, rfl, by decide +kernel, rfl, by decide +kernel, by decide +kernel⟩
theorem ok_Learner_learn {f : Addr} {fd : FuncData} (F : Fun K "learn" "Learner.learn" s_Learner_learn f fd) (cl_Shares : Cls K C_Shares) (n_Learner_step : NoAttr K C_Learner "step") (cl_Learner : Cls K C_Learner) (n_Learner_limit : NoAttr K C_Learner "limit") (n_Learner_here : NoAttr K C_Learner "here") (q_Shares_whole : CalM P w K mg base CX0 4 C_Shares "whole" ["self"] (spWhole C_Shares)) (q_Shares_halve : CalM P w K mg base CX0 6 C_Shares "halve" ["self"] (spHalve C_Shares)) (q_Shares_grow : CalM P w K mg base CX0 3 C_Shares "grow" ["self", "sign", "by"] (spGrow C_Shares)) : FnOk P w K mg base CX0 (7) f fd ["self", "sign"] (spLrn K C_Shares C_Plain C_Learner C_Ahead C_Blend 1 1) := by
  have nd := sc_Learner_learn.nd
  refine F.ok sc_Learner_learn (fun vs H Q E h => ?_) (fun cdv A outer s H vs Q E hr h => ?_)
  · repeat (first | (obtain ⟨rfl, _⟩ := h; rfl) | (obtain ⟨_, h⟩ := h))
  refine (fun q => ⟨_, (pss_cons (ps_expr (pe_calM (pe_fldK (K := K) rfl (pv 0) rfl) cl_Shares q_Shares_grow (hr.mono (by decide)) pass0 (pa_cons (pv 1) (pa_cons (pe_fldK (K := K) rfl (pv 0) rfl) pa_nil)))) (pss_one (ps_while PassesOwn.never (pt_cmpR op_gtG (pe_calM0 (pe_fldK (K := K) rfl (pv 0) rfl) cl_Shares q_Shares_whole (hr.mono (by decide)) pass0) (pe_fldK (K := K) rfl (pv 0) rfl) (nomark _)) (pss_one (ps_expr (pe_calM0 (pe_fldK (K := K) rfl (pv 0) rfl) cl_Shares q_Shares_halve (hr.mono (by decide)) pass0)))))), q⟩) ?_

  obtain ⟨p, m, sg, mo, s, L, rfl, hk, ok, hl, hs, k⟩ := h
  rw [show start ["self", "sign"] [.ref p, .int (s : Nat)] = [some (.ref p), some (.int (s : Nat))] from rfl]
  cases m with
  | plain => exact False.elim hk
  | ahead => exact False.elim hk
  | blend => exact False.elim hk
  | learn cs st li =>
  obtain ⟨lk, hlm, hm4, hc⟩ := ok
  have hlen := hc.len
  have s8 := lk.1
  have st1 := lk.2.1
  have li1 := lk.2.2
  obtain ⟨h0, hs⟩ := HS.lr_in hs
  walk_at "g"
  refine c_grow s rfl (by omega) (by omega) (by omega) (by omega) fun H' hs => ?_
  walk_at "g"
  have hp2 : ∀ c ∈ cs.set s (cs.getD s 0 + st), 1 ≤ c := fun c hc2 => by
    rcases List.mem_or_eq_of_mem_set hc2 with q | q
    · exact hc.pos c q
    · have := hc.pos _ (List.mem_of_getElem? (get_getD (show s < cs.length by omega)))
      omega
  have hl2 : ((cs.set s (cs.getD s 0 + st)).length : Int) = sg := by rw [List.length_set]; exact hlen
  refine f_while (fun m σ H => σ = [some (.ref p), some (.int (s : Nat))] ∧ ∃ ds, ds.sum.toNat = m ∧ (ds.length : Int) = sg ∧ (∀ c ∈ ds, 1 ≤ c) ∧ lrn li st cs s = halv m li ds ∧ HS H (ob p C_Learner [("here", .ref h0), ("step", .int st), ("limit", .int li)] :: shR C_Shares h0 ds :: L)) _ ⟨rfl, cs.set s (cs.getD s 0 + st), rfl, hl2, hp2, rfl, hs.re⟩ ?_
  rintro m σ H ⟨rfl, ds, rfl, dl, dp, de, hs⟩
  have dsl := sum_len ds dp
  walk_at "g"
  refine c_whole (by omega) fun H' hs => ?_
  walk_at "g"
  refine i_d (fun hgt => ?_) (fun hgt => ?_)
  · refine s_wh ?_
    walk_at "g"
    refine c_halve (by omega) fun H' hs => ?_
    have hh := (halves_sum ds dp).2 (by omega)
    have hsl := sum_len _ (halves_pos dp)
    refine ⟨(halves ds).sum.toNat, by omega, rfl, halves ds, rfl, by rw [halves_len]; exact dl, halves_pos dp, ?_, hs.re⟩
    rw [de]
    obtain ⟨n, hn⟩ : ∃ n, ds.sum.toNat = n + 1 := ⟨ds.sum.toNat - 1, by omega⟩
    rw [hn]
    simp only [halv]
    rw [if_pos (show li < ds.sum from hgt)]
    exact halv_more (sg := sg) (by omega) _ _ _ (by rw [halves_len]; exact dl) (halves_pos dp) (Nat.le_refl _) (by omega)
  · have e : lrn li st cs s = ds := by
      rw [de]
      obtain ⟨n, hn⟩ : ∃ n, ds.sum.toNat = n + 1 := ⟨ds.sum.toNat - 1, by omega⟩
      rw [hn]
      simp only [halv]
      rw [if_neg (show ¬ li < ds.sum from hgt)]
    refine k _ (HS.lr_out (h0 := h0) ?_)
    show HS _ (_ :: shR C_Shares h0 (lrn li st cs s) :: L)
    rw [e]
    exact hs.re
abbrev s_Ahead_init : Stmt := (inClass (top 40) 0)
theorem sc_Ahead_init : FnScope ["self", "order", "numbers"] ["self", "order", "numbers"] (defScope s_Ahead_init) := ⟨rfl, rfl, rfl, by decide +kernel, rfl, by decide +kernel, by decide +kernel⟩
theorem ok_Ahead_init {f : Addr} {fd : FuncData} (F : Fun K "__init__" "Ahead.__init__" s_Ahead_init f fd) (n_Ahead_order : NoAttr K C_Ahead "order") (cl_Ahead : Cls K C_Ahead) (n_Ahead_numbers : NoAttr K C_Ahead "numbers") (n_Ahead_last : NoAttr K C_Ahead "last") (n_Ahead_known : NoAttr K C_Ahead "known") : FnOk P w K mg base CX0 (1) f fd ["self", "order", "numbers"] (spAheadInit K C_Shares C_Plain C_Learner C_Ahead C_Blend) := by
  have nd := sc_Ahead_init.nd
  refine F.ok sc_Ahead_init (fun vs H Q E h => ?_) (fun cdv A outer s H vs Q E hr h => ?_)
  · repeat (first | (obtain ⟨rfl, _⟩ := h; rfl) | (obtain ⟨_, h⟩ := h))
  refine (fun q => ⟨_, (pss_cons (ps_fldK (K := K) rfl (pv 0) (pv 1) rfl) (pss_cons (ps_fldK (K := K) rfl (pv 0) (pv 2) rfl) (pss_cons (ps_fldK (K := K) rfl (pv 0) (pe_tup pa_nil) rfl) (pss_one (ps_fldK (K := K) rfl (pv 0) pe_dnewT rfl))))), q⟩) ?_

  obtain ⟨p, o, n, s, st, li, L, rfl, hs, hr1, k⟩ := h
  rw [show start ["self", "order", "numbers"] [.ref p, .int o, .ref n] = [some (.ref p), some (.int o), some (.ref n)] from rfl]
  have hq := hr1.there.sq hs
  have hs : HS H (tq K n [.int s, .int st, .int li] :: ob p C_Ahead [] :: L) := hs.add hq
  walk_at "g"
  walk_at "p"
  case k =>
  intro H' hs
  walk_at "g"
  walk_at "p"
  case k =>
  intro H' hs
  walk_at "g"
  refine s_tupN (by walk_at "z") fun t H' hs => ?_
  walk_at "g"
  walk_at "p"
  case k =>
  intro H' hs
  walk_at "g"
  refine s_dnew fun d H' hs => ?_
  walk_at "g"
  walk_at "p"
  case k =>
  intro H' hs
  have hs : HS H' (ob p C_Ahead [("order", .int o), ("numbers", .ref n), ("last", .ref t), ("known", .ref d)] :: pt d (.dT (entD [])) :: tp t ((kl []).map kV) :: tq K n [.int s, .int st, .int li] :: L) := hs
  have hs : HS H' (entS C_Shares C_Learner st li [] :: _) := HS.pu_out trivial hs
  refine k _ (HS.ah_out (n := n) (l := t) (d := d) (es := []) ⟨List.nodup_nil, by simp, fun _ _ => rfl, by simp⟩ ?_)
  exact hs.re
abbrev s_Ahead_learner : Stmt := (inClass (top 40) 1)
theorem sc_Ahead_learner : FnScope ["self"] ["self"] (defScope s_Ahead_learner) := ⟨rfl, rfl, rfl, by decide +kernel, rfl, by decide +kernel, by decide +kernel⟩
theorem ok_Ahead_learner {f : Addr} {fd : FuncData} (F : Fun K "learner" "Ahead.learner" s_Ahead_learner f fd) (n_Ahead_last : NoAttr K C_Ahead "last") (cl_Ahead : Cls K C_Ahead) (n_Ahead_known : NoAttr K C_Ahead "known") (n_Ahead_numbers : NoAttr K C_Ahead "numbers") (q_Learner_init : CalC P w K mg base CX0 5 C_Learner "Learner" ["self", "signs", "step", "limit"] (spLearnerInit K C_Shares C_Plain C_Learner C_Ahead C_Blend)) : FnOk P w K mg base CX0 (7) f fd ["self"] (spLearner K C_Shares C_Plain C_Learner C_Ahead C_Blend) := by
  have nd := sc_Ahead_learner.nd
  refine F.ok sc_Ahead_learner (fun vs H Q E h => ?_) (fun cdv A outer s H vs Q E hr h => ?_)
  · repeat (first | (obtain ⟨rfl, _⟩ := h; rfl) | (obtain ⟨_, h⟩ := h))
  refine (fun q => ⟨_, (pss_cons (ps_if (pt_cmp (pc_dnotin (hu_of hr) (pe_fldK (K := K) rfl (pv 0) rfl) (pe_fldK (K := K) rfl (pv 0) rfl))) (pss_one (ps_dput (hu_of hr) (pe_fldK (K := K) rfl (pv 0) rfl) (pe_fldK (K := K) rfl (pv 0) rfl) (pe_calC q_Learner_init (hr.mono (by decide)) rfl pass0 (pa_cons (pe_ix (ix_seqK (K := K) rfl) (pe_fldK (K := K) rfl (pv 0) rfl) pe_int (fun _ _ => rfl)) (pa_cons (pe_ix (ix_seqK (K := K) rfl) (pe_fldK (K := K) rfl (pv 0) rfl) pe_int (fun _ _ => rfl)) (pa_cons (pe_ix (ix_seqK (K := K) rfl) (pe_fldK (K := K) rfl (pv 0) rfl) pe_int (fun _ _ => rfl)) pa_nil)))) rfl)) pss_nil) (pss_one (ps_ret (pe_dget (hu_of hr) (pe_fldK (K := K) rfl (pv 0) rfl) (pe_fldK (K := K) rfl (pv 0) rfl) (fun _ _ => rfl))))), q⟩) ?_

  obtain ⟨p, o, s, st, li, last, f, L, rfl, ok, hs, k⟩ := h
  rw [show start ["self"] [.ref p] = [some (.ref p)] from rfl]
  obtain ⟨n, l, d, es, eo, hs⟩ := hs.ah_in
  have lk := ok.2.2.1
  have hlast := ok.2.2.2.2.2.1
  have few := eo.small
  refine s_seq ?_
  refine s_ifR (fun σ H => σ = [some (.ref p)] ∧ ∃ es, EntOk es s f ∧ (∃ e ∈ es, e.1 = last) ∧ HS H (ob p C_Ahead [("order", .int o), ("numbers", .ref n), ("last", .ref l), ("known", .ref d)] :: tq K n [.int s, .int st, .int li] :: tp l ((kl last).map kV) :: pt d (.dT (entD es)) :: entS C_Shares C_Learner st li es :: L)) ?_ fun N hN => ?_
  · rintro σ H ⟨rfl, es, eo, ⟨e, he, hel⟩, hs⟩
    walk_at "g"
    have hv := (entD_val es last).1 e he hel
    obtain ⟨v, hv⟩ : ∃ v, valV (entD es) (kl last) = some v := by
      cases q : valV (entD es) (kl last) with
      | none => exact absurd q hv
      | some v => exact ⟨v, rfl⟩
    obtain ⟨e, he, hel, rfl⟩ := (entD_val es last).2 v hv
    refine s_dgT (kl last) hv ?_
    obtain ⟨xs, ys, rfl⟩ := ent_take es e he
    have h1 := HS.ent_in (e := e) xs (hs.pk (.there (.there (.there (.there .here)))))
    have h2 : HS H (ahR K C_Ahead p n l d o s st li last (entD (xs ++ e :: ys)) (entS C_Shares C_Learner st li (xs ++ ys)) :: lrS C_Shares C_Learner e.2.1 e.2.2 st li :: L) := HS.ahR_out h1.re
    rw [eo.val e he, hel] at h2
    refine k e.2.1 _ _ (h2.pk (.there .here)) fun {H L cs} h => ?_
    have h3 : HS H (ob p C_Ahead [("order", .int o), ("numbers", .ref n), ("last", .ref l), ("known", .ref d)] :: tq K n [.int s, .int st, .int li] :: tp l ((kl last).map kV) :: pt d (.dT (entD (xs ++ e :: ys))) :: entS C_Shares C_Learner st li (xs ++ ys) :: lrS C_Shares C_Learner e.2.1 cs st li :: L) := HS.ahR_in (h.pk (.there .here))
    have h4 := HS.ent_out (e := (e.1, e.2.1, cs)) xs (ys := ys) (h3.re : HS H (lrS C_Shares C_Learner e.2.1 cs st li :: entS C_Shares C_Learner st li (xs ++ ys) :: ob p C_Ahead [("order", .int o), ("numbers", .ref n), ("last", .ref l), ("known", .ref d)] :: tq K n [.int s, .int st, .int li] :: tp l ((kl last).map kV) :: pt d (.dT (entD (xs ++ e :: ys))) :: L))
    have eo2 := eo.upd cs
    rw [hel] at eo2
    refine HS.ah_out (n := n) (l := l) (d := d) (es := xs ++ (e.1, e.2.1, cs) :: ys) (by rw [hel]; exact eo2) ?_
    rw [entD_upd]
    exact h4.re
  · walk_at "g"
    refine s_dnT (kl last) ?_
    walk_at "g"
    cases hv : valV (entD es) (kl last) with
    | some v =>
      refine i_nt ?_
      walk_at "g"
      obtain ⟨e, he, hel, rfl⟩ := (entD_val es last).2 v hv
      exact hN _ _ ⟨rfl, es, eo, ⟨e, he, hel⟩, hs⟩
    | none =>
      have hno : ∀ e ∈ es, e.1 ≠ last := fun e he q => (entD_val es last).1 e he q hv
      refine i_nf ?_
      walk_at "g"
      refine s_ixT (v := .int s) rfl ?_
      walk_at "g"
      refine s_ixT (v := .int st) rfl ?_
      walk_at "g"
      refine s_ixT (v := .int li) rfl ?_
      walk_at "g"
      refine s_mkK fun x H' hs => ?_
      refine ⟨x, s, st, li, _, rfl, hs, lk, fun H' hs => ⟨rfl, ?_⟩⟩
      walk_at "g"
      refine s_dpT (kl last) (small_lt (by rw [entD, List.length_map]; omega)) fun H' hs => ?_
      rw [entD_put (cs := ones s) hv] at hs
      have h1 := HS.ent_out (Sh := C_Shares) (Le := C_Learner) (st := st) (li := li) (e := (last, x, ones s)) es (ys := []) (L := ob p C_Ahead [("order", .int o), ("numbers", .ref n), ("last", .ref l), ("known", .ref d)] :: tq K n [.int s, .int st, .int li] :: tp l ((kl last).map kV) :: pt d (.dT (entD (es ++ [(last, x, ones s)]))) :: L) (by
        rw [List.append_nil]
        show HS H' (lrS C_Shares C_Learner x (ones s) st li :: _)
        exact (show HS H' (pt d (.dT (entD (es ++ [(last, x, ones s)]))) :: lrS C_Shares C_Learner x (ones s) st li :: _) from hs).re)
      exact hN _ _ ⟨rfl, es ++ [(last, x, ones s)], eo.snoc x hno hlast, ⟨_, List.mem_append_right _ (List.mem_singleton.mpr rfl), rfl⟩, h1.re⟩
abbrev s_Ahead_now : Stmt := (inClass (top 40) 2)
theorem sc_Ahead_now : FnScope ["self"] ["self"] (defScope s_Ahead_now) := ⟨rfl, rfl, rfl, by decide +kernel, rfl, by decide +kernel, by decide +kernel⟩
theorem ok_Ahead_now {f : Addr} {fd : FuncData} (F : Fun K "now" "Ahead.now" s_Ahead_now f fd) (cl_Ahead : Cls K C_Ahead) (cl_Learner : Cls K C_Learner) (q_Ahead_learner : CalM P w K mg base CX0 7 C_Ahead "learner" ["self"] (spLearner K C_Shares C_Plain C_Learner C_Ahead C_Blend)) (q_Learner_now : CalM P w K mg base CX0 1 C_Learner "now" ["self"] (spNow K C_Shares C_Plain C_Learner C_Ahead C_Blend 1 1)) : FnOk P w K mg base CX0 (8) f fd ["self"] (spNow K C_Shares C_Plain C_Learner C_Ahead C_Blend 2 1) := by
  have nd := sc_Ahead_now.nd
  refine F.ok sc_Ahead_now (fun vs H Q E h => ?_) (fun cdv A outer s H vs Q E hr h => ?_)
  · repeat (first | (obtain ⟨rfl, _⟩ := h; rfl) | (obtain ⟨_, h⟩ := h))
  refine (fun q => ⟨_, (pss_one (ps_ret (pe_calM0 (pe_calM0 (pv 0) cl_Ahead q_Ahead_learner (hr.mono (by decide)) pass0) cl_Learner q_Learner_now (hr.mono (by decide)) pass0))), q⟩) ?_

  obtain ⟨p, m, sg, mo, L, rfl, hk, ok, hs, k⟩ := h
  rw [show start ["self"] [.ref p] = [some (.ref p)] from rfl]
  cases m with
  | plain => exact False.elim hk
  | learn => exact False.elim hk
  | blend => exact False.elim hk
  | ahead o s st li last f =>
  obtain ⟨rfl, ho, lk, lm, m4, hla, hf⟩ := ok
  obtain ⟨n, l, d, es, eo, hs⟩ := hs.ah_in
  walk_at "g"
  have hs := HS.ah_out (Pl := C_Plain) (Bl := C_Blend) eo hs
  refine ⟨p, o, s, st, li, last, f, L, rfl, ⟨rfl, ho, lk, by omega, by omega, hla, hf⟩, hs, fun q W H' hs back => ?_⟩
  obtain ⟨h0, hs⟩ := HS.lr_in (Sh := C_Shares) (Le := C_Learner) (p := q) (cs := f last) (st := st) (li := li) hs
  walk_at "g"
  have hs := HS.lr_out hs
  refine ⟨q, .learn (f last) st li, s, mo, W :: L, rfl, trivial, ⟨lk, lm, m4, hf last⟩, hs, fun h W2 H' hs b2 => ?_⟩
  have h1 := HS.st_out (A := W2) (B := W) (L := shR C_Shares h (f last) :: L) ((hs.pk (.there (.there .here))).pk (.there (.there .here)))
  refine k h (G.st W2 W) _ (h1.pk (.there .here)) fun {H L} h => ?_
  have h2 := (h.pk (.there .here)).st_in
  have h3 : HS H (shR C_Shares _ (Mnd.learn (f last) st li).now :: W2 :: W :: L) := h2.pk (.there (.there .here))
  have h4 := back (b2 h3)
  have e : (fun k => if k = last then f last else f k) = f := by
    funext k
    split
    · rename_i q; rw [q]
    · rfl
  rw [e] at h4
  exact h4
abbrev s_Ahead_learn : Stmt := (inClass (top 40) 3)
theorem sc_Ahead_learn : FnScope ["self", "sign"] ["self", "sign"] (defScope s_Ahead_learn) := ⟨rfl, rfl, rfl, by decide +kernel, rfl, by decide +kernel, by decide +kernel⟩
theorem ok_Ahead_learn {f : Addr} {fd : FuncData} (F : Fun K "learn" "Ahead.learn" s_Ahead_learn f fd) (cl_Ahead : Cls K C_Ahead) (cl_Learner : Cls K C_Learner) (n_Ahead_last : NoAttr K C_Ahead "last") (n_Ahead_order : NoAttr K C_Ahead "order") (q_Ahead_learner : CalM P w K mg base CX0 7 C_Ahead "learner" ["self"] (spLearner K C_Shares C_Plain C_Learner C_Ahead C_Blend)) (q_Learner_learn : CalM P w K mg base CX0 7 C_Learner "learn" ["self", "sign"] (spLrn K C_Shares C_Plain C_Learner C_Ahead C_Blend 1 1)) : FnOk P w K mg base CX0 (9) f fd ["self", "sign"] (spLrn K C_Shares C_Plain C_Learner C_Ahead C_Blend 2 1) := by
  have nd := sc_Ahead_learn.nd
  refine F.ok sc_Ahead_learn (fun vs H Q E h => ?_) (fun cdv A outer s H vs Q E hr h => ?_)
  · repeat (first | (obtain ⟨rfl, _⟩ := h; rfl) | (obtain ⟨_, h⟩ := h))
  refine (fun q => ⟨_, (pss_cons (ps_expr (pe_calM (pe_calM0 (pv 0) cl_Ahead q_Ahead_learner (hr.mono (by decide)) pass0) cl_Learner q_Learner_learn (hr.mono (by decide)) pass0 (pa_cons (pv 1) pa_nil))) (pss_one (ps_fldK (K := K) rfl (pv 0) (pe_slice (sl_anyK (K := K) rfl) (pe_op (op_addK (K := K) rfl) (pe_fldK (K := K) rfl (pv 0) rfl) (pe_tup (pa_cons (pv 1) pa_nil))) (po_some (pe_op op_subG pe_int (pe_fldK (K := K) rfl (pv 0) rfl))) po_none) rfl))), q⟩) ?_

  obtain ⟨p, m, sg, mo, s1, L, rfl, hk, ok, hl, hs, k⟩ := h
  rw [show start ["self", "sign"] [.ref p, .int (s1 : Nat)] = [some (.ref p), some (.int (s1 : Nat))] from rfl]
  cases m with
  | plain => exact False.elim hk
  | learn => exact False.elim hk
  | blend => exact False.elim hk
  | ahead o s st li last f =>
  obtain ⟨rfl, ho, lk, lm, m4, hla, hf⟩ := ok
  obtain ⟨n, l, d, es, eo, hs⟩ := hs.ah_in
  walk_at "g"
  have hs := HS.ah_out (Pl := C_Plain) (Bl := C_Blend) eo hs
  refine ⟨p, o, s, st, li, last, f, L, rfl, ⟨rfl, ho, lk, by omega, by omega, hla, hf⟩, hs, fun q W H' hs back => ?_⟩
  obtain ⟨h0, hs⟩ := HS.lr_in (Sh := C_Shares) (Le := C_Learner) (p := q) (cs := f last) (st := st) (li := li) hs
  walk_at "g"
  have hs := HS.lr_out hs
  refine ⟨q, .learn (f last) st li, s, mo, s1, W :: L, rfl, trivial, ⟨lk, lm, m4, hf last⟩, hl, hs, fun H' hs => ?_⟩
  have hs := back hs
  obtain ⟨n, l, d, es, eo, hs⟩ := HS.ah_in hs
  walk_at "g"
  refine s_tupN (by walk_at "z") fun t H' hs => ?_
  refine s_catT (by simp) (small_line (by simp [kl]; omega)) fun r H' hs => ?_
  rw [kl_snoc] at hs
  walk_at "g"
  refine s_slTp fun r2 H' hs => ?_
  rw [cut_last (by omega)] at hs
  walk_at "g"
  walk_at "p"
  case k =>
  intro H' hs
  refine k _ (HS.ah_out (n := n) (l := r2) (d := d) (es := es) eo ?_)
  exact hs.re

abbrev s_Blend_init : Stmt := (inClass (top 41) 0)
theorem sc_Blend_init : FnScope ["self", "one", "other", "weight"] ["self", "one", "other", "weight"] (defScope s_Blend_init) := ⟨rfl, rfl, rfl, by decide +kernel, rfl, by decide +kernel, by decide +kernel⟩
theorem ok_Blend_init {f : Addr} {fd : FuncData} (F : Fun K "__init__" "Blend.__init__" s_Blend_init f fd) (n_Blend_one : NoAttr K C_Blend "one") (cl_Blend : Cls K C_Blend) (n_Blend_other : NoAttr K C_Blend "other") (n_Blend_weight : NoAttr K C_Blend "weight") : FnOk P w K mg base CX0 (1) f fd ["self", "one", "other", "weight"] (spBlendInit K C_Shares C_Plain C_Learner C_Ahead C_Blend) := by
  have nd := sc_Blend_init.nd
  refine F.ok sc_Blend_init (fun vs H Q E h => ?_) (fun cdv A outer s H vs Q E hr h => ?_)
  · repeat (first | (obtain ⟨rfl, _⟩ := h; rfl) | (obtain ⟨_, h⟩ := h))
  refine (fun q => ⟨_, (pss_cons (ps_fldK (K := K) rfl (pv 0) (pv 1) rfl) (pss_cons (ps_fldK (K := K) rfl (pv 0) (pv 2) rfl) (pss_one (ps_fldK (K := K) rfl (pv 0) (pv 3) rfl)))), q⟩) ?_

  obtain ⟨p, q, r, w, a, b, L, rfl, hs, k⟩ := h
  rw [show start ["self", "one", "other", "weight"] [.ref p, .ref q, .ref r, .int w] = [some (.ref p), some (.ref q), some (.ref r), some (.int w)] from rfl]
  walk_at "g"
  walk_at "p"
  case k =>
  intro H' hs
  walk_at "g"
  walk_at "p"
  case k =>
  intro H' hs
  walk_at "g"
  walk_at "p"
  case k =>
  intro H' hs
  exact k _ (HS.bl_out (q := q) (r := r) hs)
abbrev s_Blend_now : Stmt := (inClass (top 41) 1)
theorem sc_Blend_now : FnScope ["self", "pairs", "one", "other"] ["self"] (defScope s_Blend_now) := ⟨rfl, rfl, rfl, by decide +kernel, rfl, by decide +kernel, by decide +kernel⟩
theorem ok_Blend_now {f : Addr} {fd : FuncData} (F : Fun K "now" "Blend.now" s_Blend_now f fd) (b_list : mg "list" = none) (b_zip : mg "zip" = none) (cl_Blend : Cls K C_Blend) (cl_Ahead : Cls K C_Ahead) (cl_Learner : Cls K C_Learner) (cl_Plain : Cls K C_Plain) (cl_Shares : Cls K C_Shares) (n_Blend_weight : NoAttr K C_Blend "weight") (n_Blend_one : NoAttr K C_Blend "one") (n_Blend_other : NoAttr K C_Blend "other") (n : Nat) (q_Shares_init : CalC P w K mg base CX0 3 C_Shares "Shares" ["self", "counts"] (spSharesInit K C_Shares)) (q_Blend_now : CalM P w K mg base CX0 (n + 8) C_Blend "now" ["self"] (spNow K C_Shares C_Plain C_Learner C_Ahead C_Blend 3 n)) (q_Ahead_now : CalM P w K mg base CX0 8 C_Ahead "now" ["self"] (spNow K C_Shares C_Plain C_Learner C_Ahead C_Blend 2 1)) (q_Learner_now : CalM P w K mg base CX0 1 C_Learner "now" ["self"] (spNow K C_Shares C_Plain C_Learner C_Ahead C_Blend 1 1)) (q_Plain_now : CalM P w K mg base CX0 1 C_Plain "now" ["self"] (spNow K C_Shares C_Plain C_Learner C_Ahead C_Blend 0 1)) (q_Shares_all_counts : CalM P w K mg base CX0 5 C_Shares "all_counts" ["self"] (spAllCounts C_Shares)) : FnOk P w K mg base CX0 (n + 9) f fd ["self"] (spNow K C_Shares C_Plain C_Learner C_Ahead C_Blend 3 (n + 1)) := by
  have nd := sc_Blend_now.nd
  refine F.ok sc_Blend_now (fun vs H Q E h => ?_) (fun cdv A outer s H vs Q E hr h => ?_)
  · repeat (first | (obtain ⟨rfl, _⟩ := h; rfl) | (obtain ⟨_, h⟩ := h))
  refine (fun q => ⟨_, (pss_cons (ps_set (i := 1) nd rfl (Or.inl rfl) (pe_listZipK (K := K) rfl rfl rfl b_list rfl b_zip (pa_cons (pe_calM0 (pe_or2 (pe_calM0 (pe_fldK (K := K) rfl (pv 0) rfl) cl_Plain q_Plain_now (hr.mono (by omega)) pass0) (pe_or2 (pe_calM0 (pe_fldK (K := K) rfl (pv 0) rfl) cl_Learner q_Learner_now (hr.mono (by omega)) pass0) (pe_or2 (pe_calM0 (pe_fldK (K := K) rfl (pv 0) rfl) cl_Ahead q_Ahead_now (hr.mono (by omega)) pass0) (pe_calM0 (pe_fldK (K := K) rfl (pv 0) rfl) cl_Blend q_Blend_now hr pass0)))) cl_Shares q_Shares_all_counts (hr.mono (by omega)) pass0) (pa_cons (pe_calM0 (pe_or2 (pe_calM0 (pe_fldK (K := K) rfl (pv 0) rfl) cl_Plain q_Plain_now (hr.mono (by omega)) pass0) (pe_or2 (pe_calM0 (pe_fldK (K := K) rfl (pv 0) rfl) cl_Learner q_Learner_now (hr.mono (by omega)) pass0) (pe_or2 (pe_calM0 (pe_fldK (K := K) rfl (pv 0) rfl) cl_Ahead q_Ahead_now (hr.mono (by omega)) pass0) (pe_calM0 (pe_fldK (K := K) rfl (pv 0) rfl) cl_Blend q_Blend_now hr pass0)))) cl_Shares q_Shares_all_counts (hr.mono (by omega)) pass0) pa_nil)))) (pss_one (ps_ret (pe_calC q_Shares_init (hr.mono (by omega)) rfl pass0 (pa_cons (pe_lc (own := [("one", 2), ("other", 3)]) rfl nd (pi_anyK (K := K) rfl (pv 1)) (blkOk_by (N := ["self", "pairs", "one", "other"]) (sc := defScope s_Blend_now) (by decide +kernel)) (fun _ _ _ _ _ => (pg_tupK (K := K) (n := 2) rfl rfl (pgs_cons (pg_name (i := 2) nd rfl (Or.inl rfl)) (pgs_cons (pg_name (i := 3) nd rfl (Or.inl rfl)) pgs_nil)))) (fun _ _ _ _ _ => pts_nil) (fun _ _ _ _ _ => (pe_op (op_addK (K := K) rfl) (pe_op op_mulG (pe_fldK (K := K) rfl (pv 0) rfl) (pv 2)) (pv 3)))) pa_nil))))), q⟩) ?_

  obtain ⟨p, m, sg, mo, L, rfl, hk, ok, hs, k⟩ := h
  rw [show start ["self", "pairs", "one", "other"] [.ref p] = [some (.ref p), none, none, none] from rfl]
  cases m with
  | plain => exact False.elim hk
  | learn => exact False.elim hk
  | ahead => exact False.elim hk
  | blend a b w =>
  have hg := ok.good
  obtain ⟨ma, mb, oa, ob2, hw, hmo, h4⟩ := ok
  have ga := oa.good
  have gb := ob2.good
  have la := ga.1.2.1
  have lb := gb.1.2.1
  have el : a.now.length = b.now.length := by have := ga.2.2.1; have := gb.2.2.1; omega
  obtain ⟨q, r, hs⟩ := hs.bl_in
  walk_at "g"
  refine w_now (q := q) (fun Q' h => by walk_at "g"; exact h) oa fun h W H' hs back => ?_
  walk_at "g"
  refine c_allCounts la fun r1 H' hs => ?_
  have hs : HS _ _ := back ((hs.pk (.there .here)).pk (.there (.there .here)) |>.pk (.there .here))
  walk_at "g"
  refine w_now (q := r) (fun Q' h => by walk_at "g"; exact h) ob2 fun h2 W2 H' hs back2 => ?_
  walk_at "g"
  refine c_allCounts lb fun r2 H' hs => ?_
  have hs : HS _ _ := back2 ((hs.pk (.there .here)).pk (.there (.there .here)) |>.pk (.there .here))
  walk_at "g"
  refine s_lzK (by rw [iv_len, iv_len]; exact el) fun r3 as H' hal hs => ?_
  walk_at "g"
  refine s_any ?_
  walk_at "g"
  refine s_lsK ?_
  have hs := (hs.re : HS H' (zps as (iv a.now) (iv b.now) :: pt r3 (.lst (as.map V.ref)) :: ob p C_Blend [("one", .ref q), ("other", .ref r), ("weight", .int w)] :: msa K C_Shares C_Plain C_Learner C_Ahead C_Blend a q :: msa K C_Shares C_Plain C_Learner C_Ahead C_Blend b r :: L))
  have ezl : (List.zipWith (fun x y => w * x + y) a.now b.now).length = a.now.length := zw_len w _ _ el
  rw [iv_len] at hal
  refine c_list (as.map V.ref) (fun D i H => HS H (pt D (.lst (iv ((List.zipWith (fun x y => w * x + y) a.now b.now).take i))) :: zps as (iv a.now) (iv b.now) :: pt r3 (.lst (as.map V.ref)) :: ob p C_Blend [("one", .ref q), ("other", .ref r), ("weight", .int w)] :: msa K C_Shares C_Plain C_Learner C_Ahead C_Blend a q :: msa K C_Shares C_Plain C_Learner C_Ahead C_Blend b r :: L)) (fun D H' h => h) (fun D i H _ h => RdL.sq h) ?_ ?_
  · intro D i x H hx hs
    rw [List.getElem?_map] at hx
    cases hi : as[i]? with
    | none => rw [hi] at hx; cases hx
    | some T =>
    rw [hi] at hx
    cases hx
    have hil := (List.getElem?_eq_some_iff.mp hi).1
    have h1 := get_getD (cs := a.now) (show i < a.now.length by omega)
    have h2 := get_getD (cs := b.now) (show i < b.now.length by omega)
    have hf := (hs.pk (.there .here)).fact i T _ _ hi (iv_getE h1) (iv_getE h2)
    have hs : HS H (tp T [.int (a.now.getD i 0), .int (b.now.getD i 0)] :: _) := hs.add hf
    have a1 := ga.1.2.2 _ (List.mem_of_getElem? h1)
    have a2 := ga.2.1 _ (List.mem_of_getElem? h1)
    refine s_gtup rfl ?_
    walk_at "g"
    refine ⟨rfl, ?_⟩
    walk_at "g"
    refine s_mul (mulx64 (by omega) (by omega)) ?_
    walk_at "g"
    have hs : HS H (pt D (.lst (iv ((List.zipWith (fun x y => w * x + y) a.now b.now).take i))) :: _) := hs.drop
    refine s_acc (small_lt (by rw [iv_len, List.length_take]; omega)) fun H' hs => ?_
    rw [iv_snoc (zw_at h1 h2)] at hs
    exact hs
  · intro D H hs
    walk_at "g"
    refine s_mkK fun x H' hs => ?_
    have e : (List.zipWith (fun x y => w * x + y) a.now b.now).take (as.map V.ref).length = (Mnd.blend a b w).now := by
      rw [List.length_map, hal]
      exact List.take_of_length_le (by omega)
    rw [e] at hs
    refine c_sharesInit (t := false) hg.1 hg.2.1 fun H' hs => ⟨rfl, ?_⟩
    refine k x (msa K C_Shares C_Plain C_Learner C_Ahead C_Blend (.blend a b w) p) _ ?_ fun {H L} h => h.drop
    have h1 := HS.bl_out (K := K) (Sh := C_Shares) (Pl := C_Plain) (Le := C_Learner) (Ah := C_Ahead) (Bl := C_Blend) (p := p) (q := q) (r := r) (a := a) (b := b) (w := w) (L := shR C_Shares x (Mnd.blend a b w).now :: L) hs.re
    exact h1.pk (.there .here)
abbrev s_Blend_learn : Stmt := (inClass (top 41) 2)
theorem sc_Blend_learn : FnScope ["self", "sign"] ["self", "sign"] (defScope s_Blend_learn) := ⟨rfl, rfl, rfl, by decide +kernel, rfl, by decide +kernel, by decide +kernel⟩
theorem ok_Blend_learn {f : Addr} {fd : FuncData} (F : Fun K "learn" "Blend.learn" s_Blend_learn f fd) (cl_Blend : Cls K C_Blend) (cl_Ahead : Cls K C_Ahead) (cl_Learner : Cls K C_Learner) (cl_Plain : Cls K C_Plain) (n_Blend_one : NoAttr K C_Blend "one") (n_Blend_other : NoAttr K C_Blend "other") (n : Nat) (q_Blend_learn : CalM P w K mg base CX0 (n + 9) C_Blend "learn" ["self", "sign"] (spLrn K C_Shares C_Plain C_Learner C_Ahead C_Blend 3 n)) (q_Ahead_learn : CalM P w K mg base CX0 9 C_Ahead "learn" ["self", "sign"] (spLrn K C_Shares C_Plain C_Learner C_Ahead C_Blend 2 1)) (q_Learner_learn : CalM P w K mg base CX0 7 C_Learner "learn" ["self", "sign"] (spLrn K C_Shares C_Plain C_Learner C_Ahead C_Blend 1 1)) (q_Plain_learn : CalM P w K mg base CX0 1 C_Plain "learn" ["self", "sign"] (spLrn K C_Shares C_Plain C_Learner C_Ahead C_Blend 0 1)) : FnOk P w K mg base CX0 (n + 10) f fd ["self", "sign"] (spLrn K C_Shares C_Plain C_Learner C_Ahead C_Blend 3 (n + 1)) := by
  have nd := sc_Blend_learn.nd
  refine F.ok sc_Blend_learn (fun vs H Q E h => ?_) (fun cdv A outer s H vs Q E hr h => ?_)
  · repeat (first | (obtain ⟨rfl, _⟩ := h; rfl) | (obtain ⟨_, h⟩ := h))
  refine (fun q => ⟨_, (pss_cons (ps_expr (pe_or2 (pe_calM (pe_fldK (K := K) rfl (pv 0) rfl) cl_Plain q_Plain_learn (hr.mono (by omega)) pass0 (pa_cons (pv 1) pa_nil)) (pe_or2 (pe_calM (pe_fldK (K := K) rfl (pv 0) rfl) cl_Learner q_Learner_learn (hr.mono (by omega)) pass0 (pa_cons (pv 1) pa_nil)) (pe_or2 (pe_calM (pe_fldK (K := K) rfl (pv 0) rfl) cl_Ahead q_Ahead_learn (hr.mono (by omega)) pass0 (pa_cons (pv 1) pa_nil)) (pe_calM (pe_fldK (K := K) rfl (pv 0) rfl) cl_Blend q_Blend_learn hr pass0 (pa_cons (pv 1) pa_nil)))))) (pss_one (ps_expr (pe_or2 (pe_calM (pe_fldK (K := K) rfl (pv 0) rfl) cl_Plain q_Plain_learn (hr.mono (by omega)) pass0 (pa_cons (pv 1) pa_nil)) (pe_or2 (pe_calM (pe_fldK (K := K) rfl (pv 0) rfl) cl_Learner q_Learner_learn (hr.mono (by omega)) pass0 (pa_cons (pv 1) pa_nil)) (pe_or2 (pe_calM (pe_fldK (K := K) rfl (pv 0) rfl) cl_Ahead q_Ahead_learn (hr.mono (by omega)) pass0 (pa_cons (pv 1) pa_nil)) (pe_calM (pe_fldK (K := K) rfl (pv 0) rfl) cl_Blend q_Blend_learn hr pass0 (pa_cons (pv 1) pa_nil)))))))), q⟩) ?_

  obtain ⟨p, m, sg, mo, s, L, rfl, hk, ok, hl, hs, k⟩ := h
  rw [show start ["self", "sign"] [.ref p, .int (s : Nat)] = [some (.ref p), some (.int (s : Nat))] from rfl]
  cases m with
  | plain => exact False.elim hk
  | learn => exact False.elim hk
  | ahead => exact False.elim hk
  | blend a b w =>
  obtain ⟨ma, mb, oa, ob2, hw, hmo, h4⟩ := ok
  obtain ⟨q, r, hs⟩ := hs.bl_in
  walk_at "g"
  refine w_learn (q := q) s (fun Q' h => by walk_at "g"; exact h) (fun Q' h => by walk_at "g"; exact h) oa hl fun H' hs => ?_
  walk_at "g"
  refine w_learn (q := r) s (fun Q' h => by walk_at "g"; exact h) (fun Q' h => by walk_at "g"; exact h) ob2 hl fun H' hs => ?_
  walk_at "g"
  refine k _ (HS.bl_out (q := q) (r := r) ?_)
  exact hs.re

abbrev s_begun : Stmt := (top 42)
theorem sc_begun : FnScope ["model"] ["model"] (defScope s_begun) := ⟨rfl, rfl, rfl, by decide +kernel, rfl, by decide +kernel, by decide +kernel⟩
theorem ok_begun {f : Addr} {fd : FuncData} (F : Fun K "begun" "begun" s_begun f fd) (k_AHEAD : mg "AHEAD" = some (.str "ahead" t_AHEAD)) (k_LEARN : mg "LEARN" = some (.str "learn" t_LEARN)) (k_PLAIN : mg "PLAIN" = some (.str "plain" t_PLAIN)) (n : Nat) (q_Blend_init : CalC P w K mg base CX0 1 C_Blend "Blend" ["self", "one", "other", "weight"] (spBlendInit K C_Shares C_Plain C_Learner C_Ahead C_Blend)) (q_begun : Cal P w K mg base CX0 (n + 8) "begun" ["model"] (spBegun K C_Shares C_Plain C_Learner C_Ahead C_Blend n)) (q_Ahead_init : CalC P w K mg base CX0 1 C_Ahead "Ahead" ["self", "order", "numbers"] (spAheadInit K C_Shares C_Plain C_Learner C_Ahead C_Blend)) (q_Learner_init : CalC P w K mg base CX0 5 C_Learner "Learner" ["self", "signs", "step", "limit"] (spLearnerInit K C_Shares C_Plain C_Learner C_Ahead C_Blend)) (q_Plain_init : CalC P w K mg base CX0 5 C_Plain "Plain" ["self", "counts"] (spPlainInit K C_Shares C_Plain C_Learner C_Ahead C_Blend)) : FnOk P w K mg base CX0 (n + 9) f fd ["model"] (spBegun K C_Shares C_Plain C_Learner C_Ahead C_Blend (n + 1)) := by
  have nd := sc_begun.nd
  refine F.ok sc_begun (fun vs H Q E h => ?_) (fun cdv A outer s H vs Q E hr h => ?_)
  · repeat (first | (obtain ⟨rfl, _⟩ := h; rfl) | (obtain ⟨_, h⟩ := h))
  refine (fun q => ⟨_, (pss_cons (ps_if (pt_cmpR (op_eqK (K := K) rfl hr.units) (pe_ix (ix_seqK (K := K) rfl) (pv 0) pe_int (fun _ _ => rfl)) (pe_glob (v := .str "plain") rfl k_PLAIN ⟨_, rfl⟩) (nomark _)) (pss_one (ps_ret (pe_calC q_Plain_init (hr.mono (by omega)) rfl pass0 (pa_cons (pe_ix (ix_seqK (K := K) rfl) (pv 0) pe_int (fun _ _ => rfl)) pa_nil)))) pss_nil) (pss_cons (ps_if (pt_cmpR (op_eqK (K := K) rfl hr.units) (pe_ix (ix_seqK (K := K) rfl) (pv 0) pe_int (fun _ _ => rfl)) (pe_glob (v := .str "learn") rfl k_LEARN ⟨_, rfl⟩) (nomark _)) (pss_one (ps_ret (pe_calC q_Learner_init (hr.mono (by omega)) rfl pass0 (pa_cons (pe_ix (ix_seqK (K := K) rfl) (pv 0) pe_int (fun _ _ => rfl)) (pa_cons (pe_ix (ix_seqK (K := K) rfl) (pv 0) pe_int (fun _ _ => rfl)) (pa_cons (pe_ix (ix_seqK (K := K) rfl) (pv 0) pe_int (fun _ _ => rfl)) pa_nil)))))) pss_nil) (pss_cons (ps_if (pt_cmpR (op_eqK (K := K) rfl hr.units) (pe_ix (ix_seqK (K := K) rfl) (pv 0) pe_int (fun _ _ => rfl)) (pe_glob (v := .str "ahead") rfl k_AHEAD ⟨_, rfl⟩) (nomark _)) (pss_one (ps_ret (pe_calC q_Ahead_init (hr.mono (by omega)) rfl pass0 (pa_cons (pe_ix (ix_seqK (K := K) rfl) (pv 0) pe_int (fun _ _ => rfl)) (pa_cons (pe_slice (sl_anyK (K := K) rfl) (pv 0) (po_some pe_int) po_none) pa_nil))))) pss_nil) (pss_one (ps_ret (pe_calC q_Blend_init (hr.mono (by omega)) rfl pass0 (pa_cons (pe_cal q_begun hr rfl pass0 (pa_cons (pe_ix (ix_seqK (K := K) rfl) (pv 0) pe_int (fun _ _ => rfl)) pa_nil)) (pa_cons (pe_cal q_begun hr rfl pass0 (pa_cons (pe_ix (ix_seqK (K := K) rfl) (pv 0) pe_int (fun _ _ => rfl)) pa_nil)) (pa_cons (pe_ix (ix_seqK (K := K) rfl) (pv 0) pe_int (fun _ _ => rfl)) pa_nil))))))))), q⟩) ?_

  obtain ⟨x, m, L, rfl, hs, hr1, ok, k⟩ := h
  rw [show start ["model"] [x] = [some x] from rfl]
  cases m with
  | plain cs =>
    obtain ⟨p, q, rfl, hs⟩ := hs.md_plain (hr1.rd hs)
    walk_at "g"
    refine s_ixT (v := .str "plain") rfl ?_
    walk_at "g"
    walk_at "e"
    refine s_ixT (v := .ref q) rfl ?_
    walk_at "g"
    refine s_mkK fun y H' hs => ?_
    refine c_plainInit (t := true) ⟨ok.1.1, ok.1.2, fun c hc => (ok.2 c hc).1⟩ (fun c hc => by have := (ok.2 c hc).2; omega) fun H' hs => ⟨rfl, ?_⟩
    exact k _ _ (hs.re : HS H' (msa K C_Shares C_Plain C_Learner C_Ahead C_Blend (.plain cs) y :: L))
  | learn s st li =>
    obtain ⟨p, rfl, hs⟩ := hs.md_learn (hr1.rd hs)
    walk_at "g"
    refine s_ixT (v := .str "learn") rfl ?_
    walk_at "g"
    walk_at "e"
    refine s_ixT (v := .str "learn") rfl ?_
    walk_at "g"
    walk_at "e"
    refine s_ixT (v := .int s) rfl ?_
    walk_at "g"
    refine s_ixT (v := .int st) rfl ?_
    walk_at "g"
    refine s_ixT (v := .int li) rfl ?_
    walk_at "g"
    refine s_mkK fun y H' hs => ?_
    refine c_learnerInit ok fun H' hs => ⟨rfl, ?_⟩
    exact k _ _ (hs.re : HS H' (msa K C_Shares C_Plain C_Learner C_Ahead C_Blend (.learn (ones s) st li) y :: L))
  | ahead o s st li =>
    obtain ⟨p, rfl, hs⟩ := hs.md_ahead (hr1.rd hs)
    walk_at "g"
    refine s_ixT (v := .str "ahead") rfl ?_
    walk_at "g"
    walk_at "e"
    refine s_ixT (v := .str "ahead") rfl ?_
    walk_at "g"
    walk_at "e"
    refine s_ixT (v := .str "ahead") rfl ?_
    walk_at "g"
    walk_at "e"
    refine s_ixT (v := .int o) rfl ?_
    walk_at "g"
    refine s_slTq (xs := [.str "ahead", .int o, .int s, .int st, .int li]) (show (2 : Nat) ≠ 0 by decide) fun r H' hs => ?_
    have hs : HS H' (tp r [.int s, .int st, .int li] :: _) := hs
    walk_at "g"
    refine s_mkK fun y H' hs => ?_
    refine c_aheadInit fun H' hs => ⟨rfl, ?_⟩
    exact k _ _ (hs.re : HS H' (msa K C_Shares C_Plain C_Learner C_Ahead C_Blend (.ahead o s st li [] fun _ => ones s) y :: L))
  | blend a b w =>
    obtain ⟨p, u, v, rfl, hs⟩ := hs.md_blend (hr1.rd hs)
    walk_at "g"
    refine s_ixT (v := .str "blend") rfl ?_
    walk_at "g"
    walk_at "e"
    refine s_ixT (v := .str "blend") rfl ?_
    walk_at "g"
    walk_at "e"
    refine s_ixT (v := .str "blend") rfl ?_
    walk_at "g"
    walk_at "e"
    refine s_ixT (v := u) rfl ?_
    walk_at "g"
    refine c_begun (md := a) ok.2.1 fun q H' hs => ?_
    walk_at "g"
    refine s_ixT (v := v) rfl ?_
    walk_at "g"
    refine c_begun (md := b) ok.2.2.1 fun r H' hs => ?_
    walk_at "g"
    refine s_ixT (v := .int w) rfl ?_
    walk_at "g"
    refine s_mkK fun y H' hs => ?_
    refine ⟨y, q, r, w, mind a, mind b, _, rfl, (hs.re : HS H' (_ :: msa K C_Shares C_Plain C_Learner C_Ahead C_Blend (mind a) q :: msa K C_Shares C_Plain C_Learner C_Ahead C_Blend (mind b) r :: L)), fun H' hs => ⟨rfl, ?_⟩⟩
    exact k _ _ hs
abbrev s_l_most : Stmt := (top 60)
theorem sc_l_most : FnScope ["_law_model_here"] ["_law_model_here"] (defScope s_l_most) := ⟨rfl, rfl, rfl, by decide +kernel, rfl, by decide +kernel, by decide +kernel⟩
theorem ok_l_most {f : Addr} {fd : FuncData} (F : Fun K "_law_most" "_law_most" s_l_most f fd) (b_sum : mg "sum" = none) (n : Nat) (q_l_most : Cal P w K mg base CX0 (n + 1) "_law_most" ["_law_model_here"] (spMostOf K n)) : FnOk P w K mg base CX0 (n + 2) f fd ["_law_model_here"] (spMostOf K (n + 1)) := by
  have nd := sc_l_most.nd
  refine F.ok sc_l_most (fun vs H Q E h => ?_) (fun cdv A outer s H vs Q E hr h => ?_)
  · repeat (first | (obtain ⟨rfl, _⟩ := h; rfl) | (obtain ⟨_, h⟩ := h))
  refine (fun q => ⟨_, (pss_cons (ps_if (pt_cmpR (op_eqK (K := K) rfl hr.units) (pe_ix (ix_seqK (K := K) rfl) (pv 0) pe_int (fun _ _ => rfl)) pe_str (nomark _)) (pss_one (ps_ret (pe_op (op_addK (K := K) rfl) (pe_op op_mulG (pe_ix (ix_seqK (K := K) rfl) (pv 0) pe_int (fun _ _ => rfl)) (pe_cal q_l_most hr rfl pass0 (pa_cons (pe_ix (ix_seqK (K := K) rfl) (pv 0) pe_int (fun _ _ => rfl)) pa_nil))) (pe_cal q_l_most hr rfl pass0 (pa_cons (pe_ix (ix_seqK (K := K) rfl) (pv 0) pe_int (fun _ _ => rfl)) pa_nil))))) pss_nil) (pss_one (ps_ret (pe_ifExp (pt_cmpR (op_eqK (K := K) rfl hr.units) (pe_ix (ix_seqK (K := K) rfl) (pv 0) pe_int (fun _ _ => rfl)) pe_str (nomark _)) (pe_callB (call_sumTK (K := K) rfl rfl) rfl b_sum (by decide +kernel) (pa_cons (pe_ix (ix_seqK (K := K) rfl) (pv 0) pe_int (fun _ _ => rfl)) pa_nil)) (pe_ix (ix_seqK (K := K) rfl) (pv 0) (pe_un un_neg pe_int) (fun _ _ => rfl)))))), q⟩) ?_

  obtain ⟨x, m, L, rfl, hs, hr1, ok, k⟩ := h
  rw [show start ["_law_model_here"] [x] = [some x] from rfl]
  cases m with
  | plain cs =>
    obtain ⟨p, q, rfl, hs⟩ := hs.md_plain (hr1.rd hs)
    walk_at "g"
    refine s_ixT (v := .str "plain") rfl ?_
    walk_at "g"
    walk_at "e"
    refine s_ixT (v := .str "plain") rfl ?_
    walk_at "g"
    walk_at "e"
    refine s_ixT (v := .ref q) rfl ?_
    walk_at "g"
    refine s_sumT ?_
    exact k _ hs.re
  | learn s st li =>
    obtain ⟨p, rfl, hs⟩ := hs.md_learn (hr1.rd hs)
    walk_at "g"
    refine s_ixT (v := .str "learn") rfl ?_
    walk_at "g"
    walk_at "e"
    refine s_ixT (v := .str "learn") rfl ?_
    walk_at "g"
    walk_at "e"
    refine s_ixT (v := .int li) rfl ?_
    exact k _ hs.re
  | ahead o s st li =>
    obtain ⟨p, rfl, hs⟩ := hs.md_ahead (hr1.rd hs)
    walk_at "g"
    refine s_ixT (v := .str "ahead") rfl ?_
    walk_at "g"
    walk_at "e"
    refine s_ixT (v := .str "ahead") rfl ?_
    walk_at "g"
    walk_at "e"
    refine s_ixT (v := .int li) rfl ?_
    exact k _ hs.re
  | blend a b w =>
    obtain ⟨p, u, v, rfl, hs⟩ := hs.md_blend (hr1.rd hs)
    have a1 := ok.2.1.mst
    have w1 := ok.1
    walk_at "g"
    refine s_ixT (v := .str "blend") rfl ?_
    walk_at "g"
    walk_at "e"
    refine s_ixT (v := .int w) rfl ?_
    walk_at "g"
    refine s_ixT (v := u) rfl ?_
    walk_at "g"
    refine c_mostOf ok.2.1 fun H' hs => ?_
    refine s_mul (mulx64 (by omega) (by omega)) ?_
    walk_at "g"
    refine s_ixT (v := v) rfl ?_
    walk_at "g"
    refine c_mostOf ok.2.2.1 fun H' hs => ?_
    walk_at "g"
    exact k _ hs.re



abbrev s_l_model : Stmt := (top 59)
theorem sc_l_model : FnScope ["_law_row", "_law_signs_here", "_law_deep", "_law_way", "_law_step", "_law_limit", "_law_k", "_law_one", "_law_other", "_law_found"] ["_law_row", "_law_signs_here", "_law_deep"] (defScope s_l_model) := ⟨rfl, rfl, rfl, by decide +kernel, rfl, by decide +kernel, by decide +kernel⟩
theorem ok_l_model {f : Addr} {fd : FuncData} (F : Fun K "_law_model" "_law_model" s_l_model f fd) (b_tuple : mg "tuple" = none) (b_range : mg "range" = none) (b_int : mg "int" = none) (n : Nat) (q_l_most : Cal P w K mg base CX0 4 "_law_most" ["_law_model_here"] (spMostOf K 3)) (q_l_taken : Cal P w K mg base CX0 1 "_law_taken" ["_law_row", "_law_many"] (spTaken K)) (q_l_model : Cal P w K mg base CX0 (n + 5) "_law_model" ["_law_row", "_law_signs_here", "_law_deep"] (spLModel K n)) : FnOk P w K mg base CX0 (n + 6) f fd ["_law_row", "_law_signs_here", "_law_deep"] (spLModel K (n + 1)) := by
  have nd := sc_l_model.nd
  refine F.ok sc_l_model (fun vs H Q E h => ?_) (fun cdv A outer s H vs Q E hr h => ?_)
  · repeat (first | (obtain ⟨rfl, _⟩ := h; rfl) | (obtain ⟨_, h⟩ := h))
  refine (fun q => ⟨_, (pss_cons (ps_set (i := 3) nd rfl (Or.inl rfl) (pe_cal q_l_taken (hr.mono (by omega)) rfl pass0 (pa_cons (pv 0) (pa_cons (pe_ix (ix_seqK (K := K) rfl) (pe_lst (pa_cons pe_int (pa_cons pe_int pa_nil))) (pe_callTy call_intG rfl b_int (by decide +kernel) (pa_cons (pe_cmpR op_gtG (pv 2) pe_int (nomark _)) pa_nil)) (fun _ _ => rfl)) pa_nil)))) (pss_cons (ps_par (i := 4) (j := 5) rfl nd rfl rfl (by decide) rfl rfl (pa_cons (pe_op (op_addK (K := K) rfl) pe_int (pe_cal q_l_taken (hr.mono (by omega)) rfl pass0 (pa_cons (pv 0) (pa_cons (pe_ix (ix_seqK (K := K) rfl) (pe_lst (pa_cons pe_int (pa_cons pe_int pa_nil))) (pe_cal q_l_taken (hr.mono (by omega)) rfl pass0 (pa_cons (pv 0) (pa_cons pe_int pa_nil))) (fun _ _ => rfl)) pa_nil)))) (pa_cons (pe_op (op_addK (K := K) rfl) (pv 1) (pe_cal q_l_taken (hr.mono (by omega)) rfl pass0 (pa_cons (pv 0) (pa_cons (pe_op op_subG pe_int (pv 1)) pa_nil)))) pa_nil)) rfl) (pss_cons (ps_if (pt_cmpR (op_eqK (K := K) rfl hr.units) (pv 3) pe_int (nomark _)) (pss_one (ps_ret (pe_tup (pa_cons pe_str (pa_cons (pe_callTy (call_tupK (K := K) rfl) rfl b_tuple (by decide +kernel) (pa_cons (pe_lc (own := [("_law_k", 6)]) rfl nd (pi_range1 rfl b_range (pa_cons (pv 1) pa_nil)) (blkOk_by (N := ["_law_row", "_law_signs_here", "_law_deep", "_law_way", "_law_step", "_law_limit", "_law_k", "_law_one", "_law_other", "_law_found"]) (sc := defScope s_l_model) (by decide +kernel)) (fun _ _ _ _ _ => (pg_name (i := 6) nd rfl (Or.inl rfl))) (fun _ _ _ _ _ => pts_nil) (fun _ _ _ _ _ => (pe_op (op_addK (K := K) rfl) pe_int (pe_cal q_l_taken (hr.mono (by omega)) rfl pass0 (pa_cons (pv 0) (pa_cons (pe_ix (ix_seqK (K := K) rfl) (pe_lst (pa_cons pe_int (pa_cons pe_int pa_nil))) (pe_cal q_l_taken (hr.mono (by omega)) rfl pass0 (pa_cons (pv 0) (pa_cons pe_int pa_nil))) (fun _ _ => rfl)) pa_nil)))))) pa_nil)) pa_nil))))) pss_nil) (pss_cons (ps_if (pt_cmpR (op_eqK (K := K) rfl hr.units) (pv 3) pe_int (nomark _)) (pss_one (ps_ret (pe_tup (pa_cons pe_str (pa_cons (pv 1) (pa_cons (pv 4) (pa_cons (pv 5) pa_nil))))))) pss_nil) (pss_cons (ps_if (pt_cmpR (op_eqK (K := K) rfl hr.units) (pv 3) pe_int (nomark _)) (pss_one (ps_ret (pe_tup (pa_cons pe_str (pa_cons (pe_op (op_addK (K := K) rfl) pe_int (pe_cal q_l_taken (hr.mono (by omega)) rfl pass0 (pa_cons (pv 0) (pa_cons pe_int pa_nil)))) (pa_cons (pv 1) (pa_cons (pv 4) (pa_cons (pv 5) pa_nil)))))))) pss_nil) (pss_cons (ps_par (i := 7) (j := 8) rfl nd rfl rfl (by decide) rfl rfl (pa_cons (pe_cal q_l_model hr rfl pass0 (pa_cons (pv 0) (pa_cons (pv 1) (pa_cons (pe_op op_subG (pv 2) pe_int) pa_nil)))) (pa_cons (pe_cal q_l_model hr rfl pass0 (pa_cons (pv 0) (pa_cons (pv 1) (pa_cons (pe_op op_subG (pv 2) pe_int) pa_nil)))) pa_nil)) rfl) (pss_cons (ps_set (i := 9) nd rfl (Or.inl rfl) (pe_tup (pa_cons pe_str (pa_cons (pv 7) (pa_cons (pv 8) (pa_cons (pe_op (op_addK (K := K) rfl) pe_int (pe_cal q_l_taken (hr.mono (by omega)) rfl pass0 (pa_cons (pv 0) (pa_cons pe_int pa_nil)))) pa_nil)))))) (pss_one (ps_ret (pe_ifExp (pt_cmpR op_leG (pe_cal q_l_most (hr.mono (by omega)) rfl pass0 (pa_cons (pv 9) pa_nil)) pe_int (nomark _)) (pv 9) (pv 7))))))))))), q⟩) ?_

  obtain ⟨p, sg, d, L, rfl, n1, n3, s8, hs, k⟩ := h
  rw [show start ["_law_row", "_law_signs_here", "_law_deep", "_law_way", "_law_step", "_law_limit", "_law_k", "_law_one", "_law_other", "_law_found"] [.ref p, .int sg, .int (d : Nat)] = [some (.ref p), some (.int sg), some (.int (d : Nat)), none, none, none, none, none, none, none] from rfl]
  walk_at "g"
  refine s_lstN (by walk_at "z") fun q H' hs => ?_
  walk_at "g"
  refine s_ixL (pickB _ 3 5) ?_
  walk_at "g"
  refine c_taken (by split <;> decide) (by split <;> decide) fun way H' w0 w1 hs => ?_
  walk_at "g"
  refine s_lstN (by walk_at "z") fun q2 H' hs => ?_
  walk_at "g"
  refine c_taken (by decide) (by decide) fun y H' y0 y1 hs => ?_
  obtain ⟨z, hz, hz2⟩ := pick2 (a := 3) (b := 20) y0 y1
  refine s_ixL hz ?_
  walk_at "g"
  have hz3 : 0 < z ∧ z < 2 ^ 64 ∧ z ≤ 20 := by rcases hz2 with rfl | rfl <;> decide
  refine c_taken hz3.1 hz3.2.1 fun st H' t0 t1 hs => ?_
  walk_at "g"
  refine c_taken (by omega) (by omega) fun li H' l0 l1 hs => ?_
  have lk : Lok sg (1 + st) (sg + li) := ⟨s8, by omega, by omega, by omega⟩
  have hs := (hs.re : HS H' (rowA K p :: L))
  walk_at "g"
  refine i_d (fun hw => ?_) (fun hw => ?_)
  · walk_at "g"
    refine s_rngK1 (by omega) (by omega) ?_
    refine w_countsB s8.1 s8.2 (fun _ => rfl) (fun _ => rfl) (by decide) (by decide) fun D H' cs hl hc hs => ?_
    walk_at "g"
    refine s_tupL fun t H' hs => ?_
    walk_at "g"
    refine s_tupN (by walk_at "z") fun r H' hs => ?_
    have ok : MOk (d + 1) (.plain cs) := ⟨by omega, hc⟩
    refine k (.ref r) (.plain cs) _ ok (by simp only [nsg]; omega) ?_
    have hm : MR K (.plain cs) (.ref r) H' := ⟨r, t, rfl, (inferInstance : RdT K _ r _).sq hs, (inferInstance : RdT K _ t _).sq hs⟩
    exact (hs.addMd hm).re
  walk_at "g"
  refine i_d (fun hw => ?_) (fun hw => ?_)
  · walk_at "g"
    refine s_tupN (by walk_at "z") fun r H' hs => ?_
    refine k (.ref r) (.learn sg (1 + st) (sg + li)) _ lk rfl ?_
    have hm : MR K (.learn sg (1 + st) (sg + li)) (.ref r) H' := ⟨r, rfl, (inferInstance : RdT K _ r _).sq hs⟩
    exact (hs.addMd hm).re
  walk_at "g"
  refine i_d (fun hw => ?_) (fun hw => ?_)
  · walk_at "g"
    refine c_taken (by decide) (by decide) fun o H' o0 o1 hs => ?_
    walk_at "g"
    refine s_tupN (by walk_at "z") fun r H' hs => ?_
    refine k (.ref r) (.ahead (1 + o) sg (1 + st) (sg + li)) _ ⟨by omega, lk⟩ rfl ?_
    have hm : MR K (.ahead (1 + o) sg (1 + st) (sg + li)) (.ref r) H' := ⟨r, rfl, (inferInstance : RdT K _ r _).sq hs⟩
    exact (hs.addMd hm).re
  have hd : 0 < d := by
    by_cases q : 0 < d
    · exact q
    · rw [if_neg (by simp; omega)] at w1
      omega
  obtain ⟨e, rfl⟩ : ∃ e, d = e + 1 := ⟨d - 1, by omega⟩
  walk_at "g"
  refine c_lModel e (by omega) (by omega) (by omega) s8 fun x a H' oka ea hs => ?_
  walk_at "g"
  refine c_lModel e (by omega) (by omega) (by omega) s8 fun y b H' okb eb hs => ?_
  walk_at "g"
  refine c_taken (by decide) (by decide) fun w H' o0 o1 hs => ?_
  walk_at "g"
  refine s_tupN (by walk_at "z") fun r H' hs => ?_
  walk_at "g"
  have hm : MR K (.blend a b (1 + w)) (.ref r) H' := ⟨r, x, y, rfl, (inferInstance : RdT K _ r _).sq hs, (inferInstance : MdR K _ x _).rd hs, (inferInstance : MdR K _ y _).rd hs⟩
  have hs := hs.addMd hm
  have n2 : e + 1 ≤ 2 := by omega
  have oa2 : MOk 2 a := oka.le n2
  have ob2 : MOk 2 b := okb.le n2
  have okT : MOkT 3 (.blend a b (1 + w)) := ⟨by omega, oa2, ob2, by rw [ea, eb]⟩
  refine c_mostT okT fun H' hs => ?_
  walk_at "g"
  refine i_d (fun hw => ?_) (fun hw => ?_)
  · walk_at "g"
    refine k (.ref r) (.blend a b (1 + w)) _ ⟨by omega, oka, okb, by rw [ea, eb], hw⟩ ea ?_
    exact hs.re
  · walk_at "g"
    refine k x a _ oka.mono ea ?_
    exact hs.re
abbrev s_l_any : Stmt := (top 54)
theorem sc_l_any : FnScope ["_law_row", "_law_signs_here"] ["_law_row"] (defScope s_l_any) := ⟨rfl, rfl, rfl, by decide +kernel, rfl, by decide +kernel, by decide +kernel⟩
theorem ok_l_any {f : Addr} {fd : FuncData} (F : Fun K "_law_any" "_law_any" s_l_any f fd) (q_l_model : Cal P w K mg base CX0 8 "_law_model" ["_law_row", "_law_signs_here", "_law_deep"] (spLModel K 3)) (q_l_taken : Cal P w K mg base CX0 1 "_law_taken" ["_law_row", "_law_many"] (spTaken K)) : FnOk P w K mg base CX0 (9) f fd ["_law_row"] (spLAny K) := by
  have nd := sc_l_any.nd
  refine F.ok sc_l_any (fun vs H Q E h => ?_) (fun cdv A outer s H vs Q E hr h => ?_)
  · repeat (first | (obtain ⟨rfl, _⟩ := h; rfl) | (obtain ⟨_, h⟩ := h))
  refine (fun q => ⟨_, (pss_cons (ps_set (i := 1) nd rfl (Or.inl rfl) (pe_ix (ix_seqK (K := K) rfl) (pe_lst (pa_cons pe_int (pa_cons pe_int (pa_cons (pe_op (op_addK (K := K) rfl) pe_int (pe_cal q_l_taken (hr.mono (by decide)) rfl pass0 (pa_cons (pv 0) (pa_cons pe_int pa_nil)))) pa_nil)))) (pe_cal q_l_taken (hr.mono (by decide)) rfl pass0 (pa_cons (pv 0) (pa_cons pe_int pa_nil))) (fun _ _ => rfl))) (pss_one (ps_ret (pe_tup (pa_cons (pe_cal q_l_model (hr.mono (by decide)) rfl pass0 (pa_cons (pv 0) (pa_cons (pv 1) (pa_cons pe_int pa_nil)))) (pa_cons (pv 1) pa_nil)))))), q⟩) ?_

  obtain ⟨p, L, rfl, hs, k⟩ := h
  rw [show start ["_law_row", "_law_signs_here"] [.ref p] = [some (.ref p), none] from rfl]
  walk_at "g"
  refine c_taken (by decide) (by decide) fun sg H' s0 s1 hs => ?_
  walk_at "g"
  refine s_lstN (by walk_at "z") fun q H' hs => ?_
  walk_at "g"
  refine c_taken (by decide) (by decide) fun y H' y0 y1 hs => ?_
  obtain ⟨v, hv, hv2⟩ := pick3 (x := .int 2) (y := .int 3) (z := .int (1 + sg)) y0 y1
  obtain ⟨sg2, rfl, s8⟩ : ∃ z : Int, v = .int z ∧ (1 ≤ z ∧ z ≤ 8) := by
    rcases hv2 with rfl | rfl | rfl
    · exact ⟨2, rfl, by decide⟩
    · exact ⟨3, rfl, by decide⟩
    · exact ⟨1 + sg, rfl, by omega⟩
  refine s_ixL hv ?_
  walk_at "g"
  refine c_lModel 2 rfl (by decide) (by decide) s8 fun x m H' ok e hs => ?_
  walk_at "g"
  refine s_tupN (by walk_at "z") fun r H' hs => ?_
  rw [← e] at hs
  exact k r x m _ ok hs.re
abbrev s_l_signs : Stmt := (top 56)
theorem sc_l_signs : FnScope ["_law_row", "_law_signs_here", "_law_most_here", "_law_found", "_law_k", "_law_sign"] ["_law_row", "_law_signs_here", "_law_most_here"] (defScope s_l_signs) := ⟨rfl, rfl, rfl, by decide +kernel, rfl, by decide +kernel, by decide +kernel⟩
theorem ok_l_signs {f : Addr} {fd : FuncData} (F : Fun K "_law_signs" "_law_signs" s_l_signs f fd) (b_range : mg "range" = none) (q_l_taken : Cal P w K mg base CX0 1 "_law_taken" ["_law_row", "_law_many"] (spTaken K)) : FnOk P w K mg base CX0 (2) f fd ["_law_row", "_law_signs_here", "_law_most_here"] (spLSigns K) := by
  have nd := sc_l_signs.nd
  refine F.ok sc_l_signs (fun vs H Q E h => ?_) (fun cdv A outer s H vs Q E hr h => ?_)
  · repeat (first | (obtain ⟨rfl, _⟩ := h; rfl) | (obtain ⟨_, h⟩ := h))
  refine (fun q => ⟨_, (pss_cons (ps_set (i := 3) nd rfl (Or.inl rfl) (pe_lst pa_nil)) (pss_cons (ps_for PassesOwn.never rfl (pi_range1 rfl b_range (pa_cons (pe_cal q_l_taken (hr.mono (by decide)) rfl pass0 (pa_cons (pv 0) (pa_cons (pe_op (op_addK (K := K) rfl) (pv 2) pe_int) pa_nil))) pa_nil)) (pg_name (i := 4) nd rfl (Or.inl rfl)) (pss_cons (ps_set (i := 5) nd rfl (Or.inl rfl) (pe_cal q_l_taken (hr.mono (by decide)) rfl pass0 (pa_cons (pv 0) (pa_cons (pv 1) pa_nil)))) (pss_one (ps_expr (pe_bmK (K := K) rfl PySem.F.plainAttrs_list PySem.F.slot_list_append PySem.F.type_list_append mt_append (pv 3) (pa_cons (pe_ifExp (PW.pt (pw_and (pt_cmpR (op_neK (K := K) rfl hr.units) (pv 3) (pe_lst pa_nil) (nomark _)) (pw_and1 (pt_cmpR (op_eqK (K := K) rfl hr.units) (pe_cal q_l_taken (hr.mono (by decide)) rfl pass0 (pa_cons (pv 0) (pa_cons pe_int pa_nil))) pe_int (nomark _))))) (pe_ix (ix_seqK (K := K) rfl) (pv 3) (pe_un un_neg pe_int) (fun _ _ => rfl)) (pv 5)) pa_nil)))))) (pss_one (ps_ret (pv 3))))), q⟩) ?_

  obtain ⟨p, sg, mo, L, rfl, hs, s8, m0, k⟩ := h
  rw [show start ["_law_row", "_law_signs_here", "_law_most_here", "_law_found", "_law_k", "_law_sign"] [.ref p, .int sg, .int mo] = [some (.ref p), some (.int sg), some (.int mo), none, none, none] from rfl]
  walk_at "g"
  refine s_lstN (by walk_at "z") fun r H' hs => ?_
  walk_at "g"
  refine c_taken (by omega) (by omega) fun n H' n0 n1 hs => ?_
  refine s_rngK1 (by omega) (by omega) ?_
  have hs := (hs.re : HS H' (pt r (.lst []) :: rowA K p :: L))
  refine f_range (fun j σ H => ∃ v4 v5, ∃ ss : List Nat, σ = [some (.ref p), some (.int sg), some (.int mo), some (.ref r), v4, v5] ∧ ss.length = j ∧ (∀ s ∈ ss, (s : Int) < sg) ∧ HS H (pt r (.lst (iv (ss.map Int.ofNat))) :: rowA K p :: L)) ⟨_, _, [], rfl, rfl, by simp, hs⟩ ?_ ?_
  · rintro j σ H hj ⟨v4, v5, ss, rfl, rfl, hss, hs⟩
    walk_at "g"
    refine c_taken (by omega) (by omega) fun s H' s0 s1 hs => ?_
    have hs : HS H' (pt r (.lst (iv (ss.map Int.ofNat))) :: rowA K p :: L) := hs.re
    have fin : ∀ (t : Nat) (H' : Hp), (t : Int) < sg → HS H' (pt r (.lst (iv (ss.map Int.ofNat) ++ [.int (t : Int)])) :: rowA K p :: L) → ∃ v4 v5, ∃ ss2 : List Nat, [some (V.ref p), some (.int sg), some (.int mo), some (.ref r), some (.int (ss.length : Int)), some (.int s)] = [some (.ref p), some (.int sg), some (.int mo), some (.ref r), v4, v5] ∧ ss2.length = ss.length + 1 ∧ (∀ s ∈ ss2, (s : Int) < sg) ∧ HS H' (pt r (.lst (iv (ss2.map Int.ofNat))) :: rowA K p :: L) := fun t H' ht h => by
      refine ⟨_, _, ss ++ [t], rfl, by simp, fun x hx => ?_, by rw [List.map_append, List.map_cons, List.map_nil, iv_app]; exact h⟩
      rcases List.mem_append.mp hx with q | q
      · exact hss x q
      · rw [List.mem_singleton.mp q]; exact ht
    walk_at "g"
    refine s_bmK ?_
    walk_at "g"
    refine s_lstN (by walk_at "z") fun e H' hs => ?_
    have hs : HS H' (pt e (.lst (iv [])) :: pt r (.lst (iv (ss.map Int.ofNat))) :: rowA K p :: L) := hs
    refine s_neIv (as := ss.map Int.ofNat) (bs := []) (by simp; omega) (by simp) ?_
    have lz : (iv (ss.map Int.ofNat)).length < sizeLine := small_lt (by rw [iv_len, List.length_map]; omega)
    walk_at "g"
    refine i_nd (fun hne => ?_) (fun he => ?_)
    · walk_at "g"
      refine c_taken (by decide) (by decide) fun y H' y0 y1 hs => ?_
      have hs : HS H' (pt r (.lst (iv (ss.map Int.ofNat))) :: rowA K p :: L) := hs.re
      walk_at "g"
      refine i_d (fun _ => ?_) (fun _ => ?_)
      · obtain ⟨s2, hs2, hm2⟩ := last_at (ss := ss) (fun q => hne (by rw [q]; rfl))
        walk_at "g"
        refine s_ixL hs2 ?_
        walk_at "g"
        refine s_app lz fun H' hs => ?_
        walk_at "g"
        exact fin s2 _ (hss s2 hm2) hs
      · walk_at "g"
        refine s_app lz fun H' hs => ?_
        walk_at "g"
        obtain ⟨t, rfl⟩ := Int.eq_ofNat_of_zero_le s0
        exact fin t _ s1 hs
    · walk_at "g"
      refine s_app lz fun H' hs => ?_
      walk_at "g"
      obtain ⟨t, rfl⟩ := Int.eq_ofNat_of_zero_le s0
      exact fin t _ s1 hs.re
  · rintro σ H ⟨v4, v5, ss, rfl, hl, hss, hs⟩
    walk_at "g"
    exact k r ss _ (by omega) hss hs

abbrev s_need_row : Stmt := (top 37)
theorem sc_need_row : FnScope ["signs", "row", "number"] ["signs", "row"] (defScope s_need_row) := ⟨rfl, rfl, rfl, by decide +kernel, rfl, by decide +kernel, by decide +kernel⟩
theorem ok_need_row {f : Addr} {fd : FuncData} (F : Fun K "need_row" "need_row" s_need_row f fd) (b_range : mg "range" = none) (b_len : mg "len" = none) (k_MOST_ROW : mg "MOST_ROW" = some (.int (60) t_MOST_ROW)) (q_is_within : Cal P w K mg base CX0 1 "is_within" ["number", "low", "high"] (spWithin)) : FnOk P w K mg base CX0 (2) f fd ["signs", "row"] (spNeedRow K) := by
  have nd := sc_need_row.nd
  refine F.ok sc_need_row (fun vs H Q E h => ?_) (fun cdv A outer s H vs Q E hr h => ?_)
  · repeat (first | (obtain ⟨rfl, _⟩ := h; rfl) | (obtain ⟨_, h⟩ := h))
  refine (fun q => ⟨_, (pss_one (ps_for PassesOwn.never rfl (pi_range1 rfl b_range (pa_cons (pe_callB (call_lenK (K := K) rfl) rfl b_len PySem.boot_len (pa_cons (pv 1) pa_nil)) pa_nil)) (pg_name (i := 2) nd rfl (Or.inl rfl)) (pss_one (ps_if (PW.pt (pw_or (pt_cmpR op_geG (pv 2) (pe_glob (v := .int (60)) rfl k_MOST_ROW ⟨_, rfl⟩) (nomark _)) (pw_or1 (pt_not (pt_val (pe_cal q_is_within (hr.mono (by decide)) rfl pass0 (pa_cons (pe_ix (ix_seqK (K := K) rfl) (pv 1) (pv 2) (fun _ _ => rfl)) (pa_cons pe_int (pa_cons (pe_op op_subG (pv 0) pe_int) pa_nil))))))))) pss_never pss_nil)))), q⟩) ?_

  obtain ⟨sg, r, ss, L, rfl, hs, rd, hl, hss, k⟩ := h
  rw [show start ["signs", "row", "number"] [.int sg, .ref r] = [some (.int sg), some (.ref r), none] from rfl]
  walk_at "g"
  refine s_lenL ?_
  walk_at "g"
  refine s_rngK1 (by rw [iv_len, List.length_map]; omega) (by rw [iv_len, List.length_map]; omega) ?_
  rw [show (((iv (ss.map Int.ofNat)).length : Int)).toNat = ss.length from by rw [iv_len, List.length_map]; omega]
  refine f_range (fun j σ H => ∃ v, σ = [some (.int sg), some (.ref r), v] ∧ HS H L) ⟨_, rfl, hs⟩ ?_ ?_
  · rintro j σ H hj ⟨v, rfl, hs⟩
    have hsj := List.getElem?_eq_getElem hj
    have hlt := hss _ (List.getElem_mem hj)
    walk_at "g"
    refine i_n (by omega) ?_
    walk_at "g"
    refine s_ixL (v := .int ((ss[j] : Nat) : Int)) (at_iv (by rw [List.getElem?_map, hsj]; rfl)) ?_
    walk_at "g"
    refine c_within ?_
    walk_at "g"
    refine i_nd (fun n => absurd (by omega) n) fun _ => ?_
    walk_at "g"
    exact ⟨_, rfl, hs⟩
  · rintro σ H ⟨v, rfl, hs⟩
    walk_at "g"
    exact k _ hs
abbrev s_need_room : Stmt := (top 49)
theorem sc_need_room : FnScope ["model", "room"] ["model", "room"] (defScope s_need_room) := ⟨rfl, rfl, rfl, by decide +kernel, rfl, by decide +kernel, by decide +kernel⟩
theorem ok_need_room {f : Addr} {fd : FuncData} (F : Fun K "need_room" "need_room" s_need_room f fd) (k_MOST_ROOM : mg "MOST_ROOM" = some (.int (20) t_MOST_ROOM)) (k_LEAST_ROOM : mg "LEAST_ROOM" = some (.int (4) t_LEAST_ROOM)) (q_most_of : Cal P w K mg base CX0 5 "most_of" ["model"] (spMostOf K 4)) (q_is_within : Cal P w K mg base CX0 1 "is_within" ["number", "low", "high"] (spWithin)) : FnOk P w K mg base CX0 (6) f fd ["model", "room"] (spNeedRoom K) := by
  have nd := sc_need_room.nd
  refine F.ok sc_need_room (fun vs H Q E h => ?_) (fun cdv A outer s H vs Q E hr h => ?_)
  · repeat (first | (obtain ⟨rfl, _⟩ := h; rfl) | (obtain ⟨_, h⟩ := h))
  refine (fun q => ⟨_, (pss_one (ps_if (PW.pt (pw_or (pt_not (pt_val (pe_cal q_is_within (hr.mono (by decide)) rfl pass0 (pa_cons (pv 1) (pa_cons (pe_glob (v := .int (4)) rfl k_LEAST_ROOM ⟨_, rfl⟩) (pa_cons (pe_glob (v := .int (20)) rfl k_MOST_ROOM ⟨_, rfl⟩) pa_nil)))))) (pw_or1 (pt_cmpR op_gtG (pe_op op_mulG pe_int (pe_cal q_most_of (hr.mono (by decide)) rfl pass0 (pa_cons (pv 0) pa_nil))) (pe_op op_shlG pe_int (pv 1)) (nomark _))))) pss_never pss_nil)), q⟩) ?_

  obtain ⟨x, m, R, L, rfl, hs, hr1, ok, r4, r20, hm, k⟩ := h
  rw [show start ["model", "room"] [x, .int (R : Nat)] = [some x, some (.int (R : Nat))] from rfl]
  have h1 := ok.mst
  walk_at "g"
  refine c_within ?_
  walk_at "g"
  refine i_nd (fun n => absurd (by omega) n) fun _ => ?_
  walk_at "g"
  refine c_mostOf (m := m) (ok.le (by decide)) fun H' hs => ?_
  walk_at "g"
  refine s_mul (mulx64 (by decide) (by omega)) ?_
  walk_at "g"
  refine s_shl (shl_one (by omega)) ?_
  rw [one_shl]
  walk_at "g"
  refine i_n (by omega) ?_
  walk_at "g"
  exact k _ hs
abbrev s_l_room : Stmt := (top 55)
theorem sc_l_room : FnScope ["_law_row", "_law_model_here", "_law_rooms", "_law_room_here"] ["_law_row", "_law_model_here"] (defScope s_l_room) := ⟨rfl, rfl, rfl, by decide +kernel, rfl, by decide +kernel, by decide +kernel⟩
theorem ok_l_room {f : Addr} {fd : FuncData} (F : Fun K "_law_room" "_law_room" s_l_room f fd) (b_len : mg "len" = none) (b_range : mg "range" = none) (q_l_taken : Cal P w K mg base CX0 1 "_law_taken" ["_law_row", "_law_many"] (spTaken K)) (q_l_most : Cal P w K mg base CX0 4 "_law_most" ["_law_model_here"] (spMostOf K 3)) : FnOk P w K mg base CX0 (5) f fd ["_law_row", "_law_model_here"] (spLRoom K) := by
  have nd := sc_l_room.nd
  refine F.ok sc_l_room (fun vs H Q E h => ?_) (fun cdv A outer s H vs Q E hr h => ?_)
  · repeat (first | (obtain ⟨rfl, _⟩ := h; rfl) | (obtain ⟨_, h⟩ := h))
  refine (fun q => ⟨_, (pss_cons (ps_setLc (i := 2) (own := [("_law_room_here", 3)]) rfl nd rfl rfl (sw_true rfl rfl rfl (by decide +kernel)) (pi_range2 rfl b_range (pa_cons pe_int (pa_cons pe_int pa_nil))) (blkOk_by (N := ["_law_row", "_law_model_here", "_law_rooms", "_law_room_here"]) (sc := defScope s_l_room) (by decide +kernel)) (fun _ _ _ _ _ => (pg_name (i := 3) nd rfl (Or.inl rfl))) (fun _ _ _ _ _ => (pts_one (pt_cmpR op_geG (pe_op op_shlG pe_int (pv 3)) (pe_op op_mulG pe_int (pe_cal q_l_most (hr.mono (by decide)) rfl pass0 (pa_cons (pv 1) pa_nil))) (nomark _)))) (fun _ _ _ _ _ => (pv 3))) (pss_one (ps_ret (pe_ix (ix_seqK (K := K) rfl) (pv 2) (pe_ix (ix_seqK (K := K) rfl) (pe_lst (pa_cons pe_int (pa_cons (pe_cal q_l_taken (hr.mono (by decide)) rfl pass0 (pa_cons (pv 0) (pa_cons (pe_callB (call_lenK (K := K) rfl) rfl b_len PySem.boot_len (pa_cons (pv 2) pa_nil)) pa_nil))) pa_nil))) (pe_cal q_l_taken (hr.mono (by decide)) rfl pass0 (pa_cons (pv 0) (pa_cons pe_int pa_nil))) (fun _ _ => rfl)) (fun _ _ => rfl))))), q⟩) ?_

  obtain ⟨p, x, m, L, rfl, hs, hr1, mok, k⟩ := h
  have hm := mok.mst
  rw [show start ["_law_row", "_law_model_here", "_law_rooms", "_law_room_here"] [.ref p, x] = [some (.ref p), some x, none, none] from rfl]
  walk_at "g"
  refine s_rngK2 (by decide) (by decide) (by decide) (by decide) ?_
  refine c_rng2 (show ((21 : Int) - 4).toNat = 17 from rfl) (fun D i H => ∃ rs : List Nat, rs.length ≤ i ∧ (∀ R ∈ rs, 4 ≤ R ∧ R ≤ 20 ∧ 8 * mst m ≤ 2 ^ R) ∧ (i = 17 → rs ≠ []) ∧ HS H (pt D (.lst (iv (rs.map Int.ofNat))) :: rowA K p :: L)) (fun D H' h => ⟨[], Nat.le_refl _, by simp, by simp, h⟩) ?_ ?_
  · rintro D i H hi ⟨rs, hl, hrs, hne, hs⟩
    haveI hr2 := (hr1.there (A := rowA K p)).there (A := pt D (.lst (iv (rs.map Int.ofNat))))
    walk_at "n"
    refine ⟨rfl, ?_⟩
    have e4 : (4 : Int) + (i : Int) = ((4 + i : Nat) : Int) := by omega
    rw [e4]
    walk_at "g"
    refine s_shl (shl_one (by omega)) ?_
    rw [one_shl]
    walk_at "g"
    refine c_mostOf mok fun H' hs => ?_
    refine s_mul (mulx64 (by decide) (by omega)) ?_
    walk_at "g"
    refine i_d (fun hge => ?_) (fun hge => ?_)
    · walk_at "g"
      refine s_acc (small_lt (by rw [iv_len, List.length_map]; omega)) fun H' hs => ?_
      refine ⟨rs ++ [4 + i], by simp; omega, fun R hR => ?_, by simp, by rw [List.map_append, List.map_cons, List.map_nil, iv_app]; exact hs⟩
      rcases List.mem_append.mp hR with q | q
      · exact hrs R q
      · rw [List.mem_singleton.mp q]; exact ⟨by omega, by omega, hge⟩
    · refine ⟨rs, by omega, hrs, fun h17 => ?_, hs⟩
      have : i = 16 := by omega
      subst this
      have : (2 : Int) ^ (4 + 16) = 1048576 := by decide
      omega
  · rintro D H ⟨rs, hl, hrs, hne, hs⟩
    have hne := hne rfl
    have hpos : 0 < rs.length := by cases rs with | nil => exact absurd rfl hne | cons a r => simp
    have fin : ∀ (j : Nat) (H' : Hp), j < rs.length → HS H' (rowA K p :: L) → ∃ R : Nat, atI (iv (rs.map Int.ofNat)) (j : Int) = some (.int (R : Int)) ∧ E0 = E0 ∧ 4 ≤ R ∧ R ≤ 20 ∧ 8 * mst m ≤ 2 ^ R := fun j H' hj _ => by
      have hg := List.getElem?_eq_getElem hj
      exact ⟨rs[j], at_iv (by rw [List.getElem?_map, hg]; rfl), rfl, hrs _ (List.getElem_mem hj)⟩
    walk_at "g"
    refine s_lenL ?_
    walk_at "g"
    rw [show (((iv (rs.map Int.ofNat)).length : Nat) : Int) = (rs.length : Int) from by rw [iv_len, List.length_map]]
    refine c_taken (by omega) (by omega) fun y H' y0 y1 hs => ?_
    walk_at "g"
    refine s_lstN (by walk_at "z") fun q H' hs => ?_
    walk_at "g"
    refine c_taken (by decide) (by decide) fun b H' b0 b1 hs => ?_
    obtain ⟨z, hz, hz2⟩ := pick2 (a := 0) (b := y) b0 b1
    refine s_ixL hz ?_
    obtain ⟨j, rfl⟩ := Int.eq_ofNat_of_zero_le (show 0 ≤ z by rcases hz2 with rfl | rfl <;> omega)
    obtain ⟨R, hR, _, r4, r20, h8⟩ := fin j H' (by rcases hz2 with h | h <;> omega) hs.re
    refine s_ixL hR ?_
    exact k R _ r4 r20 h8 hs.re


abbrev s_digits_of : Stmt := (top 44)
theorem sc_digits_of : FnScope ["number", "many", "place"] ["number", "many"] (defScope s_digits_of) := ⟨rfl, rfl, rfl, by decide +kernel, rfl, by decide +kernel, by decide +kernel⟩
theorem ok_digits_of {f : Addr} {fd : FuncData} (F : Fun K "digits_of" "digits_of" s_digits_of f fd) (b_range : mg "range" = none) (b_str : mg "str" = none) : FnOk P w K mg base CX0 (1) f fd ["number", "many"] (spDigitsOf) := by
  have nd := sc_digits_of.nd
  refine F.ok sc_digits_of (fun vs H Q E h => ?_) (fun cdv A outer s H vs Q E hr h => ?_)
  · repeat (first | (obtain ⟨rfl, _⟩ := h; rfl) | (obtain ⟨_, h⟩ := h))
  refine (fun q => ⟨_, (pss_one (ps_ret (pe_joinK (K := K) rfl pe_str (pe_lc (own := [("place", 2)]) rfl nd (pi_range3 rfl b_range (pa_cons (pe_op op_subG (pv 1) pe_int) (pa_cons (pe_op op_subG pe_int pe_int) (pa_cons (pe_op op_subG pe_int pe_int) pa_nil)))) (blkOk_by (N := ["number", "many", "place"]) (sc := defScope s_digits_of) (by decide +kernel)) (fun _ _ _ _ _ => (pg_name (i := 2) nd rfl (Or.inl rfl))) (fun _ _ _ _ _ => pts_nil) (fun _ _ _ _ _ => (pe_callTy call_strI rfl b_str (by decide +kernel) (pa_cons (pe_op op_andG (pe_op op_shrG (pv 0) (pv 2)) pe_int) pa_nil))))))), q⟩) ?_

  obtain ⟨n, kk, L, rfl, n0, hk, hs, k⟩ := h
  rw [show start ["number", "many", "place"] [.int n, .int (kk : Nat)] = [some (.int n), some (.int (kk : Nat)), none] from rfl]
  walk_at "g"
  refine s_rngK3 (by omega) (by omega) (by decide) (by decide) ?_
  rw [show ((kk : Int) - 1 - (0 - 1)).toNat = kk by omega]
  refine c_rng3 (fun D i H => HS H (pt D (.lst (((bitsN n kk).take i).map ch)) :: L)) (fun D H' h => h) ?_ ?_
  · intro D i H hi hs
    rw [show (kk : Int) - 1 + ((i : Nat) : Int) * -1 = ((kk - 1 - i : Nat) : Int) by omega]
    have hbi : (bitsN n kk)[i]? = some (n / 2 ^ (kk - 1 - i) % 2).toNat := by unfold bitsN; rw [List.getElem?_map, List.getElem?_range hi]; rfl
    walk_at "n"
    refine ⟨rfl, ?_⟩
    walk_at "g"
    refine s_shr (by omega) ?_
    rw [Int.toNat_natCast]
    walk_at "g"
    rw [PyProof.Rows.bitAnd_m1]
    refine s_strB (by omega) (by omega) ?_
    refine s_acc (small_lt (by rw [List.length_map, List.length_take, bitsN_len]; omega)) fun H' hs => ?_
    rw [take_snoc hbi, List.map_append]
    exact hs
  · intro D H hs
    rw [List.take_of_length_le (by rw [bitsN_len]; exact Nat.le_refl _)] at hs
    walk_at "g"
    refine s_joinB (bitsN n kk) (by rw [bitsN_len]; omega) ?_
    exact k _ hs.re
abbrev s_fewest : Stmt := (top 45)
theorem sc_fewest : FnScope ["low", "high", "whole", "many", "number"] ["low", "high", "whole"] (defScope s_fewest) := ⟨rfl, rfl, rfl, by decide +kernel, rfl, by decide +kernel, by decide +kernel⟩
theorem ok_fewest {f : Addr} {fd : FuncData} (F : Fun K "fewest" "fewest" s_fewest f fd)  : FnOk P w K mg base CX0 (1) f fd ["low", "high", "whole"] (spFewest) := by
  have nd := sc_fewest.nd
  refine F.ok sc_fewest (fun vs H Q E h => ?_) (fun cdv A outer s H vs Q E hr h => ?_)
  · repeat (first | (obtain ⟨rfl, _⟩ := h; rfl) | (obtain ⟨_, h⟩ := h))
  refine (fun q => ⟨_, (pss_cons (ps_set (i := 3) nd rfl (Or.inl rfl) pe_int) (pss_cons (ps_set (i := 4) nd rfl (Or.inl rfl) (pe_op op_subG pe_int (pe_op op_divG (pe_op op_subG pe_int (pv 0)) (pv 2)))) (pss_cons (ps_while PassesOwn.never (pt_cmpR op_gtG (pe_op op_mulG (pe_op (op_addK (K := K) rfl) (pv 4) pe_int) (pv 2)) (pe_op op_shlG (pv 1) (pv 3)) (nomark _)) (pss_cons (ps_set (i := 3) nd rfl (Or.inl rfl) (pe_op (op_addK (K := K) rfl) (pv 3) pe_int)) (pss_one (ps_set (i := 4) nd rfl (Or.inl rfl) (pe_op op_subG pe_int (pe_op op_divG (pe_op op_subG pe_int (pe_op op_shlG (pv 0) (pv 3))) (pv 2))))))) (pss_one (ps_ret (pe_tup (pa_cons (pv 4) (pa_cons (pv 3) pa_nil)))))))), q⟩) ?_

  obtain ⟨lo, hi, wh, L, rfl, ok, hs, k⟩ := h
  have lo0 := ok.lo0
  have lt := ok.lt
  have hi1 := ok.hi1
  have wh1 := ok.wh1
  have wh2 := ok.wh2
  rw [show start ["low", "high", "whole", "many", "number"] [.int lo, .int hi, .int wh] = [some (.int lo), some (.int hi), some (.int wh), none, none] from rfl]
  have dv : ∀ z : Int, CDivW z wh := fun z => wide_div (b := 1501) (by omega) (by
    have e1 : (2 : Int) ^ 1501 = 2 * 2 ^ 1500 := pow_half (by decide)
    have e2 := ipow_pos 1500
    exact natAbs_lt (by omega) (by omega)) (by decide) (by decide)
  have e0 : 0 - (0 - lo) / wh = fewN lo wh 0 := by unfold fewN; rw [Int.pow_zero, Int.mul_one]
  have hfew := ok.few
  have hF : fewK lo hi wh = fewF lo hi wh 1502 0 := rfl
  walk_at "g"
  refine s_div (dv _) ?_
  walk_at "g"
  rw [e0]
  refine f_while (fun f σ H => ∃ j : Nat, σ = [some (.int lo), some (.int hi), some (.int wh), some (.int (j : Nat)), some (.int (fewN lo wh j))] ∧ fewF lo hi wh f j = fewK lo hi wh ∧ j + f = 1502 ∧ HS H L) 1502 ⟨0, rfl, rfl, by decide, hs⟩ ?_
  rintro f σ H ⟨j, rfl, hf, hj, hs⟩
  have hn0 := ok.n0 j
  have hn1 := ok.n1 j
  have hn2 : (2 : Int) ^ (1500 + j) ≤ 2 ^ 3002 := ipow_le (by omega)
  have e3 : (2 : Int) ^ 3003 = 2 * 2 ^ 3002 := pow_half (by decide)
  have e4 := ipow_pos 3002
  walk_at "g"
  refine s_mul (mulxC (a := 3003) (b := 1500) ⟨by omega, by omega⟩ ⟨by omega, wh2⟩ (by decide) (by decide)) ?_
  walk_at "g"
  have e5 : (2 : Int) ^ 1501 = 2 * 2 ^ 1500 := pow_half (by decide)
  have e6 := ipow_pos 1500
  refine s_shl (shl_ok (n := 1501) (natAbs_lt (by omega) (by omega)) (by omega)) ?_
  rw [Int.toNat_natCast]
  walk_at "g"
  refine i_d (fun hgt => ?_) (fun hle => ?_)
  · have hno : ¬ fewOk lo hi wh j := by unfold fewOk; omega
    obtain ⟨f, rfl⟩ : ∃ f', f = f' + 1 := by
      cases f with
      | zero =>
        have : fewK lo hi wh = j := hf.symm
        have := hfew.2.1
        omega
      | succ f => exact ⟨f, rfl⟩
    simp only [fewF, if_neg hno] at hf
    refine s_wh ?_
    walk_at "g"
    rw [show ((j : Nat) : Int) + 1 = ((j + 1 : Nat) : Int) by push_cast; rfl]
    refine s_shl (shl_ok (n := 1501) (natAbs_lt (by omega) (by omega)) (by omega)) ?_
    rw [Int.toNat_natCast]
    walk_at "g"
    refine s_div (dv _) ?_
    walk_at "g"
    exact ⟨f, Nat.lt_succ_self _, j + 1, rfl, hf, by omega, hs⟩
  · have hyes : fewOk lo hi wh j := by unfold fewOk; omega
    have ej : fewK lo hi wh = j := by
      rw [← hf]
      cases f with
      | zero => rfl
      | succ f => simp only [fewF, if_pos hyes]
    walk_at "g"
    refine s_tupN (by walk_at "z") fun t H' hs => ?_
    rw [ej] at k
    exact k t _ hs
abbrev s_Writer_carried : Stmt := (inClass (top 51) 3)
theorem sc_Writer_carried : FnScope ["self"] ["self"] (defScope s_Writer_carried) := ⟨rfl, rfl, rfl, by decide +kernel, rfl, by decide +kernel, by decide +kernel⟩
theorem ok_Writer_carried {f : Addr} {fd : FuncData} (F : Fun K "carried" "Writer.carried" s_Writer_carried f fd) (n_Writer_wait : NoAttr K C_Writer "wait") (cl_Writer : Cls K C_Writer) : FnOk P w K mg base CX0 (1) f fd ["self"] (spWCarried K C_Writer) := by
  have nd := sc_Writer_carried.nd
  refine F.ok sc_Writer_carried (fun vs H Q E h => ?_) (fun cdv A outer s H vs Q E hr h => ?_)
  · repeat (first | (obtain ⟨rfl, _⟩ := h; rfl) | (obtain ⟨_, h⟩ := h))
  refine (fun q => ⟨_, (pss_one (ps_ret (pe_op (op_addK (K := K) rfl) pe_str (pe_op op_mulG pe_str (pe_op op_subG (pe_fldK (K := K) rfl (pv 0) rfl) pe_int))))), q⟩) ?_

  obtain ⟨p, q, R, sg, lo, wd, sure, w, mn, L, rfl, h1, hw, hs, k⟩ := h
  rw [show start ["self"] [.ref p] = [some (.ref p)] from rfl]
  walk_at "g"
  rw [show ((w : Nat) : Int) - 1 = ((w - 1 : Nat) : Int) by omega]
  refine s_mulS (z := dgs [0]) (mulOk_dgs (by omega)) ?_
  rw [mul_dgs]
  refine s_addS (z := dgs [1]) (small_line (by rw [dgs_len, dgs_len, List.length_replicate]; simp; omega)) ?_
  rw [dgs_app]
  exact k _ hs
abbrev s_Writer_waiting : Stmt := (inClass (top 51) 4)
theorem sc_Writer_waiting : FnScope ["self"] ["self"] (defScope s_Writer_waiting) := ⟨rfl, rfl, rfl, by decide +kernel, rfl, by decide +kernel, by decide +kernel⟩
theorem ok_Writer_waiting {f : Addr} {fd : FuncData} (F : Fun K "waiting" "Writer.waiting" s_Writer_waiting f fd) (n_Writer_wait : NoAttr K C_Writer "wait") (cl_Writer : Cls K C_Writer) : FnOk P w K mg base CX0 (1) f fd ["self"] (spWWaiting K C_Writer) := by
  have nd := sc_Writer_waiting.nd
  refine F.ok sc_Writer_waiting (fun vs H Q E h => ?_) (fun cdv A outer s H vs Q E hr h => ?_)
  · repeat (first | (obtain ⟨rfl, _⟩ := h; rfl) | (obtain ⟨_, h⟩ := h))
  refine (fun q => ⟨_, (pss_one (ps_ret (pe_ifExp (pt_cmpR op_gtG (pe_fldK (K := K) rfl (pv 0) rfl) pe_int (nomark _)) (pe_op (op_addK (K := K) rfl) pe_str (pe_op op_mulG pe_str (pe_op op_subG (pe_fldK (K := K) rfl (pv 0) rfl) pe_int))) pe_str))), q⟩) ?_

  obtain ⟨p, q, R, sg, lo, wd, sure, w, mn, L, rfl, hw, hs, k⟩ := h
  rw [show start ["self"] [.ref p] = [some (.ref p)] from rfl]
  walk_at "g"
  refine i_d (fun h1 => ?_) (fun h1 => ?_)
  · walk_at "g"
    rw [show ((w : Nat) : Int) - 1 = ((w - 1 : Nat) : Int) by omega]
    refine s_mulS (z := dgs [1]) (mulOk_dgs (by omega)) ?_
    rw [mul_dgs]
    refine s_addS (z := dgs [0]) (small_line (by rw [dgs_len, dgs_len, List.length_replicate]; simp; omega)) ?_
    rw [dgs_app, show [0] ++ List.replicate (w - 1) 1 = wtn w by unfold wtn; rw [if_pos (show 0 < w by omega)]; rfl]
    exact k _ hs
  · walk_at "g"
    have e : wtn w = [] := by unfold wtn; rw [if_neg (by omega)]
    rw [e] at k
    exact k _ hs
abbrev s_Writer_carry : Stmt := (inClass (top 51) 2)
theorem sc_Writer_carry : FnScope ["self"] ["self"] (defScope s_Writer_carry) := ⟨rfl, rfl, rfl, by decide +kernel, rfl, by decide +kernel, by decide +kernel⟩
theorem ok_Writer_carry {f : Addr} {fd : FuncData} (F : Fun K "carry" "Writer.carry" s_Writer_carry f fd) (cl_Writer : Cls K C_Writer) (n_Writer_low : NoAttr K C_Writer "low") (n_Writer_sure : NoAttr K C_Writer "sure") (n_Writer_wait : NoAttr K C_Writer "wait") (n_Writer_full : NoAttr K C_Writer "full") (q_Writer_carried : CalM P w K mg base CX0 1 C_Writer "carried" ["self"] (spWCarried K C_Writer)) : FnOk P w K mg base CX0 (2) f fd ["self"] (spWCarry K C_Writer) := by
  have nd := sc_Writer_carry.nd
  refine F.ok sc_Writer_carry (fun vs H Q E h => ?_) (fun cdv A outer s H vs Q E hr h => ?_)
  · repeat (first | (obtain ⟨rfl, _⟩ := h; rfl) | (obtain ⟨_, h⟩ := h))
  refine (fun q => ⟨_, (pss_cons (ps_fldK (K := K) rfl (pv 0) (pe_op op_subG (pe_fldK (K := K) rfl (pv 0) rfl) (pe_fldK (K := K) rfl (pv 0) rfl)) rfl) (pss_cons (ps_fldK (K := K) rfl (pv 0) (pe_op (op_addK (K := K) rfl) (pe_fldK (K := K) rfl (pv 0) rfl) (pe_calM0 (pv 0) cl_Writer q_Writer_carried (hr.mono (by decide)) pass0)) rfl) (pss_one (ps_fldK (K := K) rfl (pv 0) pe_int rfl)))), q⟩) ?_

  obtain ⟨p, q, R, sg, lo, wd, sure, w, mn, L, rfl, h1, hw, hl, hs, k⟩ := h
  rw [show start ["self"] [.ref p] = [some (.ref p)] from rfl]
  walk_at "g"
  walk_at "p"
  case k =>
  intro H' hs
  walk_at "g"
  refine ⟨p, q, R, sg, _, wd, sure, w, mn, L, rfl, h1, hw, hs, fun H' hs => ?_⟩
  refine s_addS (small_line (by rw [dgs_len, dgs_len, crd_len h1]; omega)) ?_
  rw [dgs_app]
  walk_at "g"
  walk_at "p"
  case k =>
  intro H' hs
  walk_at "g"
  walk_at "p"
  case k =>
  intro H' hs
  exact k _ hs

abbrev s_Writer_shift : Stmt := (inClass (top 51) 5)
theorem sc_Writer_shift : FnScope ["self", "digit"] ["self"] (defScope s_Writer_shift) := ⟨rfl, rfl, rfl, by decide +kernel, rfl, by decide +kernel, by decide +kernel⟩
theorem ok_Writer_shift {f : Addr} {fd : FuncData} (F : Fun K "shift" "Writer.shift" s_Writer_shift f fd) (cl_Writer : Cls K C_Writer) (n_Writer_low : NoAttr K C_Writer "low") (n_Writer_width : NoAttr K C_Writer "width") (n_Writer_full : NoAttr K C_Writer "full") (n_Writer_sure : NoAttr K C_Writer "sure") (n_Writer_wait : NoAttr K C_Writer "wait") (q_Writer_waiting : CalM P w K mg base CX0 1 C_Writer "waiting" ["self"] (spWWaiting K C_Writer)) : FnOk P w K mg base CX0 (2) f fd ["self"] (spWShift K C_Writer) := by
  have nd := sc_Writer_shift.nd
  refine F.ok sc_Writer_shift (fun vs H Q E h => ?_) (fun cdv A outer s H vs Q E hr h => ?_)
  · repeat (first | (obtain ⟨rfl, _⟩ := h; rfl) | (obtain ⟨_, h⟩ := h))
  refine (fun q => ⟨_, (pss_cons (ps_set (i := 1) nd rfl (Or.inl rfl) (pe_op op_divG (pe_op op_mulG pe_int (pe_fldK (K := K) rfl (pv 0) rfl)) (pe_fldK (K := K) rfl (pv 0) rfl))) (pss_cons (ps_fldK (K := K) rfl (pv 0) (pe_op op_modG (pe_op op_mulG pe_int (pe_fldK (K := K) rfl (pv 0) rfl)) (pe_fldK (K := K) rfl (pv 0) rfl)) rfl) (pss_cons (ps_fldK (K := K) rfl (pv 0) (pe_op op_mulG pe_int (pe_fldK (K := K) rfl (pv 0) rfl)) rfl) (pss_one (ps_if (pt_cmpR (op_eqK (K := K) rfl hr.units) (pv 1) pe_int (nomark _)) (pss_cons (ps_fldK (K := K) rfl (pv 0) (pe_op (op_addK (K := K) rfl) (pe_fldK (K := K) rfl (pv 0) rfl) (pe_calM0 (pv 0) cl_Writer q_Writer_waiting (hr.mono (by decide)) pass0)) rfl) (pss_one (ps_fldK (K := K) rfl (pv 0) pe_int rfl))) (pss_one (ps_if (pt_cmpR op_gtG (pe_fldK (K := K) rfl (pv 0) rfl) pe_int (nomark _)) (pss_one (ps_fldK (K := K) rfl (pv 0) (pe_op (op_addK (K := K) rfl) (pe_fldK (K := K) rfl (pv 0) rfl) pe_int) rfl)) (pss_one (ps_fldK (K := K) rfl (pv 0) (pe_op (op_addK (K := K) rfl) (pe_fldK (K := K) rfl (pv 0) rfl) pe_str) rfl))))))))), q⟩) ?_

  obtain ⟨p, q, R, sg, lo, wd, sure, w, mn, L, rfl, l0, l1, r20, d0, d1, hw, hl, hs, k1, k2, k3⟩ := h
  rw [show start ["self", "digit"] [.ref p] = [some (.ref p), none] from rfl]
  have hR := ipow_pos R
  have hR2 : (2 : Int) ^ R ≤ 2 ^ 20 := ipow_le r20
  have dv : ∀ z : Int, CDivW z (2 ^ R) := fun z => wide_div (b := 21) (by omega) (natAbs_lt (by omega) (by have : (2 : Int) ^ 21 = 2 * 2 ^ 20 := pow_half (by decide); omega)) (by decide) (by decide)
  walk_at "g"
  refine s_mul (mulxC (a := 20) (b := 20) (by decide) ⟨l0, by omega⟩ (by decide) (by decide)) ?_
  walk_at "g"
  refine s_div (dv _) ?_
  walk_at "g"
  refine s_mul (mulxC (a := 20) (b := 20) (by decide) ⟨l0, by omega⟩ (by decide) (by decide)) ?_
  walk_at "g"
  refine s_mod (by omega) ?_
  walk_at "g"
  walk_at "p"
  case k =>
  intro H' hs
  walk_at "g"
  refine s_mul (mulxC (a := 20) (b := 20) (by decide) ⟨d0, d1⟩ (by decide) (by decide)) ?_
  walk_at "g"
  walk_at "p"
  case k =>
  intro H' hs
  by_cases hd : 2 * lo < 2 ^ R
  · have e1 : 2 * lo / 2 ^ R = 0 := Int.ediv_eq_zero_of_lt (by omega) hd
    have e2 : 2 * lo % 2 ^ R = 2 * lo := Int.emod_eq_of_lt (by omega) hd
    rw [e2] at hs
    rw [e1]
    walk_at "g"
    walk_at "e"
    refine ⟨p, q, R, sg, _, _, sure, w, mn, L, rfl, by omega, hs, fun H' hs => ?_⟩
    refine s_addS (small_line (by rw [dgs_len, dgs_len, wtn_len]; omega)) ?_
    rw [dgs_app]
    walk_at "g"
    walk_at "p"
    case k =>
    intro H' hs
    walk_at "g"
    walk_at "p"
    case k =>
    intro H' hs
    exact k1 hd _ hs
  · have e1 : 2 * lo / 2 ^ R = 1 := by
      have h1 : 2 * lo = (2 * lo - 2 ^ R) + 1 * 2 ^ R := by omega
      rw [h1, Int.add_mul_ediv_right _ _ (by omega), Int.ediv_eq_zero_of_lt (by omega) (by omega)]; rfl
    have e2 : 2 * lo % 2 ^ R = 2 * lo - 2 ^ R := by
      have h1 : 2 * lo = (2 * lo - 2 ^ R) + 2 ^ R * 1 := by omega
      rw [h1, Int.add_mul_emod_self_left, Int.emod_eq_of_lt (by omega) (by omega)]; omega
    rw [e2] at hs
    rw [e1]
    walk_at "g"
    walk_at "e"
    refine i_d (fun hw1 => ?_) (fun hw1 => ?_)
    · walk_at "g"
      walk_at "p"
      case k =>
      intro H' hs
      rw [show ((w : Nat) : Int) + 1 = ((w + 1 : Nat) : Int) by push_cast; rfl] at hs
      exact k2 (by omega) (by omega) _ hs
    · walk_at "g"
      refine s_addS (w := dgs [1]) (small_line (by rw [dgs_len, dgs_len]; simp; omega)) ?_
      rw [dgs_app]
      walk_at "g"
      walk_at "p"
      case k =>
      intro H' hs
      have e0 : w = 0 := by omega
      rw [e0] at hs
      exact k3 (by omega) e0 _ hs
abbrev s_Writer_init : Stmt := (inClass (top 51) 0)
theorem sc_Writer_init : FnScope ["self", "model", "room"] ["self", "model", "room"] (defScope s_Writer_init) := ⟨rfl, rfl, rfl, by decide +kernel, rfl, by decide +kernel, by decide +kernel⟩
theorem ok_Writer_init {f : Addr} {fd : FuncData} (F : Fun K "__init__" "Writer.__init__" s_Writer_init f fd) (n_Writer_signs : NoAttr K C_Writer "signs") (cl_Writer : Cls K C_Writer) (n_Writer_mind : NoAttr K C_Writer "mind") (n_Writer_room : NoAttr K C_Writer "room") (n_Writer_full : NoAttr K C_Writer "full") (n_Writer_low : NoAttr K C_Writer "low") (n_Writer_width : NoAttr K C_Writer "width") (n_Writer_sure : NoAttr K C_Writer "sure") (n_Writer_wait : NoAttr K C_Writer "wait") (n_Writer_many : NoAttr K C_Writer "many") (q_begun : Cal P w K mg base CX0 11 "begun" ["model"] (spBegun K C_Shares C_Plain C_Learner C_Ahead C_Blend 3)) (q_signs_of : Cal P w K mg base CX0 5 "signs_of" ["model"] (spSignsOf K 4)) (q_need_room : Cal P w K mg base CX0 6 "need_room" ["model", "room"] (spNeedRoom K)) (q_need_model : Cal P w K mg base CX0 10 "need_model" ["model"] (spNeedModel K)) : FnOk P w K mg base CX0 (12) f fd ["self", "model", "room"] (spWInit K C_Shares C_Plain C_Learner C_Ahead C_Blend C_Writer) := by
  have nd := sc_Writer_init.nd
  refine F.ok sc_Writer_init (fun vs H Q E h => ?_) (fun cdv A outer s H vs Q E hr h => ?_)
  · repeat (first | (obtain ⟨rfl, _⟩ := h; rfl) | (obtain ⟨_, h⟩ := h))
  refine (fun q => ⟨_, (pss_cons (ps_expr (pe_cal q_need_model (hr.mono (by decide)) rfl pass0 (pa_cons (pv 1) pa_nil))) (pss_cons (ps_expr (pe_cal q_need_room (hr.mono (by decide)) rfl pass0 (pa_cons (pv 1) (pa_cons (pv 2) pa_nil)))) (pss_cons (ps_fldK (K := K) rfl (pv 0) (pe_cal q_signs_of (hr.mono (by decide)) rfl pass0 (pa_cons (pv 1) pa_nil)) rfl) (pss_cons (ps_fldK (K := K) rfl (pv 0) (pe_cal q_begun (hr.mono (by decide)) rfl pass0 (pa_cons (pv 1) pa_nil)) rfl) (pss_cons (ps_fldK (K := K) rfl (pv 0) (pv 2) rfl) (pss_cons (ps_fldK (K := K) rfl (pv 0) (pe_op op_shlG pe_int (pv 2)) rfl) (pss_cons (ps_fldK (K := K) rfl (pv 0) pe_int rfl) (pss_cons (ps_fldK (K := K) rfl (pv 0) (pe_fldK (K := K) rfl (pv 0) rfl) rfl) (pss_cons (ps_fldK (K := K) rfl (pv 0) pe_str rfl) (pss_cons (ps_fldK (K := K) rfl (pv 0) pe_int rfl) (pss_one (ps_fldK (K := K) rfl (pv 0) pe_int rfl)))))))))))), q⟩) ?_

  obtain ⟨p, x, m, R, L, rfl, hs, hr1, ok, r4, r20, hm, k⟩ := h
  rw [show start ["self", "model", "room"] [.ref p, x, .int (R : Nat)] = [some (.ref p), some x, some (.int (R : Nat))] from rfl]
  haveI hr2 := hr1.there (A := ob p C_Writer [])
  walk_at "g"
  refine c_needModel (m := m) ok fun H' hs => ?_
  walk_at "g"
  refine c_needRoom R rfl ok r4 r20 hm fun H' hs => ?_
  walk_at "g"
  refine c_signsOf (m := m) (ok.le (by decide)) fun H' hs => ?_
  walk_at "g"
  walk_at "p"
  case k =>
  intro H' hs
  walk_at "g"
  refine c_begun (md := m) ok fun q H' hs => ?_
  walk_at "g"
  walk_at "p"
  case k =>
  intro H' hs
  walk_at "g"
  walk_at "p"
  case k =>
  intro H' hs
  walk_at "g"
  refine s_shl (shl_one (by omega)) ?_
  rw [one_shl]
  walk_at "g"
  walk_at "p"
  case k =>
  intro H' hs
  walk_at "g"
  walk_at "p"
  case k =>
  intro H' hs
  walk_at "g"
  walk_at "p"
  case k =>
  intro H' hs
  walk_at "g"
  walk_at "p"
  case k =>
  intro H' hs
  walk_at "g"
  walk_at "p"
  case k =>
  intro H' hs
  walk_at "g"
  walk_at "p"
  case k =>
  intro H' hs
  have hs := (hs.re : HS H' (ob p C_Writer [("signs", .int (nsg m)), ("mind", .ref q), ("room", .int (R : Nat)), ("full", .int (2 ^ R)), ("low", .int 0), ("width", .int (2 ^ R)), ("sure", .str (Str.ofString "")), ("wait", .int 0), ("many", .int 0)] :: msa K C_Shares C_Plain C_Learner C_Ahead C_Blend (mind m) q :: L))
  have e : wlow R (rnd0 R m).lo [] 0 = 0 := by show (0 : Int) - 0 * 2 ^ R = 0; omega
  have hs : HS H' (wrO C_Writer p q R (nsg m) (wlow R (rnd0 R m).lo [] 0) (rnd0 R m).wd [] 0 0 :: msa K C_Shares C_Plain C_Learner C_Ahead C_Blend (rnd0 R m).m q :: L) := by rw [e]; exact hs
  exact k _ (HS.wr_out (y := rnd0 R m) (k := 0) (sure := []) (w := 0) (q := q) (wv_init R) hs)
abbrev s_Writer_put : Stmt := (inClass (top 51) 1)
theorem sc_Writer_put : FnScope ["self", "sign", "shares", "part"] ["self", "sign"] (defScope s_Writer_put) := ⟨rfl, rfl, rfl, by decide +kernel, rfl, by decide +kernel, by decide +kernel⟩
theorem ok_Writer_put {f : Addr} {fd : FuncData} (F : Fun K "put" "Writer.put" s_Writer_put f fd) (cl_Blend : Cls K C_Blend) (cl_Ahead : Cls K C_Ahead) (cl_Learner : Cls K C_Learner) (cl_Plain : Cls K C_Plain) (cl_Writer : Cls K C_Writer) (cl_Shares : Cls K C_Shares) (k_MOST_ROW : mg "MOST_ROW" = some (.int (60) t_MOST_ROW)) (xc_BadCount : ExcD K mg "BadCount" C_BadCount) (xc_BadSign : ExcD K mg "BadSign" C_BadSign) (n_Writer_many : NoAttr K C_Writer "many") (n_Writer_low : NoAttr K C_Writer "low") (n_Writer_width : NoAttr K C_Writer "width") (n_Writer_full : NoAttr K C_Writer "full") (n_Writer_mind : NoAttr K C_Writer "mind") (n_Writer_signs : NoAttr K C_Writer "signs") (q_Blend_learn : CalM P w K mg base CX0 12 C_Blend "learn" ["self", "sign"] (spLrn K C_Shares C_Plain C_Learner C_Ahead C_Blend 3 3)) (q_Ahead_learn : CalM P w K mg base CX0 9 C_Ahead "learn" ["self", "sign"] (spLrn K C_Shares C_Plain C_Learner C_Ahead C_Blend 2 1)) (q_Learner_learn : CalM P w K mg base CX0 7 C_Learner "learn" ["self", "sign"] (spLrn K C_Shares C_Plain C_Learner C_Ahead C_Blend 1 1)) (q_Plain_learn : CalM P w K mg base CX0 1 C_Plain "learn" ["self", "sign"] (spLrn K C_Shares C_Plain C_Learner C_Ahead C_Blend 0 1)) (q_Writer_shift : CalM P w K mg base CX0 2 C_Writer "shift" ["self"] (spWShift K C_Writer)) (q_Writer_carry : CalM P w K mg base CX0 2 C_Writer "carry" ["self"] (spWCarry K C_Writer)) (q_Shares_many_of : CalM P w K mg base CX0 4 C_Shares "many_of" ["self", "sign"] (spManyOf C_Shares)) (q_Shares_ahead_of : CalM P w K mg base CX0 3 C_Shares "ahead_of" ["self", "sign"] (spAheadOf C_Shares)) (q_Shares_whole : CalM P w K mg base CX0 4 C_Shares "whole" ["self"] (spWhole C_Shares)) (q_Blend_now : CalM P w K mg base CX0 11 C_Blend "now" ["self"] (spNow K C_Shares C_Plain C_Learner C_Ahead C_Blend 3 3)) (q_Ahead_now : CalM P w K mg base CX0 8 C_Ahead "now" ["self"] (spNow K C_Shares C_Plain C_Learner C_Ahead C_Blend 2 1)) (q_Learner_now : CalM P w K mg base CX0 1 C_Learner "now" ["self"] (spNow K C_Shares C_Plain C_Learner C_Ahead C_Blend 1 1)) (q_Plain_now : CalM P w K mg base CX0 1 C_Plain "now" ["self"] (spNow K C_Shares C_Plain C_Learner C_Ahead C_Blend 0 1)) (q_is_within : Cal P w K mg base CX0 1 "is_within" ["number", "low", "high"] (spWithin)) : FnOk P w K mg base (L2.CX P w) (13) f fd ["self", "sign"] (spWPutX K C_Shares C_Plain C_Learner C_Ahead C_Blend C_Writer C_BadSign C_BadCount) := by
  have nd := sc_Writer_put.nd
  refine F.okX sc_Writer_put (fun vs H Q E h => ?_) (fun cdv A outer s H vs Q E hr h => ?_)
  · repeat (first | (obtain ⟨rfl, _⟩ := h; rfl) | (obtain ⟨_, h⟩ := h))
  refine (fun q => ⟨_, (pss_cons (ps_if (pt_not (pt_val (pe_cal q_is_within (hr.mono (by decide)) rfl pass0 (pa_cons (pv 1) (pa_cons pe_int (pa_cons (pe_op op_subG (pe_fldK (K := K) rfl (pv 0) rfl) pe_int) pa_nil)))))) (pss_one (ps_raise rfl (takes_of rfl rfl rfl rfl) (pmk_own PySem.F.excBase_ValueError xc_BadSign.x xc_BadSign.g xc_BadSign.k (raises_own xc_BadSign.b xc_BadSign.t) (by exact rfl)))) pss_nil) (pss_cons (ps_if (pt_cmpR (op_eqK (K := K) rfl hr.units) (pe_fldK (K := K) rfl (pv 0) rfl) (pe_glob (v := .int (60)) rfl k_MOST_ROW ⟨_, rfl⟩) (nomark _)) (pss_one (ps_raise rfl (takes_of rfl rfl rfl rfl) (pmk_own PySem.F.excBase_ValueError xc_BadCount.x xc_BadCount.g xc_BadCount.k (raises_own xc_BadCount.b xc_BadCount.t) (by exact rfl)))) pss_nil) (pss_cons (ps_fldK (K := K) rfl (pv 0) (pe_op (op_addK (K := K) rfl) (pe_fldK (K := K) rfl (pv 0) rfl) pe_int) rfl) (pss_cons (ps_set (i := 2) nd rfl (Or.inl rfl) (pe_or2 (pe_calM0 (pe_fldK (K := K) rfl (pv 0) rfl) cl_Plain q_Plain_now (hr.mono (by decide)) pass0) (pe_or2 (pe_calM0 (pe_fldK (K := K) rfl (pv 0) rfl) cl_Learner q_Learner_now (hr.mono (by decide)) pass0) (pe_or2 (pe_calM0 (pe_fldK (K := K) rfl (pv 0) rfl) cl_Ahead q_Ahead_now (hr.mono (by decide)) pass0) (pe_calM0 (pe_fldK (K := K) rfl (pv 0) rfl) cl_Blend q_Blend_now (hr.mono (by decide)) pass0))))) (pss_cons (ps_set (i := 3) nd rfl (Or.inl rfl) (pe_op op_divG (pe_fldK (K := K) rfl (pv 0) rfl) (pe_calM0 (pv 2) cl_Shares q_Shares_whole (hr.mono (by decide)) pass0))) (pss_cons (ps_fldK (K := K) rfl (pv 0) (pe_op (op_addK (K := K) rfl) (pe_fldK (K := K) rfl (pv 0) rfl) (pe_op op_mulG (pv 3) (pe_calM (pv 2) cl_Shares q_Shares_ahead_of (hr.mono (by decide)) pass0 (pa_cons (pv 1) pa_nil)))) rfl) (pss_cons (ps_fldK (K := K) rfl (pv 0) (pe_op op_mulG (pv 3) (pe_calM (pv 2) cl_Shares q_Shares_many_of (hr.mono (by decide)) pass0 (pa_cons (pv 1) pa_nil))) rfl) (pss_cons (ps_if (pt_cmpR op_geG (pe_fldK (K := K) rfl (pv 0) rfl) (pe_fldK (K := K) rfl (pv 0) rfl) (nomark _)) (pss_one (ps_expr (pe_calM0 (pv 0) cl_Writer q_Writer_carry (hr.mono (by decide)) pass0))) pss_nil) (pss_cons (ps_while (passes_of rfl) (pt_cmpR op_ltG (pe_op op_mulG pe_int (pe_fldK (K := K) rfl (pv 0) rfl)) (pe_fldK (K := K) rfl (pv 0) rfl) (nomark _)) (pss_one (ps_expr (pe_calM0 (pv 0) cl_Writer q_Writer_shift (hr.mono (by decide)) pass0)))) (pss_one (ps_expr (pe_or2 (pe_calM (pe_fldK (K := K) rfl (pv 0) rfl) cl_Plain q_Plain_learn (hr.mono (by decide)) pass0 (pa_cons (pv 1) pa_nil)) (pe_or2 (pe_calM (pe_fldK (K := K) rfl (pv 0) rfl) cl_Learner q_Learner_learn (hr.mono (by decide)) pass0 (pa_cons (pv 1) pa_nil)) (pe_or2 (pe_calM (pe_fldK (K := K) rfl (pv 0) rfl) cl_Ahead q_Ahead_learn (hr.mono (by decide)) pass0 (pa_cons (pv 1) pa_nil)) (pe_calM (pe_fldK (K := K) rfl (pv 0) rfl) cl_Blend q_Blend_learn (hr.mono (by decide)) pass0 (pa_cons (pv 1) pa_nil)))))))))))))))), q⟩) ?_

  obtain ⟨p, R, y, kk, sg, mo, i, L, rfl, nk, hk, hs, k1, k2, k3⟩ := h
  rw [show start ["self", "sign", "shares", "part"] [.ref p, .int i] = [some (.ref p), some (.int i), none, none] from rfl]
  obtain ⟨q, sure, w, v, hs⟩ := hs.wr_in
  by_cases hin : 0 ≤ i ∧ i ≤ sg - 1
  case neg =>
    walk_at "g"
    refine c_within ?_
    walk_at "g"
    refine i_nd (fun _ => ?_) (fun n => absurd n hin)
    walk_at "g"
    exact k2 hin _ (HS.wr_out (q := q) v hs)
  by_cases h60 : kk = 60
  · walk_at "g"
    refine c_within ?_
    walk_at "g"
    refine i_nd (fun n => absurd hin n) fun _ => ?_
    walk_at "g"
    refine i_y (by omega) ?_
    walk_at "g"
    exact k3 hin h60 _ (HS.wr_out (q := q) v hs)
  obtain ⟨s, rfl⟩ := Int.eq_ofNat_of_zero_le hin.1
  have hs1 : (s : Int) < sg := by omega
  have hk : kk < 60 := by omega
  have k := k1 s rfl hs1 hk
  clear k1 k2 k3
  obtain ⟨b1, b2⟩ := nk.big (by omega)
  obtain ⟨cl, c1, t0, tc, s1, s4, m4⟩ := nk.cs hs1
  obtain ⟨p4, pm, pw⟩ := nk.part hs1
  obtain ⟨w1, a0, aw⟩ := nk.wide hs1
  have nk2 := nk.rnd hs1
  obtain ⟨d1, d2⟩ := nk2.big (by omega)
  have g := nk.ok.good
  have h8 := g.1.2.1
  have r20 := nk.r20
  have r4 := nk.r4
  have eR := pow_half (show 1 ≤ R by omega)
  have hwd1 := nk.wd1
  obtain ⟨vl0, vl1⟩ := v.low
  have hR2 : (2 : Int) ^ R ≤ 2 ^ 20 := ipow_le r20
  have sg8 := nk.ok.sg
  have mn2 : (rnd R y s).mn ≤ 1400 := by have := nk2.mn; omega
  have mn1 : y.mn ≤ 1400 := by have := nk.mn; omega
  have vlen := v.len
  walk_at "g"
  refine c_within ?_
  walk_at "g"
  refine i_nd (fun n => absurd (by omega) n) fun _ => ?_
  walk_at "g"
  refine i_n (by omega) ?_
  walk_at "g"
  walk_at "p"
  case k =>
  intro H' hs
  rw [show ((kk : Nat) : Int) + 1 = ((kk + 1 : Nat) : Int) by push_cast; rfl] at hs
  walk_at "g"
  refine w_now (q := q) (fun Q' h => by walk_at "g"; exact h) nk.ok fun h W H' hs back => ?_
  walk_at "g"
  refine c_whole h8 fun H' hs => ?_
  refine s_div (div64 (by omega) (by omega)) ?_
  rw [show y.wd / y.m.now.sum = rpart y from rfl]
  walk_at "g"
  refine c_aheadOf s rfl h8 (by omega) fun H' hs => ?_
  refine s_mul (mulxC (a := 20) (b := 20) (show 0 ≤ rpart y ∧ rpart y ≤ 2 ^ 20 by omega) (by omega) (by decide) (by decide)) ?_
  walk_at "g"
  walk_at "p"
  case k =>
  intro H' hs
  walk_at "g"
  refine c_manyOf s rfl h8 cl fun H' hs => ?_
  refine s_mul (mulxC (a := 20) (b := 20) (show 0 ≤ rpart y ∧ rpart y ≤ 2 ^ 20 by omega) (by omega) (by decide) (by decide)) ?_
  walk_at "g"
  walk_at "p"
  case k =>
  intro H' hs
  have hs : HS _ _ := back (hs.re : HS H' (shR C_Shares h y.m.now :: W :: wrO C_Writer p q R sg (wlow R y.lo sure w + rpart y * (y.m.now.take s).sum) (rpart y * y.m.now.getD s 0) sure w (kk + 1) :: L))
  have ewl : wlow R y.lo sure w + rpart y * (y.m.now.take s).sum = wlow R (y.lo + rpart y * (y.m.now.take s).sum) sure w := by unfold wlow; omega
  rw [ewl] at hs
  have hf : (2 : Int) ^ (R - 1) ≤ rpart y * y.m.now.getD s 0 * 2 ^ 20 := by
    have : (2 : Int) ^ (R - 1) ≤ 2 ^ 20 := ipow_le (by omega)
    have : 1 * (2 : Int) ^ 20 ≤ rpart y * y.m.now.getD s 0 * 2 ^ 20 := Int.mul_le_mul_of_nonneg_right w1 (by decide)
    omega
  walk_at "b"
  refine s_ifR (fun σ H => ∃ sure' w', σ = [some (.ref p), some (.int (s : Nat)), some (.ref h), some (.int (rpart y))] ∧ Wv R (y.lo + rpart y * (y.m.now.take s).sum) (rpart y * y.m.now.getD s 0) y.mn sure' w' ∧ HS H (wrO C_Writer p q R sg (wlow R (y.lo + rpart y * (y.m.now.take s).sum) sure' w') (rpart y * y.m.now.getD s 0) sure' w' (kk + 1) :: msa K C_Shares C_Plain C_Learner C_Ahead C_Blend y.m q :: L)) ?_ fun N hN => ?_
  · clear hs v vl0 vl1 vlen ewl
    rintro σ H ⟨sure, w, rfl, v, hs⟩
    walk_at "b"
    refine f_while (fun f σ H => ∃ lo wd, ∃ mn : Nat, ∃ sure w, σ = [some (.ref p), some (.int (s : Nat)), some (.ref h), some (.int (rpart y))] ∧ Wv R lo wd mn sure w ∧ 1 ≤ wd ∧ (2 : Int) ^ (R - 1) ≤ wd * 2 ^ f ∧ lo * 2 ^ shN f (2 ^ (R - 1)) wd = (rnd R y s).lo ∧ wd * 2 ^ shN f (2 ^ (R - 1)) wd = (rnd R y s).wd ∧ mn + shN f (2 ^ (R - 1)) wd = (rnd R y s).mn ∧ HS H (wrO C_Writer p q R sg (wlow R lo sure w) wd sure w (kk + 1) :: msa K C_Shares C_Plain C_Learner C_Ahead C_Blend y.m q :: L)) 20 ⟨_, _, _, _, _, rfl, v, w1, hf, rfl, rfl, rfl, hs⟩ ?_
    clear v hs hf
    rintro f σ H ⟨lo, wd, mn, sure, w, rfl, v, w0, hf, e1, e2, e3, hs⟩
    have bw : wd ≤ (rnd R y s).wd := by rw [← e2]; exact le_mul_pow (by omega) _
    obtain ⟨vl0, vl1⟩ := v.low
    have vlen := v.len
    walk_at "g"
    refine s_mul (mulxC (a := 20) (b := 20) (by decide) ⟨by omega, by omega⟩ (by decide) (by decide)) ?_
    walk_at "g"
    refine i_d (fun hlt => ?_) (fun hge => ?_)
    · have hlt : wd < 2 ^ (R - 1) := by omega
      obtain ⟨f, rfl⟩ : ∃ f', f = f' + 1 := by
        cases f with
        | zero => simp at hf; omega
        | succ f => exact ⟨f, rfl⟩
      simp only [shN, if_pos hlt] at e1 e2 e3
      refine s_wh ?_
      walk_at "g"
      refine ⟨p, q, R, sg, _, wd, sure, w, kk + 1, _, rfl, vl0, vl1, r20, by omega, by omega, by omega, by omega, hs, fun hd H' hs => ?_, fun hd hw H' hs => ?_, fun hd hw H' hs => ?_⟩
      · obtain ⟨v2, ev⟩ := v.shift0 hd
        rw [← ev] at hs
        walk_at "g"
        exact ⟨f, Nat.lt_succ_self _, 2 * lo, 2 * wd, mn + 1, _, _, rfl, v2, by omega, by rw [dbl_pow]; exact hf, by rw [dbl_pow]; exact e1, by rw [dbl_pow]; exact e2, by omega, hs⟩
      · obtain ⟨v2, ev⟩ := v.shift1 hd hw
        rw [← ev] at hs
        walk_at "g"
        exact ⟨f, Nat.lt_succ_self _, 2 * lo, 2 * wd, mn + 1, _, _, rfl, v2, by omega, by rw [dbl_pow]; exact hf, by rw [dbl_pow]; exact e1, by rw [dbl_pow]; exact e2, by omega, hs⟩
      · subst hw
        obtain ⟨v2, ev⟩ := v.shift2 hd
        rw [← ev] at hs
        walk_at "g"
        exact ⟨f, Nat.lt_succ_self _, 2 * lo, 2 * wd, mn + 1, _, _, rfl, v2, by omega, by rw [dbl_pow]; exact hf, by rw [dbl_pow]; exact e1, by rw [dbl_pow]; exact e2, by omega, hs⟩
    · have hge : ¬ wd < 2 ^ (R - 1) := by omega
      have z : shN f (2 ^ (R - 1)) wd = 0 := by
        cases f with
        | zero => rfl
        | succ f => simp only [shN, if_neg hge]
      rw [z] at e1 e2 e3
      simp only [Int.pow_zero, Int.mul_one, Nat.add_zero] at e1 e2 e3
      subst e1 e2 e3
      walk_at "g"
      refine w_learn (q := q) s (fun Q' h => by walk_at "g"; exact h) (fun Q' h => by walk_at "g"; exact h) nk.ok hs1 fun H' hs => ?_
      walk_at "g"
      have hs := (hs.re : HS H' (wrO C_Writer p q R sg (wlow R (rnd R y s).lo sure w) (rnd R y s).wd sure w (kk + 1) :: msa K C_Shares C_Plain C_Learner C_Ahead C_Blend (y.m.lrn s) q :: L))
      exact k _ (HS.wr_out (y := rnd R y s) (q := q) v hs)
  · walk_at "g"
    refine i_d (fun hge => ?_) (fun hlt => ?_)
    · obtain ⟨ww, v2, ev⟩ := v.carry hwd1 w1 (by omega) (by omega) hge
      walk_at "g"
      refine ⟨p, q, R, sg, _, _, sure, w, kk + 1, _, rfl, ww, by omega, by omega, (hs.re : HS _ (wrO C_Writer p q R sg (wlow R (y.lo + rpart y * (y.m.now.take s).sum) sure w) (rpart y * y.m.now.getD s 0) sure w (kk + 1) :: msa K C_Shares C_Plain C_Learner C_Ahead C_Blend y.m q :: L)), fun H' hs => ?_⟩
      rw [← ev] at hs
      walk_at "g"
      exact hN _ _ ⟨_, _, rfl, v2, hs⟩
    · walk_at "g"
      exact hN _ _ ⟨_, _, rfl, v.sub (by omega) (by omega) (by omega), hs.re⟩
abbrev s_Writer_end : Stmt := (inClass (top 51) 7)
theorem sc_Writer_end : FnScope ["self", "number", "many"] ["self"] (defScope s_Writer_end) := ⟨rfl, rfl, rfl, by decide +kernel, rfl, by decide +kernel, by decide +kernel⟩
theorem ok_Writer_end {f : Addr} {fd : FuncData} (F : Fun K "end" "Writer.end" s_Writer_end f fd) (cl_Writer : Cls K C_Writer) (n_Writer_low : NoAttr K C_Writer "low") (n_Writer_full : NoAttr K C_Writer "full") (n_Writer_width : NoAttr K C_Writer "width") (n_Writer_sure : NoAttr K C_Writer "sure") (q_Writer_carried : CalM P w K mg base CX0 1 C_Writer "carried" ["self"] (spWCarried K C_Writer)) (q_digits_of : Cal P w K mg base CX0 1 "digits_of" ["number", "many"] (spDigitsOf)) (q_Writer_waiting : CalM P w K mg base CX0 1 C_Writer "waiting" ["self"] (spWWaiting K C_Writer)) (q_fewest : Cal P w K mg base CX0 1 "fewest" ["low", "high", "whole"] (spFewest)) : FnOk P w K mg base CX0 (2) f fd ["self"] (spWEnd K C_Shares C_Plain C_Learner C_Ahead C_Blend C_Writer) := by
  have nd := sc_Writer_end.nd
  refine F.ok sc_Writer_end (fun vs H Q E h => ?_) (fun cdv A outer s H vs Q E hr h => ?_)
  · repeat (first | (obtain ⟨rfl, _⟩ := h; rfl) | (obtain ⟨_, h⟩ := h))
  refine (fun q => ⟨_, (pss_cons (ps_asg (pe_cal q_fewest (hr.mono (by decide)) rfl pass0 (pa_cons (pe_fldK (K := K) rfl (pv 0) rfl) (pa_cons (pe_op (op_addK (K := K) rfl) (pe_fldK (K := K) rfl (pv 0) rfl) (pe_fldK (K := K) rfl (pv 0) rfl)) (pa_cons (pe_fldK (K := K) rfl (pv 0) rfl) pa_nil)))) (pg_tupK (K := K) (n := 2) rfl rfl (pgs_cons (pg_name (i := 1) nd rfl (Or.inl rfl)) (pgs_cons (pg_name (i := 2) nd rfl (Or.inl rfl)) pgs_nil)))) (pss_cons (ps_if (pt_cmpR op_ltG (pv 1) (pe_op op_shlG pe_int (pv 2)) (nomark _)) (pss_one (ps_ret (pe_op (op_addK (K := K) rfl) (pe_op (op_addK (K := K) rfl) (pe_fldK (K := K) rfl (pv 0) rfl) (pe_calM0 (pv 0) cl_Writer q_Writer_waiting (hr.mono (by decide)) pass0)) (pe_cal q_digits_of (hr.mono (by decide)) rfl pass0 (pa_cons (pv 1) (pa_cons (pv 2) pa_nil)))))) pss_nil) (pss_one (ps_ret (pe_op (op_addK (K := K) rfl) (pe_op (op_addK (K := K) rfl) (pe_fldK (K := K) rfl (pv 0) rfl) (pe_calM0 (pv 0) cl_Writer q_Writer_carried (hr.mono (by decide)) pass0)) (pe_cal q_digits_of (hr.mono (by decide)) rfl pass0 (pa_cons (pe_op op_subG (pv 1) (pe_op op_shlG pe_int (pv 2))) (pa_cons (pv 2) pa_nil)))))))), q⟩) ?_

  obtain ⟨p, R, y, kk, sg, mo, L, rfl, nk, hk, hs, k⟩ := h
  rw [show start ["self", "number", "many"] [.ref p] = [some (.ref p), none, none] from rfl]
  obtain ⟨q, sure, w, v, hs⟩ := hs.wr_in
  have r20 := nk.r20
  have hmn := nk.mn
  have hR := ipow_pos (R - 1)
  have f1 := wv_few v r20 (by have := nk.wd0; omega) nk.wd1
  obtain ⟨z1, z2⟩ := wv_end v r20 (by omega) nk.lo0 (by have := nk.wd0; omega) nk.wd1 nk.le
  have a2 := f1.few.2.1
  have n0 := f1.n0 (fewK (wlow R y.lo sure w) (wlow R y.lo sure w + y.wd) (2 ^ R))
  have vlen := v.len
  walk_at "g"
  refine c_fewest f1 fun t H' hs => ?_
  walk_at "g"
  refine s_gtup rfl ?_
  generalize fewK (wlow R y.lo sure w) (wlow R y.lo sure w + y.wd) (2 ^ R) = k0 at *
  walk_at "g"
  refine s_shl (shl_ok (n := 1) (by decide) (by omega)) ?_
  rw [one_shl]
  walk_at "g"
  have hs := (hs.re : HS H' (wrO C_Writer p q R sg (wlow R y.lo sure w) y.wd sure w kk :: msa K C_Shares C_Plain C_Learner C_Ahead C_Blend y.m q :: L))
  refine i_d (fun hlt => ?_) (fun hge => ?_)
  · walk_at "g"
    refine ⟨p, q, R, sg, _, _, sure, w, kk, _, rfl, by omega, hs, fun H' hs => ?_⟩
    refine s_addS (small_line (by rw [dgs_len, dgs_len, wtn_len]; omega)) ?_
    rw [dgs_app]
    walk_at "g"
    refine c_digitsOf k0 rfl n0 (by omega) fun H' hs => ?_
    refine s_addS (small_line (by rw [dgs_len, dgs_len, bitsN_len, List.length_append, wtn_len]; omega)) ?_
    rw [dgs_app, z1 hlt]
    exact k _ (HS.wr_out (q := q) v hs)
  · obtain ⟨ww, z3⟩ := z2 hge
    walk_at "g"
    refine ⟨p, q, R, sg, _, _, sure, w, kk, _, rfl, ww, by omega, hs, fun H' hs => ?_⟩
    refine s_addS (small_line (by rw [dgs_len, dgs_len, crd_len ww]; omega)) ?_
    rw [dgs_app]
    walk_at "g"
    refine s_shl (shl_ok (n := 1) (by decide) (by omega)) ?_
    rw [one_shl]
    walk_at "g"
    refine c_digitsOf k0 rfl (by omega) (by omega) fun H' hs => ?_
    refine s_addS (small_line (by rw [dgs_len, dgs_len, bitsN_len, List.length_append, crd_len ww]; omega)) ?_
    rw [dgs_app, z3]
    exact k _ (HS.wr_out (q := q) v hs)
abbrev s_written : Stmt := (top 52)
theorem sc_written : FnScope ["model", "room", "row", "writer", "sign"] ["model", "room", "row"] (defScope s_written) := ⟨rfl, rfl, rfl, by decide +kernel, rfl, by decide +kernel, by decide +kernel⟩
theorem ok_written {f : Addr} {fd : FuncData} (F : Fun K "written" "written" s_written f fd) (cl_Writer : Cls K C_Writer) (q_Writer_end : CalM P w K mg base CX0 2 C_Writer "end" ["self"] (spWEnd K C_Shares C_Plain C_Learner C_Ahead C_Blend C_Writer)) (q_Writer_put : CalM P w K mg base (L2.CX P w) 13 C_Writer "put" ["self", "sign"] (spWPutX K C_Shares C_Plain C_Learner C_Ahead C_Blend C_Writer C_BadSign C_BadCount)) (q_Writer_init : CalC P w K mg base CX0 12 C_Writer "Writer" ["self", "model", "room"] (spWInit K C_Shares C_Plain C_Learner C_Ahead C_Blend C_Writer)) (q_need_row : Cal P w K mg base CX0 2 "need_row" ["signs", "row"] (spNeedRow K)) (q_signs_of : Cal P w K mg base CX0 5 "signs_of" ["model"] (spSignsOf K 4)) (q_need_room : Cal P w K mg base CX0 6 "need_room" ["model", "room"] (spNeedRoom K)) (q_need_model : Cal P w K mg base CX0 10 "need_model" ["model"] (spNeedModel K)) : FnOk P w K mg base CX0 (14) f fd ["model", "room", "row"] (spWritten K) := by
  have nd := sc_written.nd
  refine F.ok sc_written (fun vs H Q E h => ?_) (fun cdv A outer s H vs Q E hr h => ?_)
  · repeat (first | (obtain ⟨rfl, _⟩ := h; rfl) | (obtain ⟨_, h⟩ := h))
  refine (fun q => ⟨_, (pss_cons (ps_expr (pe_cal q_need_model (hr.mono (by decide)) rfl pass0 (pa_cons (pv 0) pa_nil))) (pss_cons (ps_expr (pe_cal q_need_room (hr.mono (by decide)) rfl pass0 (pa_cons (pv 0) (pa_cons (pv 1) pa_nil)))) (pss_cons (ps_expr (pe_cal q_need_row (hr.mono (by decide)) rfl pass0 (pa_cons (pe_cal q_signs_of (hr.mono (by decide)) rfl pass0 (pa_cons (pv 0) pa_nil)) (pa_cons (pv 2) pa_nil)))) (pss_cons (ps_set (i := 3) nd rfl (Or.inl rfl) (pe_calC q_Writer_init (hr.mono (by decide)) rfl pass0 (pa_cons (pv 0) (pa_cons (pv 1) pa_nil)))) (pss_cons (ps_for PassesOwn.never rfl (pi_anyK (K := K) rfl (pv 2)) (pg_name (i := 4) nd rfl (Or.inl rfl)) (pss_one (ps_expr (pe_calM (pv 3) cl_Writer q_Writer_put (hr.mono (by decide)) passX0 (pa_cons (pv 4) pa_nil))))) (pss_one (ps_ret (pe_calM0 (pv 3) cl_Writer q_Writer_end (hr.mono (by decide)) pass0)))))))), q⟩) ?_

  obtain ⟨x, r, m, R, ss, L, rfl, hs, hr1, mok, r4, r20, hm, rd, hl, hss, k⟩ := h
  rw [show start ["model", "room", "row", "writer", "sign"] [x, .int (R : Nat), .ref r] = [some x, some (.int (R : Nat)), some (.ref r), none, none] from rfl]
  walk_at "g"
  refine c_needModel (m := m) mok fun H' hs => ?_
  walk_at "g"
  refine c_needRoom R rfl mok r4 r20 hm fun H' hs => ?_
  walk_at "g"
  refine c_signsOf (m := m) (mok.le (by decide)) fun H' hs => ?_
  walk_at "g"
  refine c_needRow ss hl hss fun H' hs => ?_
  walk_at "g"
  refine s_mkK fun o H' hs => ?_
  refine c_wInit rfl mok r4 r20 hm fun H' hs => ⟨rfl, ?_⟩
  walk_at "g"
  refine s_any ?_
  walk_at "g"
  refine s_lsK ?_
  refine f_list (iv (ss.map Int.ofNat)) (fun j σ H => ∃ v, j ≤ ss.length ∧ σ = [some x, some (.int (R : Nat)), some (.ref r), some (.ref o), v] ∧ HS H (wrS K C_Shares C_Plain C_Learner C_Ahead C_Blend C_Writer o R (rnds R (rnd0 R m) (ss.take j)) j (nsg m) :: L)) ⟨_, Nat.zero_le _, rfl, hs⟩ (fun j σ H _ h => by obtain ⟨_, _, _, h⟩ := h; exact rd.sq h.drop) ?_ ?_
  · rintro j z σ H hz ⟨v, hjl, rfl, hs⟩
    obtain ⟨s, hsj, rfl⟩ := take_ofNat hz
    have hj := (List.getElem?_eq_some_iff.mp hsj).1
    have nk := (RndOk.begun mok r4 r20 hm).rnds (ss.take j) fun t ht => hss t (List.mem_of_mem_take ht)
    have ej : 0 + (ss.take j).length = j := by rw [List.length_take]; omega
    rw [ej] at nk
    rw [take_snoc hsj, rnds_snoc]
    walk_at "g"
    refine c_wPutN s rfl nk (by omega) (hss s (List.mem_of_getElem? hsj)) fun H' hs => ?_
    walk_at "g"
    exact ⟨_, hj, rfl, hs⟩
  · rintro σ H ⟨v, hjl, rfl, hs⟩
    have nk := (RndOk.begun mok r4 r20 hm).rnds ss hss
    rw [Nat.zero_add] at nk
    rw [iv_len, List.length_map, List.take_length] at hs
    walk_at "g"
    refine c_wEnd nk (by omega) fun H' hs => ?_
    exact k _ hs.drop

abbrev s_Writer_digits : Stmt := (inClass (top 51) 6)
theorem sc_Writer_digits : FnScope ["self", "last", "one", "other", "alike"] ["self"] (defScope s_Writer_digits) := ⟨rfl, rfl, rfl, by decide +kernel, rfl, by decide +kernel, by decide +kernel⟩
theorem ok_Writer_digits {f : Addr} {fd : FuncData} (F : Fun K "digits" "Writer.digits" s_Writer_digits f fd) (cl_Writer : Cls K C_Writer) (n_Writer_full : NoAttr K C_Writer "full") (n_Writer_sure : NoAttr K C_Writer "sure") (n_Writer_low : NoAttr K C_Writer "low") (n_Writer_width : NoAttr K C_Writer "width") (n_Writer_room : NoAttr K C_Writer "room") (q_Writer_waiting : CalM P w K mg base CX0 1 C_Writer "waiting" ["self"] (spWWaiting K C_Writer)) (q_digits_of : Cal P w K mg base CX0 1 "digits_of" ["number", "many"] (spDigitsOf)) : FnOk P w K mg base CX0 (2) f fd ["self"] (spWDigits K C_Shares C_Plain C_Learner C_Ahead C_Blend C_Writer) := by
  have nd := sc_Writer_digits.nd
  refine F.ok sc_Writer_digits (fun vs H Q E h => ?_) (fun cdv A outer s H vs Q E hr h => ?_)
  · repeat (first | (obtain ⟨rfl, _⟩ := h; rfl) | (obtain ⟨_, h⟩ := h))
  refine (fun q => ⟨_, (pss_cons (ps_set (i := 1) nd rfl (Or.inl rfl) (pe_op op_subG (pe_op (op_addK (K := K) rfl) (pe_fldK (K := K) rfl (pv 0) rfl) (pe_fldK (K := K) rfl (pv 0) rfl)) pe_int)) (pss_cons (ps_if (pt_cmpR op_geG (pv 1) (pe_fldK (K := K) rfl (pv 0) rfl) (nomark _)) (pss_one (ps_ret (pe_fldK (K := K) rfl (pv 0) rfl))) pss_nil) (pss_cons (ps_par (i := 2) (j := 3) rfl nd rfl rfl (by decide) rfl rfl (pa_cons (pe_cal q_digits_of (hr.mono (by decide)) rfl pass0 (pa_cons (pe_fldK (K := K) rfl (pv 0) rfl) (pa_cons (pe_fldK (K := K) rfl (pv 0) rfl) pa_nil))) (pa_cons (pe_cal q_digits_of (hr.mono (by decide)) rfl pass0 (pa_cons (pv 1) (pa_cons (pe_fldK (K := K) rfl (pv 0) rfl) pa_nil))) pa_nil)) rfl) (pss_cons (ps_set (i := 4) nd rfl (Or.inl rfl) pe_int) (pss_cons (ps_while PassesOwn.never (pt_cmpR (op_eqK (K := K) rfl hr.units) (pe_ix (ix_seqK (K := K) rfl) (pv 2) (pv 4) (fun _ _ => rfl)) (pe_ix (ix_seqK (K := K) rfl) (pv 3) (pv 4) (fun _ _ => rfl)) (nomark _)) (pss_one (ps_set (i := 4) nd rfl (Or.inl rfl) (pe_op (op_addK (K := K) rfl) (pv 4) pe_int)))) (pss_one (ps_ret (pe_op (op_addK (K := K) rfl) (pe_op (op_addK (K := K) rfl) (pe_fldK (K := K) rfl (pv 0) rfl) (pe_calM0 (pv 0) cl_Writer q_Writer_waiting (hr.mono (by decide)) pass0)) (pe_slice (sl_anyK (K := K) rfl) (pv 2) po_none (po_some (pv 4))))))))))), q⟩) ?_

  obtain ⟨p, R, y, kk, sg, mo, L, rfl, nk, hk, hs, k⟩ := h
  rw [show start ["self", "last", "one", "other", "alike"] [.ref p] = [some (.ref p), none, none, none, none] from rfl]
  obtain ⟨q, sure, w, v, hs⟩ := hs.wr_in
  have r20 := nk.r20
  have r4 := nk.r4
  have hmn := nk.mn
  have hw0 := nk.wd0
  have h8 : (8 : Int) ≤ 2 ^ (R - 1) := by
    have := ipow_le (show 3 ≤ R - 1 by omega)
    omega
  obtain ⟨z1, z2⟩ := wv_dig v (by omega) nk.wd1
  obtain ⟨l0, l1⟩ := v.low
  have vlen := v.len
  walk_at "g"
  refine i_d (fun hge => ?_) (fun hlt => ?_)
  · walk_at "g"
    rw [z2 hge] at k
    exact k _ (HS.wr_out (q := q) v hs.re)
  have hlt : wlow R y.lo sure w + y.wd - 1 < 2 ^ R := by omega
  walk_at "g"
  refine c_digitsOf R rfl l0 (by omega) fun H' hs => ?_
  walk_at "g"
  refine c_digitsOf R rfl (by omega) (by omega) fun H' hs => ?_
  walk_at "g"
  have hne : bitsN (wlow R y.lo sure w) R ≠ bitsN (wlow R y.lo sure w + y.wd - 1) R := fun e => by
    have e2 := congrArg valB e
    rw [bitsN_val _ _ l0 l1, bitsN_val _ _ (by omega) hlt] at e2
    omega
  have hl1 := bitsN_len (wlow R y.lo sure w) R
  have hl2 := bitsN_len (wlow R y.lo sure w + y.wd - 1) R
  obtain ⟨c1, c2, c3, c4⟩ := cp_end _ _ (hl1.trans hl2.symm) hne
  rw [z1 hlt] at k
  have hs := (hs.re : HS H' (wrO C_Writer p q R sg (wlow R y.lo sure w) y.wd sure w kk :: msa K C_Shares C_Plain C_Learner C_Ahead C_Blend y.m q :: L))
  have hb1 := bitsN_lt (wlow R y.lo sure w) R
  have hb2 := bitsN_lt (wlow R y.lo sure w + y.wd - 1) R
  generalize bitsN (wlow R y.lo sure w) R = one at *
  generalize bitsN (wlow R y.lo sure w + y.wd - 1) R = other at *
  refine f_while (fun f σ H => ∃ j : Nat, f = (cp one other).length - j ∧ j ≤ (cp one other).length ∧ σ = [some (.ref p), some (.int (wlow R y.lo sure w + y.wd - 1)), some (.str (dgs one)), some (.str (dgs other)), some (.int (j : Nat))] ∧ HS H (wrO C_Writer p q R sg (wlow R y.lo sure w) y.wd sure w kk :: msa K C_Shares C_Plain C_Learner C_Ahead C_Blend y.m q :: L)) _ ⟨0, rfl, Nat.zero_le _, rfl, hs⟩ ?_
  clear hs
  rintro f σ H ⟨j, rfl, hj, rfl, hs⟩
  have g1 := List.getElem?_eq_getElem (show j < one.length by omega)
  have g2 := List.getElem?_eq_getElem (show j < other.length by omega)
  walk_at "g"
  refine s_ixD (by omega) g1 ?_
  walk_at "g"
  refine s_ixD (by omega) g2 ?_
  walk_at "g"
  refine i_d (fun he => ?_) (fun hn => ?_)
  · have eb : one[j]'(by omega) = other[j]'(by omega) := by
      have e1 : (#[48 + one[j]'(by omega)] : Array Nat) = #[48 + other[j]'(by omega)] := congrArg Str.cps he
      have e2 := congrArg Array.toList e1
      simp at e2
      exact e2
    have hjl : j < (cp one other).length := by
      rcases Nat.lt_or_ge j (cp one other).length with z | z
      · exact z
      · have : j = (cp one other).length := by omega
        subst this
        exact absurd (by rw [g1, g2, eb]) c4
    refine s_wh ?_
    walk_at "g"
    exact ⟨_, by omega, j + 1, rfl, hjl, by push_cast; rfl, hs⟩
  · have hjl : j = (cp one other).length := by
      rcases Nat.lt_or_ge j (cp one other).length with z | z
      · exfalso
        have e1 : one.take (cp one other).length = other.take (cp one other).length := by rw [c2, c3]
        have e2 := congrArg (fun l : List Nat => l[j]?) e1
        simp only [List.getElem?_take_of_lt z] at e2
        rw [g1, g2] at e2
        have e3 := Option.some.inj e2
        exact hn (by rw [e3])
      · omega
    subst hjl
    walk_at "g"
    refine ⟨p, q, R, sg, _, _, sure, w, kk, _, rfl, by omega, hs, fun H' hs => ?_⟩
    refine s_addS (small_line (by rw [dgs_len, dgs_len, wtn_len]; omega)) ?_
    rw [dgs_app]
    walk_at "g"
    refine s_slD (by omega) ?_
    rw [c2]
    have c5 := cp_le one other
    refine s_addS (small_line (by rw [dgs_len, dgs_len, List.length_append, wtn_len]; omega)) ?_
    rw [dgs_app]
    exact k _ (HS.wr_out (q := q) v hs)
abbrev s_l_word : Stmt := (top 57)
theorem sc_l_word : FnScope ["_law_work", "e", "_law_kinds", "_law_word_here"] ["_law_work"] (defScope s_l_word) := ⟨rfl, rfl, rfl, by decide +kernel, rfl, by decide +kernel, by decide +kernel⟩
theorem gives_word {N0 : List Str} {q0 : Str} {sc0 : Scope} {f0 : Addr} {cd0 : Value} {A0 : Around} {out0 : List Env} {s0 : Shared} {H0 : Hp} {E00 : XK} {g : Addr} {cdg : Value} {q : Str} (b_isinstance : mg "isinstance" = none) (b_ValueError : mg "ValueError" = none) (g_BadText : mg "BadText" = some (.ref C_BadText)) (g_BadNumber : mg "BadNumber" = some (.ref C_BadNumber)) (g_BadCount : mg "BadCount" = some (.ref C_BadCount)) (g_BadRoom : mg "BadRoom" = some (.ref C_BadRoom)) (g_BadCode : mg "BadCode" = some (.ref C_BadCode)) (g_BadRow : mg "BadRow" = some (.ref C_BadRow)) (g_BadShare : mg "BadShare" = some (.ref C_BadShare)) (g_BadSign : mg "BadSign" = some (.ref C_BadSign)) (g_BadModel : mg "BadModel" = some (.ref C_BadModel)) (g_StretchError : mg "StretchError" = some (.ref C_StretchError)) (hr : Room 2 (cxN P w K mg base N0 q0 sc0 f0 cd0 A0 out0 s0 H0 E00).A) : LamX.GivesTo (cxN P w K mg base N0 q0 sc0 f0 cd0 A0 out0 s0 H0 E00) ["_law_work", "e", "_law_kinds", "_law_word_here"] "_law_word" (defScope s_l_word) g cdg (defBody s_l_word) "_law_work" q (TWord K [C_BadModel, C_BadSign, C_BadShare, C_BadRow, C_BadCode, C_BadRoom, C_BadCount, C_BadNumber, C_BadText] C_StretchError) := by
  have nd := sc_l_word.nd
  intro f c' s H Q tl act hc h
  have hr := hr.deeper (PyProof.Rows.envOfC "_law_word" (defScope s_l_word) s.heap.objs.size g cdg)
  refine ⟨_, (pss_cons (L2.ps_try_as (c := .ref C_StretchError) (i := 1) (tb := fun W D σ H => ∃ Ech : XK, (∀ cls d σ' H', Ech cls d H' → σ'.length = 4 → W cls d σ' H') ∧ σ[0]? = some (some (.ref f)) ∧ H c' = some (LamX.CodeO c' q) ∧ tl Ech H (fun _ H' => D.nx σ H')) rfl rfl nd rfl rfl ⟨rfl, by decide, .inl g_StretchError⟩ takesN (fun W pn xe tk _ => ?_) (fun a oe cls d pn hz hf => (pss_cons (ps_set (i := 2) nd rfl (Or.inl rfl) (pe_lst (pa_cons (pe_callB (call_isW (K := K) rfl hz hf) rfl b_isinstance (by decide +kernel) (pa_cons (pv 1) (pa_cons (pe_glob (v := .ref C_BadModel) rfl g_BadModel rfl) pa_nil))) (pa_cons (pe_callB (call_isW (K := K) rfl hz hf) rfl b_isinstance (by decide +kernel) (pa_cons (pv 1) (pa_cons (pe_glob (v := .ref C_BadSign) rfl g_BadSign rfl) pa_nil))) (pa_cons (pe_callB (call_isW (K := K) rfl hz hf) rfl b_isinstance (by decide +kernel) (pa_cons (pv 1) (pa_cons (pe_glob (v := .ref C_BadShare) rfl g_BadShare rfl) pa_nil))) (pa_cons (pe_callB (call_isW (K := K) rfl hz hf) rfl b_isinstance (by decide +kernel) (pa_cons (pv 1) (pa_cons (pe_glob (v := .ref C_BadRow) rfl g_BadRow rfl) pa_nil))) pa_nil)))))) (pss_cons (ps_set (i := 2) nd rfl (Or.inl rfl) (pe_op (op_addK (K := K) rfl) (pv 2) (pe_lst (pa_cons (pe_callB (call_isW (K := K) rfl hz hf) rfl b_isinstance (by decide +kernel) (pa_cons (pv 1) (pa_cons (pe_glob (v := .ref C_BadCode) rfl g_BadCode rfl) pa_nil))) (pa_cons (pe_callB (call_isW (K := K) rfl hz hf) rfl b_isinstance (by decide +kernel) (pa_cons (pv 1) (pa_cons (pe_glob (v := .ref C_BadRoom) rfl g_BadRoom rfl) pa_nil))) (pa_cons (pe_callB (call_isW (K := K) rfl hz hf) rfl b_isinstance (by decide +kernel) (pa_cons (pv 1) (pa_cons (pe_glob (v := .ref C_BadCount) rfl g_BadCount rfl) pa_nil))) pa_nil)))))) (pss_cons (ps_set (i := 2) nd rfl (Or.inl rfl) (pe_op (op_addK (K := K) rfl) (pv 2) (pe_lst (pa_cons (pe_callB (call_isW (K := K) rfl hz hf) rfl b_isinstance (by decide +kernel) (pa_cons (pv 1) (pa_cons (pe_glob (v := .ref C_BadNumber) rfl g_BadNumber rfl) pa_nil))) (pa_cons (pe_callB (call_isW (K := K) rfl hz hf) rfl b_isinstance (by decide +kernel) (pa_cons (pv 1) (pa_cons (pe_glob (v := .ref C_BadText) rfl g_BadText rfl) pa_nil))) pa_nil))))) (pss_cons (ps_if (PW.pt (pw_or (pt_cmpR (op_neK (K := K) rfl hr.units) (pe_bmK (K := K) rfl PySem.F.plainAttrs_list PySem.F.slot_list_count PySem.F.type_list_count (mt_cntV (K := K) rfl) (pv 2) (pa_cons pe_bl pa_nil)) pe_int (nomark _)) (pw_or1 (pt_not (pt_val (pe_callB (call_isW (K := K) rfl hz hf) rfl b_isinstance (by decide +kernel) (pa_cons (pv 1) (pa_cons (pe_bltn (v := .ty "ValueError") rfl b_ValueError (by decide +kernel) rfl) pa_nil)))))))) (pss_one (ps_ret (pe_tup (pa_cons pe_str (pa_cons pe_int pa_nil))))) pss_nil) (pss_cons (ps_set (i := 3) nd rfl (Or.inl rfl) (pe_ix (ix_seqK (K := K) rfl) (pe_lst (pa_cons pe_str (pa_cons pe_str (pa_cons pe_str (pa_cons pe_str (pa_cons pe_str (pa_cons pe_str (pa_cons pe_str (pa_cons pe_str (pa_cons pe_str pa_nil)))))))))) (pe_bmK (K := K) rfl PySem.F.plainAttrs_list PySem.F.slot_list_index PySem.F.type_list_index (mt_idxV (K := K) rfl) (pv 2) (pa_cons pe_bl pa_nil)) (fun _ _ => rfl))) (pss_one (ps_ret (pe_tup (pa_cons (pv 3) (pa_cons (pe_ifExp (pt_cmpR (op_eqK (K := K) rfl hr.units) (pv 3) pe_str (nomark _)) pe_no (pe_ifExp (pt_cmpR (op_eqK (K := K) rfl hr.units) (pv 3) pe_str (nomark _)) pe_no pe_int)) pa_nil)))))))))))) (pss_one (ps_ret pe_non))), ?_⟩
  · refine ⟨fun pins s' σ H' D I h' => ?_⟩
    obtain ⟨Ech, hW, h1, h2, h3⟩ := h'
    exact (pss_one (ps_expr (act (fun cls d σ H => σ.length = 4 → W cls d σ H) pn xe Ech _ _ (takes_len tk) (fun cls d σ' H' e => hW cls d σ' H' e)))).run pins s' σ H' D I ⟨h1, h2, h3⟩

  · refine ⟨_, ?_, rfl, hc, h⟩
    rintro cls d σ' H' ⟨D, i, L, rfl, rfl, kd, hs, hk⟩ hl
    obtain ⟨x0, x1, x2, x3, rfl⟩ : ∃ x0 x1 x2 x3, σ' = [x0, x1, x2, x3] := by
      rcases σ' with _ | ⟨x0, _ | ⟨x1, _ | ⟨x2, _ | ⟨x3, _ | ⟨_, _⟩⟩⟩⟩⟩ <;> first | exact ⟨_, _, _, _, rfl⟩ | simp at hl
    refine ⟨true, kd.exm, fun _ a ha => ?_, fun q => nomatch q⟩
    rw [show [x0, x1, x2, x3].set 1 (some (V.ref a)) = [x0, some (V.ref a), x2, x3] from rfl]
    have lt := kd.lt
    walk_at "g"
    refine s_isW kd.ex (kd.is 0 _ rfl) ?_
    walk_at "g"
    refine s_isW kd.ex (kd.is 1 _ rfl) ?_
    walk_at "g"
    refine s_isW kd.ex (kd.is 2 _ rfl) ?_
    walk_at "g"
    refine s_isW kd.ex (kd.is 3 _ rfl) ?_
    walk_at "g"
    refine s_lstN (by walk_at "z") fun p1 H' hs => ?_
    walk_at "g"
    refine s_isW kd.ex (kd.is 4 _ rfl) ?_
    walk_at "g"
    refine s_isW kd.ex (kd.is 5 _ rfl) ?_
    walk_at "g"
    refine s_isW kd.ex (kd.is 6 _ rfl) ?_
    walk_at "g"
    refine s_lstN (by walk_at "z") fun p2 H' hs => ?_
    refine s_cat (small_line (by simp)) fun p3 H' hs => ?_
    walk_at "g"
    refine s_isW kd.ex (kd.is 7 _ rfl) ?_
    walk_at "g"
    refine s_isW kd.ex (kd.is 8 _ rfl) ?_
    walk_at "g"
    refine s_lstN (by walk_at "z") fun p4 H' hs => ?_
    refine s_cat (small_line (by simp)) fun p5 H' hs => ?_
    rw [show [V.bl (decide (0 = i)), V.bl (decide (1 = i)), V.bl (decide (2 = i)), V.bl (decide (3 = i))] ++ [V.bl (decide (4 = i)), V.bl (decide (5 = i)), V.bl (decide (6 = i))] ++ [V.bl (decide (7 = i)), V.bl (decide (8 = i))] = kindL i from rfl] at hs
    have hs := (hs.re : HS H' (pt p5 (.lst (kindL i)) :: L))
    walk_at "g"
    refine s_bmK ?_
    walk_at "g"
    refine s_cntV rfl (kind_flat i lt) ?_
    rw [kind_cnt i lt]
    walk_at "g"
    refine i_nd (fun n => absurd rfl n) fun _ => ?_
    walk_at "g"
    refine s_isWv kd.ex kd.val ?_
    walk_at "g"
    refine s_lstN (by walk_at "z") fun p6 H' hs => ?_
    walk_at "g"
    refine s_bmK ?_
    walk_at "g"
    refine s_idxW lt ?_
    have hs : HS H' (pt p6 (.lst (wordL.map V.str)) :: pt p5 (.lst (kindL i)) :: L) := hs
    refine s_ixL (words_at i lt) ?_
    walk_at "g"
    refine i_n (word_row i lt kd.n3) ?_
    walk_at "g"
    refine i_n (word_text i lt kd.n8) ?_
    walk_at "g"
    refine s_tupN (by walk_at "z") fun t H' hs => ?_
    exact hk t _ hs.re

abbrev s_law : Stmt := (top 61)
theorem sc_law : FnScope ["_law_script", "_law_row", "_law_turn", "_law_model_here", "_law_signs_here", "_law_room_here", "_law_writer", "_law_beside", "_law_some", "_law_sure", "_law_more", "_law_sign", "_law_now", "_law_last", "_law_words"] ["_law_script"] (defScope s_law) := ⟨rfl, rfl, rfl, by decide +kernel, rfl, by decide +kernel, by decide +kernel⟩
theorem ok_law {f : Addr} {fd : FuncData} (F : FunC K "law" "law" s_law f fd C_tab_law) (b_range : mg "range" = none) (b_len : mg "len" = none) (cl_Writer : Cls K C_Writer) (kd_BadSign : KindD K [C_BadModel, C_BadSign, C_BadShare, C_BadRow, C_BadCode, C_BadRoom, C_BadCount, C_BadNumber, C_BadText] C_StretchError C_BadSign 1) (kd_BadCount : KindD K [C_BadModel, C_BadSign, C_BadShare, C_BadRow, C_BadCode, C_BadRoom, C_BadCount, C_BadNumber, C_BadText] C_StretchError C_BadCount 6) (q_Writer_end : CalM P w K mg base CX0 2 C_Writer "end" ["self"] (spWEnd K C_Shares C_Plain C_Learner C_Ahead C_Blend C_Writer)) (q_Writer_put : CalM P w K mg base (L2.CX P w) 13 C_Writer "put" ["self", "sign"] (spWPutX K C_Shares C_Plain C_Learner C_Ahead C_Blend C_Writer C_BadSign C_BadCount)) (q_l_word : WordQ P w K mg base s_l_word ["_law_work", "e", "_law_kinds", "_law_word_here"] (TWord K [C_BadModel, C_BadSign, C_BadShare, C_BadRow, C_BadCode, C_BadRoom, C_BadCount, C_BadNumber, C_BadText] C_StretchError)) (q_Writer_digits : CalM P w K mg base CX0 2 C_Writer "digits" ["self"] (spWDigits K C_Shares C_Plain C_Learner C_Ahead C_Blend C_Writer)) (q_written : Cal P w K mg base CX0 14 "written" ["model", "room", "row"] (spWritten K)) (q_l_taken : Cal P w K mg base CX0 1 "_law_taken" ["_law_row", "_law_many"] (spTaken K)) (q_l_signs : Cal P w K mg base CX0 2 "_law_signs" ["_law_row", "_law_signs_here", "_law_most_here"] (spLSigns K)) (q_Writer_init : CalC P w K mg base CX0 12 C_Writer "Writer" ["self", "model", "room"] (spWInit K C_Shares C_Plain C_Learner C_Ahead C_Blend C_Writer)) (q_l_room : Cal P w K mg base CX0 5 "_law_room" ["_law_row", "_law_model_here"] (spLRoom K)) (q_l_any : Cal P w K mg base CX0 9 "_law_any" ["_law_row"] (spLAny K)) (tb_ : LamX.TabB base mg C_tab_law P_tab_law) : FnOk P w K mg base CX0 (20) f fd ["_law_script"] (spLawT K [P_tab_law]) := by
  have nd := sc_law.nd
  refine F.ok sc_law (fun vs H Q E h => ?_) (fun A outer s H vs Q E hr h => ?_)
  · repeat (first | (obtain ⟨rfl, _⟩ := h; rfl) | (obtain ⟨_, h⟩ := h))
  refine (fun q => ⟨_, (pss_cons (ps_set (i := 1) nd rfl (Or.inr rfl) (pe_lst (pa_cons (pv 0) (pa_cons pe_int (pa_cons pe_int (pa_cons pe_int pa_nil)))))) (pss_cons (ps_for PassesOwn.never rfl (pi_range1 rfl b_range (pa_cons pe_int pa_nil)) (pg_name (i := 2) nd rfl (Or.inl rfl)) (pss_cons (ps_asg (pe_cal q_l_any (hr.mono (by decide)) rfl pass0 (pa_cons (pv 1) pa_nil)) (pg_tupK (K := K) (n := 2) rfl rfl (pgs_cons (pg_name (i := 3) nd rfl (Or.inl rfl)) (pgs_cons (pg_name (i := 4) nd rfl (Or.inr rfl)) pgs_nil)))) (pss_cons (ps_set (i := 5) nd rfl (Or.inl rfl) (pe_cal q_l_room (hr.mono (by decide)) rfl pass0 (pa_cons (pv 1) (pa_cons (pv 3) pa_nil)))) (pss_cons (ps_asg (pe_tup (pa_cons (pe_calC q_Writer_init (hr.mono (by decide)) rfl pass0 (pa_cons (pv 3) (pa_cons (pv 5) pa_nil))) (pa_cons (pe_calC q_Writer_init (hr.mono (by decide)) rfl pass0 (pa_cons (pv 3) (pa_cons (pv 5) pa_nil))) pa_nil))) (pg_tupK (K := K) (n := 2) rfl rfl (pgs_cons (pg_name (i := 6) nd rfl (Or.inr rfl)) (pgs_cons (pg_name (i := 7) nd rfl (Or.inl rfl)) pgs_nil)))) (pss_cons (ps_par (i := 8) (j := 9) rfl nd rfl rfl (by decide) rfl rfl (pa_cons (pe_lst pa_nil) (pa_cons pe_str pa_nil)) rfl) (pss_cons (ps_set (i := 10) nd rfl (Or.inl rfl) (pe_cal q_l_signs (hr.mono (by decide)) rfl pass0 (pa_cons (pv 1) (pa_cons (pv 4) (pa_cons pe_int pa_nil))))) (pss_cons (ps_if (pt_cmpR (op_eqK (K := K) rfl hr.units) (pe_cal q_l_taken (hr.mono (by decide)) rfl pass0 (pa_cons (pv 1) (pa_cons pe_int pa_nil))) pe_int (nomark _)) (pss_one (ps_set (i := 10) nd rfl (Or.inl rfl) (pe_slice (sl_anyK (K := K) rfl) (pe_op (op_addK (K := K) rfl) (pv 10) (pe_op op_mulG (pe_lst (pa_cons pe_int pa_nil)) pe_int)) po_none (po_some pe_int)))) pss_nil) (pss_cons (ps_for PassesOwn.never rfl (pi_anyK (K := K) rfl (pv 10)) (pg_name (i := 11) nd rfl (Or.inl rfl)) (pss_cons (ps_if (PW.pt (pw_and (pt_cmpR (op_eqK (K := K) rfl hr.units) (pe_cal q_l_taken (hr.mono (by decide)) rfl pass0 (pa_cons (pv 1) (pa_cons pe_int pa_nil))) pe_int (nomark _)) (pw_and1 (pt_cmpR (op_neK (K := K) rfl hr.units) (q_l_word.pe (k := 17) (hr.mono (by decide)) tb_ rfl (LamX.lamS_by (by decide +kernel)) rfl (fun _ _ _ _ _ => rfl) (fun A1 outer1 s1 H1 E1 f1 c1 hr => (pe_calM (pv 6) cl_Writer q_Writer_put (hr.mono (by decide)) (passes_call (takes_of rfl rfl rfl rfl) (fun _ _ _ _ h => h)) (pa_cons (pe_op (op_addK (K := K) rfl) (pv 4) (pe_cal q_l_taken (hr.mono (by decide)) rfl pass0 (pa_cons (pv 1) (pa_cons pe_int pa_nil)))) pa_nil)))) (pe_tup (pa_cons pe_str (pa_cons pe_int pa_nil))) (nomark _))))) (pss_one (ps_ret pe_bl)) pss_nil) (pss_cons (ps_par (i := 12) (j := 13) rfl nd rfl rfl (by decide) rfl rfl (pa_cons (pe_calM0 (pv 6) cl_Writer q_Writer_digits (hr.mono (by decide)) pass0) (pa_cons (pe_calM0 (pv 6) cl_Writer q_Writer_end (hr.mono (by decide)) pass0) pa_nil)) rfl) (pss_cons (ps_if (PW.pt (pw_or (pt_not (pt_val (pe_starts (pv 12) (pv 9)))) (pw_or1 (pt_not (pt_val (pe_starts (pv 13) (pv 12))))))) (pss_one (ps_ret pe_bl)) pss_nil) (pss_cons (ps_set (i := 9) nd rfl (Or.inl rfl) (pv 12)) (pss_cons (ps_expr (pe_calM (pv 6) cl_Writer q_Writer_put (hr.mono (by decide)) passX0 (pa_cons (pv 11) pa_nil))) (pss_cons (ps_expr (pe_calM (pv 7) cl_Writer q_Writer_put (hr.mono (by decide)) passX0 (pa_cons (pv 11) pa_nil))) (pss_one (ps_expr (pe_bmK (K := K) rfl PySem.F.plainAttrs_list PySem.F.slot_list_append PySem.F.type_list_append mt_append (pv 8) (pa_cons (pv 11) pa_nil))))))))))) (pss_cons (ps_if (PW.pt (pw_or (pt_not (pt_val (pe_starts (pe_calM0 (pv 6) cl_Writer q_Writer_digits (hr.mono (by decide)) pass0) (pv 9)))) (pw_or1 (pt_not (pt_val (pe_starts (pe_calM0 (pv 6) cl_Writer q_Writer_end (hr.mono (by decide)) pass0) (pe_calM0 (pv 6) cl_Writer q_Writer_digits (hr.mono (by decide)) pass0))))))) (pss_one (ps_ret pe_bl)) pss_nil) (pss_cons (ps_if (PW.pt (pw_or (pt_cmpR (op_neK (K := K) rfl hr.units) (pe_lst (pa_cons (pe_calM0 (pv 7) cl_Writer q_Writer_end (hr.mono (by decide)) pass0) (pa_cons (pe_cal q_written (hr.mono (by decide)) rfl pass0 (pa_cons (pv 3) (pa_cons (pv 5) (pa_cons (pv 8) pa_nil)))) pa_nil))) (pe_op op_mulG (pe_lst (pa_cons (pe_calM0 (pv 6) cl_Writer q_Writer_end (hr.mono (by decide)) pass0) pa_nil)) pe_int) (nomark _)) (pw_or1 (pt_cmpR (op_neK (K := K) rfl hr.units) (pe_calM0 (pv 7) cl_Writer q_Writer_digits (hr.mono (by decide)) pass0) (pe_calM0 (pv 6) cl_Writer q_Writer_digits (hr.mono (by decide)) pass0) (nomark _))))) (pss_one (ps_ret pe_bl)) pss_nil) (pss_one (ps_if (pt_cmpR (op_eqK (K := K) rfl hr.units) (pe_callB (call_lenK (K := K) rfl) rfl b_len PySem.boot_len (pa_cons (pv 8) pa_nil)) pe_int (nomark _)) (pss_cons (ps_set (i := 14) nd rfl (Or.inl rfl) (pe_lst (pa_cons (q_l_word.pe (k := 17) (hr.mono (by decide)) tb_ rfl (LamX.lamS_by (by decide +kernel)) rfl (fun _ _ _ _ _ => rfl) (fun A1 outer1 s1 H1 E1 f1 c1 hr => (pe_calM (pv 6) cl_Writer q_Writer_put (hr.mono (by decide)) (passes_call (takes_of rfl rfl rfl rfl) (fun _ _ _ _ h => h)) (pa_cons pe_int pa_nil)))) (pa_cons (q_l_word.peD (k := 17) (hr.mono (by decide)) tb_ rfl ⟨rfl, rfl, rfl, by decide +kernel, by decide +kernel, by decide +kernel, rfl⟩ (by decide +kernel) rfl rfl pe_int (fun _ _ _ _ _ _ _ _ => ⟨_, rfl, rfl⟩) (fun A1 outer1 s1 H1 E1 f1 c1 hr => (pe_calM (pv 6) cl_Writer q_Writer_put (hr.mono (by decide)) (passes_call (takes_of rfl rfl rfl rfl) (fun _ _ _ _ h => h)) (pa_cons (pv 4) pa_nil)))) pa_nil)))) (pss_one (ps_if (PW.pt (pw_or (pt_cmpR (op_neK (K := K) rfl hr.units) (pv 14) (pe_lst (pa_cons (pe_tup (pa_cons pe_str (pa_cons pe_int pa_nil))) (pa_cons (pe_tup (pa_cons pe_str (pa_cons pe_int pa_nil))) pa_nil))) (nomark _)) (pw_or1 (pt_cmpR (op_neK (K := K) rfl hr.units) (pe_calM0 (pv 6) cl_Writer q_Writer_end (hr.mono (by decide)) pass0) (pe_calM0 (pv 7) cl_Writer q_Writer_end (hr.mono (by decide)) pass0) (nomark _))))) (pss_one (ps_ret pe_bl)) pss_nil))) pss_nil)))))))))))) (pss_one (ps_ret pe_bl)))), q⟩) ?_

  obtain ⟨a, ns, rfl, hS, hT, k⟩ := h
  have hs : HS H [tabA [(P_tab_law, lamQ "law")], fz K a (iv ns)] := law_tab (T := [(P_tab_law, lamQ "law")]) hS (fun p hp => by rw [List.mem_singleton.mp hp]; exact hT _ (List.mem_singleton.mpr rfl))
  rw [show start ["_law_script", "_law_row", "_law_turn", "_law_model_here", "_law_signs_here", "_law_room_here", "_law_writer", "_law_beside", "_law_some", "_law_sure", "_law_more", "_law_sign", "_law_now", "_law_last", "_law_words"] [.ref a] = [some (.ref a), none, none, none, none, none, none, none, none, none, none, none, none, none, none] from rfl]
  walk_at "g"
  refine s_lstN (by walk_at "z") fun p H' hs => ?_
  have hs := row_first (hs.re : HS H' (pt p (.lst [.ref a, .int 0, .int 0, .int 0]) :: fz K a (iv ns) :: [tabA [(P_tab_law, lamQ "law")]]))
  have hs : HS _ (rowA K p :: [tabA [(P_tab_law, lamQ "law")]]) := hs.re
  walk_at "g"
  refine s_rngK1 (by decide) (by decide) ?_
  refine f_range (fun i σ H => ∃ v2 v3 v4 v5 v6 v7 v8 v9 va vb vc vd ve, σ = [some (.ref a), some (.ref p), v2, v3, v4, v5, v6, v7, v8, v9, va, vb, vc, vd, ve] ∧ HS H (rowA K p :: [tabA [(P_tab_law, lamQ "law")]])) ⟨_, _, _, _, _, _, _, _, _, _, _, _, _, rfl, hs⟩ ?_ ?_
  · rintro i σ H hi ⟨v2, v3, v4, v5, v6, v7, v8, v9, va, vb, vc, vd, ve, rfl, hs⟩
    walk_at "g"
    refine c_lAny fun r x m H' mok hs => ?_
    have s8 := mok.nsg
    walk_at "g"
    refine s_gtup rfl ?_
    walk_at "g"
    refine c_lRoom mok fun R H' r4 r20 h8 hs => ?_
    walk_at "g"
    refine s_mkK fun w H' hs => ?_
    refine c_wInit rfl mok r4 r20 h8 fun H' hs => ⟨rfl, ?_⟩
    walk_at "g"
    refine s_mkK fun b H' hs => ?_
    refine c_wInit rfl mok r4 r20 h8 fun H' hs => ⟨rfl, ?_⟩
    walk_at "g"
    refine s_tupN (by walk_at "z") fun t1 H' hs => ?_
    walk_at "g"
    refine s_gtup rfl ?_
    walk_at "g"
    refine s_lstN (by walk_at "z") fun S H' hs => ?_
    walk_at "g"
    refine c_lSigns s8 (by decide) fun M ms H' ml hms hs => ?_
    have ml : ms.length ≤ 60 := by omega
    have hs : HS H' (wrS K C_Shares C_Plain C_Learner C_Ahead C_Blend C_Writer w R (rnd0 R m) 0 (nsg m) :: wrS K C_Shares C_Plain C_Learner C_Ahead C_Blend C_Writer b R (rnd0 R m) 0 (nsg m) :: pt S (.lst []) :: pt M (.lst (iv (ms.map Int.ofNat))) :: md K m x :: rowA K p :: [tabA [(P_tab_law, lamQ "law")]]) := hs.re
    walk_at "b"
    refine s_ifR (fun σ' H' => ∃ M, ∃ ms : List Nat, ms.length ≤ 60 ∧ (∀ s ∈ ms, (s : Int) < nsg m) ∧ σ' = [some (.ref a), some (.ref p), some (.int (i : Int)), some x, some (.int (nsg m)), some (.int (R : Nat)), some (.ref w), some (.ref b), some (.ref S), some (.str (Str.ofString "")), some (.ref M), vb, vc, vd, ve] ∧ HS H' (wrS K C_Shares C_Plain C_Learner C_Ahead C_Blend C_Writer w R (rnd0 R m) 0 (nsg m) :: wrS K C_Shares C_Plain C_Learner C_Ahead C_Blend C_Writer b R (rnd0 R m) 0 (nsg m) :: pt S (.lst []) :: pt M (.lst (iv (ms.map Int.ofNat))) :: md K m x :: rowA K p :: [tabA [(P_tab_law, lamQ "law")]])) ?_ fun N hN => ?_
    rotate_left
    · walk_at "g"
      refine c_taken (by decide) (by decide) fun y H' y0 y1 hs => ?_
      walk_at "g"
      refine i_d (fun _ => ?_) (fun _ => ?_)
      · walk_at "g"
        refine s_lstN (by walk_at "z") fun R1 H' hs => ?_
        walk_at "g"
        refine s_rep (by decide) (by decide) (by show 1 * 60 ≤ sizeLine; decide) fun R2 H' hs => ?_
        have hr : (List.replicate (60 : Int).toNat [V.int 0]).flatten = iv ((List.replicate 60 0).map Int.ofNat) := by decide
        rw [hr] at hs
        have hs : HS H' (pt R2 (.lst (iv ((List.replicate 60 0).map Int.ofNat))) :: wrS K C_Shares C_Plain C_Learner C_Ahead C_Blend C_Writer w R (rnd0 R m) 0 (nsg m) :: wrS K C_Shares C_Plain C_Learner C_Ahead C_Blend C_Writer b R (rnd0 R m) 0 (nsg m) :: pt S (.lst []) :: pt M (.lst (iv (ms.map Int.ofNat))) :: md K m x :: rowA K p :: [tabA [(P_tab_law, lamQ "law")]]) := hs.re
        refine s_cat (xs := iv (ms.map Int.ofNat)) (ys := iv ((List.replicate 60 0).map Int.ofNat)) (small_line (by rw [iv_len, iv_len, List.length_map, List.length_map, List.length_replicate]; omega)) fun u H' hs => ?_
        rw [show iv (ms.map Int.ofNat) ++ iv ((List.replicate 60 0).map Int.ofNat) = iv ((ms ++ List.replicate 60 0).map Int.ofNat) by simp [iv]] at hs
        walk_at "g"
        refine s_slTake 60 rfl fun W H' hs => ?_
        rw [← List.map_take] at hs
        walk_at "g"
        refine hN _ _ ⟨_, (ms ++ List.replicate 60 0).take 60, by rw [List.length_take]; omega, fun s h => ?_, rfl, hs.re⟩
        rcases List.mem_append.mp (List.mem_of_mem_take h) with q | q
        · exact hms s q
        · have := List.eq_of_mem_replicate q; omega
      · walk_at "g"
        exact hN _ _ ⟨_, _, ml, hms, rfl, hs.re⟩
    clear hs hms ml
    rintro σ H ⟨M, ms, ml, hms, rfl, hs⟩
    walk_at "g"
    refine s_any ?_
    walk_at "g"
    refine s_lsK ?_
    refine f_list (iv (ms.map Int.ofNat)) (fun j σ H => ∃ vb vc vd, ∃ d : List Nat, j ≤ ms.length ∧ σ = [some (.ref a), some (.ref p), some (.int (i : Int)), some x, some (.int (nsg m)), some (.int (R : Nat)), some (.ref w), some (.ref b), some (.ref S), some (.str (dgs d)), some (.ref M), vb, vc, vd, ve] ∧ d <+: wdig R (rnds R (rnd0 R m) (ms.take j)) ∧ HS H (wrS K C_Shares C_Plain C_Learner C_Ahead C_Blend C_Writer w R (rnds R (rnd0 R m) (ms.take j)) j (nsg m) :: wrS K C_Shares C_Plain C_Learner C_Ahead C_Blend C_Writer b R (rnds R (rnd0 R m) (ms.take j)) j (nsg m) :: pt S (.lst (iv ((ms.take j).map Int.ofNat))) :: pt M (.lst (iv (ms.map Int.ofNat))) :: md K m x :: rowA K p :: [tabA [(P_tab_law, lamQ "law")]])) ?_ ?_ ?_ ?_
    · exact ⟨_, _, _, [], Nat.zero_le _, by rw [show dgs [] = Str.ofString "" from rfl], List.nil_prefix, hs⟩
    · rintro j σ H hj ⟨vb, vc, vd, d, hjl, rfl, hd, hs⟩
      exact (inferInstance : RdL K _ M _).sq hs
    · clear hs
      rintro j z σ H hz ⟨vb, vc, vd, d, hjl, rfl, hd, hs⟩
      obtain ⟨s, hsj, rfl⟩ := take_ofNat hz
      have hj3 := (List.getElem?_eq_some_iff.mp hsj).1
      have hsg := hms s (List.mem_of_getElem? hsj)
      have nk := rnds_take_ok mok r4 r20 h8 hms j (by omega)
      have htk : (ms.take j).length = j := by rw [List.length_take]; omega
      have hnext := wdig_next nk hsg
      have hend := wdig_end nk (by omega)
      rw [take_snoc hsj, rnds_snoc]
      generalize rnds R (rnd0 R m) (ms.take j) = y at *
      generalize ms.take j = us at *
      walk_at "b"
      with_reducible refine s_if ?_
      refine tt_gen (fun b2 H' => b2 = false ∧ HS H' (wrS K C_Shares C_Plain C_Learner C_Ahead C_Blend C_Writer w R (y) j (nsg m) :: wrS K C_Shares C_Plain C_Learner C_Ahead C_Blend C_Writer b R (y) j (nsg m) :: pt S (.lst (iv (us.map Int.ofNat))) :: pt M (.lst (iv (ms.map Int.ofNat))) :: md K m x :: rowA K p :: [tabA [(P_tab_law, lamQ "law")]])) ?_ fun Q' hQ => ?_
      · clear hs
        rintro b2 H ⟨rfl, hs⟩
        with_reducible refine i_f ?_
        walk_at "g"
        refine c_wDigits nk (by omega) fun H' hs => ?_
        walk_at "g"
        refine c_wEnd nk (by omega) fun H' hs => ?_
        walk_at "g"
        refine s_startsD ?_
        walk_at "g"
        refine i_nd (fun n => absurd hd n) fun _ => ?_
        walk_at "g"
        refine s_startsD ?_
        walk_at "g"
        refine i_nd (fun n => absurd hend n) fun _ => ?_
        walk_at "g"
        refine c_wPutN s rfl nk (by omega) hsg fun H' hs => ?_
        walk_at "g"
        refine c_wPutN s rfl nk (by omega) hsg fun H' hs => ?_
        walk_at "g"
        refine s_bmK ?_
        walk_at "g"
        refine s_app (small_lt (by rw [iv_len, List.length_map, htk]; omega)) fun H' hs => ?_
        rw [show iv (us.map Int.ofNat) ++ [V.int (s : Nat)] = iv ((us ++ [s]).map Int.ofNat) by rw [List.map_append, List.map_cons, List.map_nil, iv_app]; rfl] at hs
        walk_at "g"
        exact ⟨_, _, _, _, hj3, rfl, hnext, hs.re⟩
      · walk_at "g"
        refine c_taken (by decide) (by decide) fun y8 H' y80 y81 hs => ?_
        walk_at "g"
        refine i_d (fun _ => ?_) (fun _ => ?_)
        · walk_at "g"
          refine s_lam fun H1 hs => ?_
          refine s_word ?_
          walk_at "g"
          refine c_taken (by decide) (by decide) fun y9 H' y90 y91 hs => ?_
          walk_at "g"
          refine c_wPutS nk (by omega) (by omega) fun H' hs => ?_
          refine ⟨C_BadSign, 1, _, rfl, rfl, kd_BadSign, hs, fun t3 H' hs => ?_⟩
          walk_at "g"
          refine s_tupN (by walk_at "z") fun t4 H' hs => ?_
          walk_at "g"
          refine s_neWord (z := Str.ofString "sign") (by decide +kernel) ?_
          walk_at "g"
          exact hQ _ _ ⟨rfl, hs.re⟩
        · walk_at "g"
          exact hQ _ _ ⟨rfl, hs.re⟩
    · clear hs
      rintro σ H ⟨vb, vc, vd, d, hjl, rfl, hd, hs⟩
      rw [iv_len, List.length_map, List.take_length] at hs hd
      have nk := (RndOk.begun mok r4 r20 h8).rnds ms hms
      rw [Nat.zero_add] at nk
      have hend := wdig_end nk ml
      have hwb := (wbits_all nk ml).1
      generalize ey : rnds R (rnd0 R m) ms = y at *
      walk_at "g"
      refine c_wDigits nk ml fun H' hs => ?_
      walk_at "g"
      refine s_startsD ?_
      walk_at "g"
      refine i_nd (fun n => absurd hd n) fun _ => ?_
      walk_at "g"
      refine c_wEnd nk ml fun H' hs => ?_
      walk_at "g"
      refine c_wDigits nk ml fun H' hs => ?_
      walk_at "g"
      refine s_startsD ?_
      walk_at "g"
      refine i_nd (fun n => absurd hend n) fun _ => ?_
      walk_at "g"
      refine c_wEnd nk ml fun H' hs => ?_
      walk_at "g"
      refine c_written R ms rfl mok r4 r20 h8 ml hms fun H' hs => ?_
      rw [ey]
      walk_at "g"
      refine s_lstN (by walk_at "z") fun O1 H' hs => ?_
      walk_at "g"
      refine c_wEnd nk ml fun H' hs => ?_
      walk_at "g"
      refine s_lstN (by walk_at "z") fun O2 H' hs => ?_
      walk_at "g"
      refine s_rep (xs := [.str (dgs (wbits R y))]) (by decide) (by decide) (by show 1 * 2 ≤ sizeLine; decide) fun O3 H' hs => ?_
      have hs : HS H' (pt O3 (.lst [.str (dgs (wbits R y)), .str (dgs (wbits R y))]) :: _) := hs
      refine s_neS2 (dgs_ok hwb) ?_
      have hs : HS H' (wrS K C_Shares C_Plain C_Learner C_Ahead C_Blend C_Writer w R (y) ms.length (nsg m) :: wrS K C_Shares C_Plain C_Learner C_Ahead C_Blend C_Writer b R (y) ms.length (nsg m) :: pt S (.lst (iv (ms.map Int.ofNat))) :: pt M (.lst (iv (ms.map Int.ofNat))) :: md K m x :: rowA K p :: [tabA [(P_tab_law, lamQ "law")]]) := hs.re
      walk_at "g"
      refine c_wDigits nk ml fun H' hs => ?_
      walk_at "g"
      refine c_wDigits nk ml fun H' hs => ?_
      walk_at "g"
      refine i_nd (fun n => absurd rfl n) fun _ => ?_
      walk_at "g"
      refine s_lenL ?_
      walk_at "g"
      refine i_d (fun h60 => ?_) (fun _ => ?_)
      · have h60 : ms.length = 60 := by rw [iv_len, List.length_map] at h60; omega
        walk_at "g"
        refine s_lam fun H1 hs => ?_
        refine s_word ?_
        walk_at "g"
        refine c_wPutC nk h60 (by omega) fun H' hs => ?_
        refine ⟨C_BadCount, 6, _, rfl, rfl, kd_BadCount, hs, fun t1 H' hs => ?_⟩
        walk_at "g"
        refine s_lam fun H1 hs => ?_
        refine s_word ?_
        walk_at "g"
        refine c_wPutS nk ml (by omega) fun H' hs => ?_
        refine ⟨C_BadSign, 1, _, rfl, rfl, kd_BadSign, hs, fun t2 H' hs => ?_⟩
        walk_at "g"
        refine s_lstN (by walk_at "z") fun O4 H' hs => ?_
        walk_at "g"
        refine s_tupN (by walk_at "z") fun t3 H' hs => ?_
        walk_at "g"
        refine s_tupN (by walk_at "z") fun t4 H' hs => ?_
        walk_at "g"
        refine s_lstN (by walk_at "z") fun O5 H' hs => ?_
        refine s_neW2 (z := Str.ofString "count") (y := Str.ofString "sign") (i := 0) (j := 0) (t1 := t1) (t2 := t2) (u1 := t3) (u2 := t4) (by decide +kernel) (by decide +kernel) ?_
        walk_at "g"
        refine c_wEnd nk ml fun H' hs => ?_
        walk_at "g"
        refine c_wEnd nk ml fun H' hs => ?_
        walk_at "g"
        refine i_nd (fun n => absurd rfl n) fun _ => ?_
        walk_at "g"
        exact ⟨_, _, _, _, _, _, _, _, _, _, _, _, _, rfl, hs.re⟩
      · walk_at "g"
        exact ⟨_, _, _, _, _, _, _, _, _, _, _, _, _, rfl, hs.re⟩
  · rintro σ H ⟨v2, v3, v4, v5, v6, v7, v8, v9, va, vb, vc, vd, ve, rfl, hs⟩
    walk_at "g"
    exact k _

end
/-! ### the end of a law that makes lambdas -/
structure FnD (K : PySem.W.Frag) (x qual : Str) (st : Stmt) (f : Addr) : Prop where
  ex : ∃ (oc : Value) (od : Option Addr) (kV doc pm : Value) (an : Option Addr) (cdv ct : Value) (osl : Array (Option Value)),
    K.lookup f = some ⟨oc, od, .func (PySem.W.fnOf x qual (defArgs st) (defBody st) (defScope st) .none kV doc pm an cdv ct), osl⟩ ∧ PySem.W.codeIn K cdv qual = true ∧ PySem.W.keepIn K (.ref f) = true
theorem FnD.of {K : PySem.W.Frag} {x qual : Str} {st : Stmt} {f : Addr} {oc : Value} {od an : Option Addr} {osl : Array (Option Value)} {kV doc pm cdv ct : Value} (l : K.lookup f = some ⟨oc, od, .func (PySem.W.fnOf x qual (defArgs st) (defBody st) (defScope st) .none kV doc pm an cdv ct), osl⟩)
    (c : PySem.W.codeIn K cdv qual = true) (k : PySem.W.keepIn K (.ref f) = true) : FnD K x qual st f := ⟨_, _, _, _, _, _, _, _, _, l, c, k⟩
theorem FnD.fun_ {K : PySem.W.Frag} {x qual : Str} {st : Stmt} {f : Addr} (d : FnD K x qual st f) : ∃ fd, Fun K x qual st f fd := by
  obtain ⟨oc, od, kV, doc, pm, an, cdv, ct, osl, l, c, k⟩ := d.ex
  exact ⟨_, fun_mk l c k⟩
/-- a def whose code object is at c -/
structure FnE (K : PySem.W.Frag) (x qual : Str) (st : Stmt) (f c : Addr) : Prop where
  ex : ∃ (oc : Value) (od : Option Addr) (kV doc pm : Value) (an : Option Addr) (ct : Value) (osl : Array (Option Value)),
    K.lookup f = some ⟨oc, od, .func (PySem.W.fnOf x qual (defArgs st) (defBody st) (defScope st) .none kV doc pm an (.ref c) ct), osl⟩ ∧ PySem.W.codeIn K (.ref c) qual = true ∧ PySem.W.keepIn K (.ref f) = true
theorem FnE.of {K : PySem.W.Frag} {x qual : Str} {st : Stmt} {f cd : Addr} {oc : Value} {od an : Option Addr} {osl : Array (Option Value)} {kV doc pm ct : Value} (l : K.lookup f = some ⟨oc, od, .func (PySem.W.fnOf x qual (defArgs st) (defBody st) (defScope st) .none kV doc pm an (.ref cd) ct), osl⟩)
    (c : PySem.W.codeIn K (.ref cd) qual = true) (k : PySem.W.keepIn K (.ref f) = true) : FnE K x qual st f cd := ⟨_, _, _, _, _, _, _, _, l, c, k⟩
theorem FnE.fun_ {K : PySem.W.Frag} {x qual : Str} {st : Stmt} {f c : Addr} (d : FnE K x qual st f c) : ∃ fd, FunC K x qual st f fd c := by
  obtain ⟨oc, od, kV, doc, pm, an, ct, osl, l, q, k⟩ := d.ex
  exact ⟨_, ⟨_, _, _, _, _, _, _, _, rfl, l, q⟩, k⟩
theorem FunC.toFun {K : PySem.W.Frag} {x qual : Str} {st : Stmt} {f c : Addr} {fd : FuncData} (F : FunC K x qual st f fd c) : Fun K x qual st f fd := by
  obtain ⟨oc, od, kV, doc, pm, an, ct, osl, e, l, q⟩ := F.ex
  exact ⟨⟨oc, od, kV, doc, pm, an, .ref c, ct, osl, e, l, q⟩, F.kp⟩
/-- what is known of the law at fa: which tables it must find empty, and its promise -/
def LawHas (names : List Str) (P : Program) (w : World) (K : PySem.W.Frag) (mg : Str → Option Value) (k : Nat) (fa : Addr) : Prop := ∃ (cs : List (Str × Addr × Addr)) (fd : FuncData) (sp : Sp),
  (∀ p ∈ cs, p.1 ∈ names ∧ PySem.W.tabIn K p.1 = some p.2 ∧ K.lookup p.2.2 = none) ∧ (∀ (s : Shared) (v : Value), BindsTo s fd ⟨[v], []⟩ [("_law_script", v)]) ∧
  (∀ (H : Hp) (a : Addr) (ns : List Int), (∀ p ∈ cs, H p.2.2 = some (.tbl #[])) → SqL K H a (ns.map V.int) → sp [.ref a] H (fun v _ => v = .bl true) fun _ _ _ => False) ∧
  ∀ base : Heap, K.In base → base.Ns mainGlobals mg → (∀ p ∈ cs, LamX.TabB base mg p.2.1 p.2.2) → FnOk P w K mg base CX0 k fa fd ["_law_script"] sp
set_option maxHeartbeats 0 in
theorem all_mk {P : Program} {w : World} {K : PySem.W.Frag} {h : Heap} {mg : Str → Option Value} {fa : Addr} {C_Ahead C_BadCode C_BadCount C_BadModel C_BadNumber C_BadRoom C_BadRow C_BadShare C_BadSign C_BadText C_Blend C_Learner C_Plain C_Shares C_StretchError C_Writer C_tab_law P_tab_law f_Ahead_init f_Ahead_learn f_Ahead_learner f_Ahead_now f_Blend_init f_Blend_learn f_Blend_now f_Learner_init f_Learner_learn f_Learner_now f_Plain_init f_Plain_learn f_Plain_now f_Shares_ahead_of f_Shares_all_counts f_Shares_climb f_Shares_grow f_Shares_halve f_Shares_init f_Shares_many_of f_Shares_need_sign f_Shares_whole f_Writer_carried f_Writer_carry f_Writer_digits f_Writer_end f_Writer_init f_Writer_put f_Writer_shift f_Writer_waiting f_are_learning f_begun f_digits_of f_fewest f_is_model f_is_plain f_is_within f_l_any f_l_model f_l_most f_l_room f_l_signs f_l_taken f_l_word f_law f_most_of f_need_counts f_need_model f_need_room f_need_row f_signs_of f_written : Addr} {t_AHEAD t_BLEND t_LEARN t_LEAST_ROOM t_MOST_COUNT t_MOST_DEEP t_MOST_LIMIT t_MOST_ORDER t_MOST_PLAIN t_MOST_ROOM t_MOST_ROW t_MOST_SIGNS t_MOST_STEP t_MOST_WEIGHT t_MOST_WHOLE t_PLAIN : Tok} (X : K.In h) (G : h.Ns mainGlobals mg) (hfa : mg "law" = some (.ref fa))
    (aC_Ahead : PySem.W.nsIn K mainGlobals "Ahead" = some (some (.ref C_Ahead)))
    (pg_Ahead : PySem.W.plainGet K C_Ahead Str.empty = true)
    (hd_Ahead : PySem.W.hasDictIn K C_Ahead = true)
    (po_Ahead : PySem.W.plainOver K C_Ahead = true)
    (sa_Ahead : PySem.W.findIn K (.ref C_Ahead) "__setattr__" = some (some (.builtin "object.__setattr__")))
    (aC_Blend : PySem.W.nsIn K mainGlobals "Blend" = some (some (.ref C_Blend)))
    (pg_Blend : PySem.W.plainGet K C_Blend Str.empty = true)
    (hd_Blend : PySem.W.hasDictIn K C_Blend = true)
    (po_Blend : PySem.W.plainOver K C_Blend = true)
    (sa_Blend : PySem.W.findIn K (.ref C_Blend) "__setattr__" = some (some (.builtin "object.__setattr__")))
    (aC_Learner : PySem.W.nsIn K mainGlobals "Learner" = some (some (.ref C_Learner)))
    (pg_Learner : PySem.W.plainGet K C_Learner Str.empty = true)
    (hd_Learner : PySem.W.hasDictIn K C_Learner = true)
    (po_Learner : PySem.W.plainOver K C_Learner = true)
    (sa_Learner : PySem.W.findIn K (.ref C_Learner) "__setattr__" = some (some (.builtin "object.__setattr__")))
    (aC_Plain : PySem.W.nsIn K mainGlobals "Plain" = some (some (.ref C_Plain)))
    (pg_Plain : PySem.W.plainGet K C_Plain Str.empty = true)
    (hd_Plain : PySem.W.hasDictIn K C_Plain = true)
    (po_Plain : PySem.W.plainOver K C_Plain = true)
    (sa_Plain : PySem.W.findIn K (.ref C_Plain) "__setattr__" = some (some (.builtin "object.__setattr__")))
    (aC_Shares : PySem.W.nsIn K mainGlobals "Shares" = some (some (.ref C_Shares)))
    (pg_Shares : PySem.W.plainGet K C_Shares Str.empty = true)
    (hd_Shares : PySem.W.hasDictIn K C_Shares = true)
    (po_Shares : PySem.W.plainOver K C_Shares = true)
    (sa_Shares : PySem.W.findIn K (.ref C_Shares) "__setattr__" = some (some (.builtin "object.__setattr__")))
    (aC_Writer : PySem.W.nsIn K mainGlobals "Writer" = some (some (.ref C_Writer)))
    (pg_Writer : PySem.W.plainGet K C_Writer Str.empty = true)
    (hd_Writer : PySem.W.hasDictIn K C_Writer = true)
    (po_Writer : PySem.W.plainOver K C_Writer = true)
    (sa_Writer : PySem.W.findIn K (.ref C_Writer) "__setattr__" = some (some (.builtin "object.__setattr__")))
    (xb_isinstance : PySem.W.nsIn K mainGlobals "isinstance" = some none)
    (xb_bool : PySem.W.nsIn K mainGlobals "bool" = some none)
    (xb_int : PySem.W.nsIn K mainGlobals "int" = some none)
    (xn_Shares_signs : PySem.W.findIn K (.ref C_Shares) "signs" = some none)
    (xn_Shares_tree : PySem.W.findIn K (.ref C_Shares) "tree" = some none)
    (xk_MOST_COUNT : PySem.W.nsIn K mainGlobals "MOST_COUNT" = some (some (.int (4000) t_MOST_COUNT)))
    (xb_len : PySem.W.nsIn K mainGlobals "len" = some none)
    (xk_MOST_SIGNS : PySem.W.nsIn K mainGlobals "MOST_SIGNS" = some (some (.int (8) t_MOST_SIGNS)))
    (xb_range : PySem.W.nsIn K mainGlobals "range" = some none)
    (xk_MOST_LIMIT : PySem.W.nsIn K mainGlobals "MOST_LIMIT" = some (some (.int (200) t_MOST_LIMIT)))
    (xk_MOST_STEP : PySem.W.nsIn K mainGlobals "MOST_STEP" = some (some (.int (20) t_MOST_STEP)))
    (xk_BLEND : PySem.W.nsIn K mainGlobals "BLEND" = some (some (.str "blend" t_BLEND)))
    (xk_AHEAD : PySem.W.nsIn K mainGlobals "AHEAD" = some (some (.str "ahead" t_AHEAD)))
    (xk_LEARN : PySem.W.nsIn K mainGlobals "LEARN" = some (some (.str "learn" t_LEARN)))
    (xk_PLAIN : PySem.W.nsIn K mainGlobals "PLAIN" = some (some (.str "plain" t_PLAIN)))
    (xb_sum : PySem.W.nsIn K mainGlobals "sum" = some none)
    (xk_MOST_PLAIN : PySem.W.nsIn K mainGlobals "MOST_PLAIN" = some (some (.int (60) t_MOST_PLAIN)))
    (xb_tuple : PySem.W.nsIn K mainGlobals "tuple" = some none)
    (xk_MOST_WHOLE : PySem.W.nsIn K mainGlobals "MOST_WHOLE" = some (some (.int (4000) t_MOST_WHOLE)))
    (xk_MOST_WEIGHT : PySem.W.nsIn K mainGlobals "MOST_WEIGHT" = some (some (.int (5) t_MOST_WEIGHT)))
    (xk_MOST_ORDER : PySem.W.nsIn K mainGlobals "MOST_ORDER" = some (some (.int (2) t_MOST_ORDER)))
    (xb_str : PySem.W.nsIn K mainGlobals "str" = some none)
    (xk_MOST_DEEP : PySem.W.nsIn K mainGlobals "MOST_DEEP" = some (some (.int (3) t_MOST_DEEP)))
    (xn_Plain_here : PySem.W.findIn K (.ref C_Plain) "here" = some none)
    (xn_Learner_here : PySem.W.findIn K (.ref C_Learner) "here" = some none)
    (xn_Learner_step : PySem.W.findIn K (.ref C_Learner) "step" = some none)
    (xn_Learner_limit : PySem.W.findIn K (.ref C_Learner) "limit" = some none)
    (xn_Ahead_order : PySem.W.findIn K (.ref C_Ahead) "order" = some none)
    (xn_Ahead_numbers : PySem.W.findIn K (.ref C_Ahead) "numbers" = some none)
    (xn_Ahead_last : PySem.W.findIn K (.ref C_Ahead) "last" = some none)
    (xn_Ahead_known : PySem.W.findIn K (.ref C_Ahead) "known" = some none)
    (xn_Blend_one : PySem.W.findIn K (.ref C_Blend) "one" = some none)
    (xn_Blend_other : PySem.W.findIn K (.ref C_Blend) "other" = some none)
    (xn_Blend_weight : PySem.W.findIn K (.ref C_Blend) "weight" = some none)
    (xb_list : PySem.W.nsIn K mainGlobals "list" = some none)
    (xb_zip : PySem.W.nsIn K mainGlobals "zip" = some none)
    (xk_MOST_ROW : PySem.W.nsIn K mainGlobals "MOST_ROW" = some (some (.int (60) t_MOST_ROW)))
    (xk_MOST_ROOM : PySem.W.nsIn K mainGlobals "MOST_ROOM" = some (some (.int (20) t_MOST_ROOM)))
    (xk_LEAST_ROOM : PySem.W.nsIn K mainGlobals "LEAST_ROOM" = some (some (.int (4) t_LEAST_ROOM)))
    (xn_Writer_wait : PySem.W.findIn K (.ref C_Writer) "wait" = some none)
    (xn_Writer_low : PySem.W.findIn K (.ref C_Writer) "low" = some none)
    (xn_Writer_sure : PySem.W.findIn K (.ref C_Writer) "sure" = some none)
    (xn_Writer_full : PySem.W.findIn K (.ref C_Writer) "full" = some none)
    (xn_Writer_width : PySem.W.findIn K (.ref C_Writer) "width" = some none)
    (xn_Writer_signs : PySem.W.findIn K (.ref C_Writer) "signs" = some none)
    (xn_Writer_mind : PySem.W.findIn K (.ref C_Writer) "mind" = some none)
    (xn_Writer_room : PySem.W.findIn K (.ref C_Writer) "room" = some none)
    (xn_Writer_many : PySem.W.findIn K (.ref C_Writer) "many" = some none)
    (x1xc_BadCount : PySem.W.nsIn K mainGlobals "BadCount" = some (some (.ref C_BadCount)))
    (x2xc_BadCount : PySem.W.excIn K C_BadCount [.type "ValueError", .type "Exception", .type "BaseException", .type "object"] "ValueError.__new__" = true)
    (x3xc_BadCount : PySem.W.keepIn K (.ref C_BadCount) = true)
    (x4xc_BadCount : PySem.W.subIn K (.ref C_BadCount) (.type "BaseException") = some true)
    (x5xc_BadCount : PySem.W.typeIn K (.ref C_BadCount) = some (.type "type"))
    (x6xc_BadCount : PySem.W.isClsIn K C_BadCount = true)
    (x7xc_BadCount : PySem.W.subIn K (.ref C_BadCount) (.ref C_BadCount) = some true)
    (x1xc_BadSign : PySem.W.nsIn K mainGlobals "BadSign" = some (some (.ref C_BadSign)))
    (x2xc_BadSign : PySem.W.excIn K C_BadSign [.type "ValueError", .type "Exception", .type "BaseException", .type "object"] "ValueError.__new__" = true)
    (x3xc_BadSign : PySem.W.keepIn K (.ref C_BadSign) = true)
    (x4xc_BadSign : PySem.W.subIn K (.ref C_BadSign) (.type "BaseException") = some true)
    (x5xc_BadSign : PySem.W.typeIn K (.ref C_BadSign) = some (.type "type"))
    (x6xc_BadSign : PySem.W.isClsIn K C_BadSign = true)
    (x7xc_BadSign : PySem.W.subIn K (.ref C_BadSign) (.ref C_BadSign) = some true)
    (xb_ValueError : PySem.W.nsIn K mainGlobals "ValueError" = some none)
    (xg_BadText : PySem.W.nsIn K mainGlobals "BadText" = some (some (.ref C_BadText)))
    (xg_BadNumber : PySem.W.nsIn K mainGlobals "BadNumber" = some (some (.ref C_BadNumber)))
    (xg_BadCount : PySem.W.nsIn K mainGlobals "BadCount" = some (some (.ref C_BadCount)))
    (xg_BadRoom : PySem.W.nsIn K mainGlobals "BadRoom" = some (some (.ref C_BadRoom)))
    (xg_BadCode : PySem.W.nsIn K mainGlobals "BadCode" = some (some (.ref C_BadCode)))
    (xg_BadRow : PySem.W.nsIn K mainGlobals "BadRow" = some (some (.ref C_BadRow)))
    (xg_BadShare : PySem.W.nsIn K mainGlobals "BadShare" = some (some (.ref C_BadShare)))
    (xg_BadSign : PySem.W.nsIn K mainGlobals "BadSign" = some (some (.ref C_BadSign)))
    (xg_BadModel : PySem.W.nsIn K mainGlobals "BadModel" = some (some (.ref C_BadModel)))
    (xg_StretchError : PySem.W.nsIn K mainGlobals "StretchError" = some (some (.ref C_StretchError)))
    (kc_ci_BadModel : PySem.W.isClsIn K C_BadModel = true)
    (kc_ct_BadModel : PySem.W.typeIn K (.ref C_BadModel) = some (.type "type"))
    (kc_cn_BadModel : PySem.W.nsIn K mainGlobals "BadModel" = some (some (.ref C_BadModel)))
    (kc_ci_BadSign : PySem.W.isClsIn K C_BadSign = true)
    (kc_ct_BadSign : PySem.W.typeIn K (.ref C_BadSign) = some (.type "type"))
    (kc_cn_BadSign : PySem.W.nsIn K mainGlobals "BadSign" = some (some (.ref C_BadSign)))
    (kc_ci_BadShare : PySem.W.isClsIn K C_BadShare = true)
    (kc_ct_BadShare : PySem.W.typeIn K (.ref C_BadShare) = some (.type "type"))
    (kc_cn_BadShare : PySem.W.nsIn K mainGlobals "BadShare" = some (some (.ref C_BadShare)))
    (kc_ci_BadRow : PySem.W.isClsIn K C_BadRow = true)
    (kc_ct_BadRow : PySem.W.typeIn K (.ref C_BadRow) = some (.type "type"))
    (kc_cn_BadRow : PySem.W.nsIn K mainGlobals "BadRow" = some (some (.ref C_BadRow)))
    (kc_ci_BadCode : PySem.W.isClsIn K C_BadCode = true)
    (kc_ct_BadCode : PySem.W.typeIn K (.ref C_BadCode) = some (.type "type"))
    (kc_cn_BadCode : PySem.W.nsIn K mainGlobals "BadCode" = some (some (.ref C_BadCode)))
    (kc_ci_BadRoom : PySem.W.isClsIn K C_BadRoom = true)
    (kc_ct_BadRoom : PySem.W.typeIn K (.ref C_BadRoom) = some (.type "type"))
    (kc_cn_BadRoom : PySem.W.nsIn K mainGlobals "BadRoom" = some (some (.ref C_BadRoom)))
    (kc_ci_BadCount : PySem.W.isClsIn K C_BadCount = true)
    (kc_ct_BadCount : PySem.W.typeIn K (.ref C_BadCount) = some (.type "type"))
    (kc_cn_BadCount : PySem.W.nsIn K mainGlobals "BadCount" = some (some (.ref C_BadCount)))
    (kc_ci_BadNumber : PySem.W.isClsIn K C_BadNumber = true)
    (kc_ct_BadNumber : PySem.W.typeIn K (.ref C_BadNumber) = some (.type "type"))
    (kc_cn_BadNumber : PySem.W.nsIn K mainGlobals "BadNumber" = some (some (.ref C_BadNumber)))
    (kc_ci_BadText : PySem.W.isClsIn K C_BadText = true)
    (kc_ct_BadText : PySem.W.typeIn K (.ref C_BadText) = some (.type "type"))
    (kc_cn_BadText : PySem.W.nsIn K mainGlobals "BadText" = some (some (.ref C_BadText)))
    (kc_ci_StretchError : PySem.W.isClsIn K C_StretchError = true)
    (kc_ct_StretchError : PySem.W.typeIn K (.ref C_StretchError) = some (.type "type"))
    (kc_cn_StretchError : PySem.W.nsIn K mainGlobals "StretchError" = some (some (.ref C_StretchError)))
    (kc_sb : PySem.W.subIn K (.ref C_StretchError) (.type "BaseException") = some true)
    (kc_sd : PySem.W.hasDictIn K C_StretchError = true)
    (ks_BadSign_BadModel : PySem.W.subIn K (.ref C_BadSign) (.ref C_BadModel) = some false)
    (ks_BadSign_BadSign : PySem.W.subIn K (.ref C_BadSign) (.ref C_BadSign) = some true)
    (ks_BadSign_BadShare : PySem.W.subIn K (.ref C_BadSign) (.ref C_BadShare) = some false)
    (ks_BadSign_BadRow : PySem.W.subIn K (.ref C_BadSign) (.ref C_BadRow) = some false)
    (ks_BadSign_BadCode : PySem.W.subIn K (.ref C_BadSign) (.ref C_BadCode) = some false)
    (ks_BadSign_BadRoom : PySem.W.subIn K (.ref C_BadSign) (.ref C_BadRoom) = some false)
    (ks_BadSign_BadCount : PySem.W.subIn K (.ref C_BadSign) (.ref C_BadCount) = some false)
    (ks_BadSign_BadNumber : PySem.W.subIn K (.ref C_BadSign) (.ref C_BadNumber) = some false)
    (ks_BadSign_BadText : PySem.W.subIn K (.ref C_BadSign) (.ref C_BadText) = some false)
    (ks_BadSign_S : PySem.W.subIn K (.ref C_BadSign) (.ref C_StretchError) = some true)
    (ks_BadSign_V : PySem.W.subIn K (.ref C_BadSign) (.type "ValueError") = some true)
    (ke_BadSign_hg : PySem.W.findIn K (.ref C_BadSign) "__getattribute__" = some (some (.builtin "BaseException.__getattribute__")))
    (ke_BadSign_hk : PySem.W.findIn K (.ref C_BadSign) "__getattr__" = some none)
    (ke_BadSign_hs : PySem.W.subIn K (.ref C_BadSign) (.type "BaseException") = some true)
    (ke_BadSign_hd : PySem.W.hasDictIn K C_BadSign = true)
    (ke_BadSign_ha : PySem.W.findIn K (.ref C_BadSign) "__class__" = some (some (.builtin "object.__class__")))
    (ke_hn : PySem.W.specialIn K (.builtin "object.__class__") "__get__" = some (some (.builtin "getset_descriptor.__get__")))
    (ke_ht : PySem.W.takesIn K (.builtin "object.__class__") = some true)
    (ke_BadSign_hm : PySem.W.mroIn K C_BadSign (.type "object") = some true)
    (ks_BadCount_BadModel : PySem.W.subIn K (.ref C_BadCount) (.ref C_BadModel) = some false)
    (ks_BadCount_BadSign : PySem.W.subIn K (.ref C_BadCount) (.ref C_BadSign) = some false)
    (ks_BadCount_BadShare : PySem.W.subIn K (.ref C_BadCount) (.ref C_BadShare) = some false)
    (ks_BadCount_BadRow : PySem.W.subIn K (.ref C_BadCount) (.ref C_BadRow) = some false)
    (ks_BadCount_BadCode : PySem.W.subIn K (.ref C_BadCount) (.ref C_BadCode) = some false)
    (ks_BadCount_BadRoom : PySem.W.subIn K (.ref C_BadCount) (.ref C_BadRoom) = some false)
    (ks_BadCount_BadCount : PySem.W.subIn K (.ref C_BadCount) (.ref C_BadCount) = some true)
    (ks_BadCount_BadNumber : PySem.W.subIn K (.ref C_BadCount) (.ref C_BadNumber) = some false)
    (ks_BadCount_BadText : PySem.W.subIn K (.ref C_BadCount) (.ref C_BadText) = some false)
    (ks_BadCount_S : PySem.W.subIn K (.ref C_BadCount) (.ref C_StretchError) = some true)
    (ks_BadCount_V : PySem.W.subIn K (.ref C_BadCount) (.type "ValueError") = some true)
    (ke_BadCount_hg : PySem.W.findIn K (.ref C_BadCount) "__getattribute__" = some (some (.builtin "BaseException.__getattribute__")))
    (ke_BadCount_hk : PySem.W.findIn K (.ref C_BadCount) "__getattr__" = some none)
    (ke_BadCount_hs : PySem.W.subIn K (.ref C_BadCount) (.type "BaseException") = some true)
    (ke_BadCount_hd : PySem.W.hasDictIn K C_BadCount = true)
    (ke_BadCount_ha : PySem.W.findIn K (.ref C_BadCount) "__class__" = some (some (.builtin "object.__class__")))
    (ke_BadCount_hm : PySem.W.mroIn K C_BadCount (.type "object") = some true)
    (a_is_within : PySem.W.nsIn K mainGlobals "is_within" = some (some (.ref f_is_within)))
    (d_is_within : FnD K "is_within" "is_within" s_is_within f_is_within)
    (a_Shares_climb : PySem.W.findIn K (.ref C_Shares) "climb" = some (some (.ref f_Shares_climb)))
    (i_Shares_climb : PySem.W.isFn K (.ref f_Shares_climb) = true)
    (d_Shares_climb : FnD K "climb" "Shares.climb" s_Shares_climb f_Shares_climb)
    (a_Shares_need_sign : PySem.W.findIn K (.ref C_Shares) "need_sign" = some (some (.ref f_Shares_need_sign)))
    (i_Shares_need_sign : PySem.W.isFn K (.ref f_Shares_need_sign) = true)
    (d_Shares_need_sign : FnD K "need_sign" "Shares.need_sign" s_Shares_need_sign f_Shares_need_sign)
    (a_need_counts : PySem.W.nsIn K mainGlobals "need_counts" = some (some (.ref f_need_counts)))
    (d_need_counts : FnD K "need_counts" "need_counts" s_need_counts f_need_counts)
    (a_Shares_ahead_of : PySem.W.findIn K (.ref C_Shares) "ahead_of" = some (some (.ref f_Shares_ahead_of)))
    (i_Shares_ahead_of : PySem.W.isFn K (.ref f_Shares_ahead_of) = true)
    (d_Shares_ahead_of : FnD K "ahead_of" "Shares.ahead_of" s_Shares_ahead_of f_Shares_ahead_of)
    (a_Shares_many_of : PySem.W.findIn K (.ref C_Shares) "many_of" = some (some (.ref f_Shares_many_of)))
    (i_Shares_many_of : PySem.W.isFn K (.ref f_Shares_many_of) = true)
    (d_Shares_many_of : FnD K "many_of" "Shares.many_of" s_Shares_many_of f_Shares_many_of)
    (a_Shares_whole : PySem.W.findIn K (.ref C_Shares) "whole" = some (some (.ref f_Shares_whole)))
    (i_Shares_whole : PySem.W.isFn K (.ref f_Shares_whole) = true)
    (d_Shares_whole : FnD K "whole" "Shares.whole" s_Shares_whole f_Shares_whole)
    (a_Shares_init : PySem.W.findIn K (.ref C_Shares) "__init__" = some (some (.ref f_Shares_init)))
    (i_Shares_init : PySem.W.isFn K (.ref f_Shares_init) = true)
    (mk_Shares : PySem.W.makesIn K C_Shares = true)
    (kc_Shares : PySem.W.keepIn K (.ref C_Shares) = true)
    (d_Shares_init : FnD K "__init__" "Shares.__init__" s_Shares_init f_Shares_init)
    (a_Shares_grow : PySem.W.findIn K (.ref C_Shares) "grow" = some (some (.ref f_Shares_grow)))
    (i_Shares_grow : PySem.W.isFn K (.ref f_Shares_grow) = true)
    (d_Shares_grow : FnD K "grow" "Shares.grow" s_Shares_grow f_Shares_grow)
    (a_Shares_all_counts : PySem.W.findIn K (.ref C_Shares) "all_counts" = some (some (.ref f_Shares_all_counts)))
    (i_Shares_all_counts : PySem.W.isFn K (.ref f_Shares_all_counts) = true)
    (d_Shares_all_counts : FnD K "all_counts" "Shares.all_counts" s_Shares_all_counts f_Shares_all_counts)
    (a_Shares_halve : PySem.W.findIn K (.ref C_Shares) "halve" = some (some (.ref f_Shares_halve)))
    (i_Shares_halve : PySem.W.isFn K (.ref f_Shares_halve) = true)
    (d_Shares_halve : FnD K "halve" "Shares.halve" s_Shares_halve f_Shares_halve)
    (a_l_taken : PySem.W.nsIn K mainGlobals "_law_taken" = some (some (.ref f_l_taken)))
    (d_l_taken : FnD K "_law_taken" "_law_taken" s_l_taken f_l_taken)
    (a_are_learning : PySem.W.nsIn K mainGlobals "are_learning" = some (some (.ref f_are_learning)))
    (d_are_learning : FnD K "are_learning" "are_learning" s_are_learning f_are_learning)
    (a_signs_of : PySem.W.nsIn K mainGlobals "signs_of" = some (some (.ref f_signs_of)))
    (d_signs_of : FnD K "signs_of" "signs_of" s_signs_of f_signs_of)
    (a_most_of : PySem.W.nsIn K mainGlobals "most_of" = some (some (.ref f_most_of)))
    (d_most_of : FnD K "most_of" "most_of" s_most_of f_most_of)
    (a_is_plain : PySem.W.nsIn K mainGlobals "is_plain" = some (some (.ref f_is_plain)))
    (d_is_plain : FnD K "is_plain" "is_plain" s_is_plain f_is_plain)
    (a_is_model : PySem.W.nsIn K mainGlobals "is_model" = some (some (.ref f_is_model)))
    (d_is_model : FnD K "is_model" "is_model" s_is_model f_is_model)
    (a_need_model : PySem.W.nsIn K mainGlobals "need_model" = some (some (.ref f_need_model)))
    (d_need_model : FnD K "need_model" "need_model" s_need_model f_need_model)
    (a_Plain_init : PySem.W.findIn K (.ref C_Plain) "__init__" = some (some (.ref f_Plain_init)))
    (i_Plain_init : PySem.W.isFn K (.ref f_Plain_init) = true)
    (mk_Plain : PySem.W.makesIn K C_Plain = true)
    (kc_Plain : PySem.W.keepIn K (.ref C_Plain) = true)
    (d_Plain_init : FnD K "__init__" "Plain.__init__" s_Plain_init f_Plain_init)
    (a_Plain_now : PySem.W.findIn K (.ref C_Plain) "now" = some (some (.ref f_Plain_now)))
    (i_Plain_now : PySem.W.isFn K (.ref f_Plain_now) = true)
    (d_Plain_now : FnD K "now" "Plain.now" s_Plain_now f_Plain_now)
    (a_Plain_learn : PySem.W.findIn K (.ref C_Plain) "learn" = some (some (.ref f_Plain_learn)))
    (i_Plain_learn : PySem.W.isFn K (.ref f_Plain_learn) = true)
    (d_Plain_learn : FnD K "learn" "Plain.learn" s_Plain_learn f_Plain_learn)
    (a_Learner_init : PySem.W.findIn K (.ref C_Learner) "__init__" = some (some (.ref f_Learner_init)))
    (i_Learner_init : PySem.W.isFn K (.ref f_Learner_init) = true)
    (mk_Learner : PySem.W.makesIn K C_Learner = true)
    (kc_Learner : PySem.W.keepIn K (.ref C_Learner) = true)
    (d_Learner_init : FnD K "__init__" "Learner.__init__" s_Learner_init f_Learner_init)
    (a_Learner_now : PySem.W.findIn K (.ref C_Learner) "now" = some (some (.ref f_Learner_now)))
    (i_Learner_now : PySem.W.isFn K (.ref f_Learner_now) = true)
    (d_Learner_now : FnD K "now" "Learner.now" s_Learner_now f_Learner_now)
    (a_Learner_learn : PySem.W.findIn K (.ref C_Learner) "learn" = some (some (.ref f_Learner_learn)))
    (i_Learner_learn : PySem.W.isFn K (.ref f_Learner_learn) = true)
    (d_Learner_learn : FnD K "learn" "Learner.learn" s_Learner_learn f_Learner_learn)
    (a_Ahead_init : PySem.W.findIn K (.ref C_Ahead) "__init__" = some (some (.ref f_Ahead_init)))
    (i_Ahead_init : PySem.W.isFn K (.ref f_Ahead_init) = true)
    (mk_Ahead : PySem.W.makesIn K C_Ahead = true)
    (kc_Ahead : PySem.W.keepIn K (.ref C_Ahead) = true)
    (d_Ahead_init : FnD K "__init__" "Ahead.__init__" s_Ahead_init f_Ahead_init)
    (a_Ahead_learner : PySem.W.findIn K (.ref C_Ahead) "learner" = some (some (.ref f_Ahead_learner)))
    (i_Ahead_learner : PySem.W.isFn K (.ref f_Ahead_learner) = true)
    (d_Ahead_learner : FnD K "learner" "Ahead.learner" s_Ahead_learner f_Ahead_learner)
    (a_Ahead_now : PySem.W.findIn K (.ref C_Ahead) "now" = some (some (.ref f_Ahead_now)))
    (i_Ahead_now : PySem.W.isFn K (.ref f_Ahead_now) = true)
    (d_Ahead_now : FnD K "now" "Ahead.now" s_Ahead_now f_Ahead_now)
    (a_Ahead_learn : PySem.W.findIn K (.ref C_Ahead) "learn" = some (some (.ref f_Ahead_learn)))
    (i_Ahead_learn : PySem.W.isFn K (.ref f_Ahead_learn) = true)
    (d_Ahead_learn : FnD K "learn" "Ahead.learn" s_Ahead_learn f_Ahead_learn)
    (a_Blend_init : PySem.W.findIn K (.ref C_Blend) "__init__" = some (some (.ref f_Blend_init)))
    (i_Blend_init : PySem.W.isFn K (.ref f_Blend_init) = true)
    (mk_Blend : PySem.W.makesIn K C_Blend = true)
    (kc_Blend : PySem.W.keepIn K (.ref C_Blend) = true)
    (d_Blend_init : FnD K "__init__" "Blend.__init__" s_Blend_init f_Blend_init)
    (a_Blend_now : PySem.W.findIn K (.ref C_Blend) "now" = some (some (.ref f_Blend_now)))
    (i_Blend_now : PySem.W.isFn K (.ref f_Blend_now) = true)
    (d_Blend_now : FnD K "now" "Blend.now" s_Blend_now f_Blend_now)
    (a_Blend_learn : PySem.W.findIn K (.ref C_Blend) "learn" = some (some (.ref f_Blend_learn)))
    (i_Blend_learn : PySem.W.isFn K (.ref f_Blend_learn) = true)
    (d_Blend_learn : FnD K "learn" "Blend.learn" s_Blend_learn f_Blend_learn)
    (a_begun : PySem.W.nsIn K mainGlobals "begun" = some (some (.ref f_begun)))
    (d_begun : FnD K "begun" "begun" s_begun f_begun)
    (a_l_most : PySem.W.nsIn K mainGlobals "_law_most" = some (some (.ref f_l_most)))
    (d_l_most : FnD K "_law_most" "_law_most" s_l_most f_l_most)
    (a_l_model : PySem.W.nsIn K mainGlobals "_law_model" = some (some (.ref f_l_model)))
    (d_l_model : FnD K "_law_model" "_law_model" s_l_model f_l_model)
    (a_l_any : PySem.W.nsIn K mainGlobals "_law_any" = some (some (.ref f_l_any)))
    (d_l_any : FnD K "_law_any" "_law_any" s_l_any f_l_any)
    (a_l_signs : PySem.W.nsIn K mainGlobals "_law_signs" = some (some (.ref f_l_signs)))
    (d_l_signs : FnD K "_law_signs" "_law_signs" s_l_signs f_l_signs)
    (a_need_row : PySem.W.nsIn K mainGlobals "need_row" = some (some (.ref f_need_row)))
    (d_need_row : FnD K "need_row" "need_row" s_need_row f_need_row)
    (a_need_room : PySem.W.nsIn K mainGlobals "need_room" = some (some (.ref f_need_room)))
    (d_need_room : FnD K "need_room" "need_room" s_need_room f_need_room)
    (a_l_room : PySem.W.nsIn K mainGlobals "_law_room" = some (some (.ref f_l_room)))
    (d_l_room : FnD K "_law_room" "_law_room" s_l_room f_l_room)
    (a_digits_of : PySem.W.nsIn K mainGlobals "digits_of" = some (some (.ref f_digits_of)))
    (d_digits_of : FnD K "digits_of" "digits_of" s_digits_of f_digits_of)
    (a_fewest : PySem.W.nsIn K mainGlobals "fewest" = some (some (.ref f_fewest)))
    (d_fewest : FnD K "fewest" "fewest" s_fewest f_fewest)
    (a_Writer_carried : PySem.W.findIn K (.ref C_Writer) "carried" = some (some (.ref f_Writer_carried)))
    (i_Writer_carried : PySem.W.isFn K (.ref f_Writer_carried) = true)
    (d_Writer_carried : FnD K "carried" "Writer.carried" s_Writer_carried f_Writer_carried)
    (a_Writer_waiting : PySem.W.findIn K (.ref C_Writer) "waiting" = some (some (.ref f_Writer_waiting)))
    (i_Writer_waiting : PySem.W.isFn K (.ref f_Writer_waiting) = true)
    (d_Writer_waiting : FnD K "waiting" "Writer.waiting" s_Writer_waiting f_Writer_waiting)
    (a_Writer_carry : PySem.W.findIn K (.ref C_Writer) "carry" = some (some (.ref f_Writer_carry)))
    (i_Writer_carry : PySem.W.isFn K (.ref f_Writer_carry) = true)
    (d_Writer_carry : FnD K "carry" "Writer.carry" s_Writer_carry f_Writer_carry)
    (a_Writer_shift : PySem.W.findIn K (.ref C_Writer) "shift" = some (some (.ref f_Writer_shift)))
    (i_Writer_shift : PySem.W.isFn K (.ref f_Writer_shift) = true)
    (d_Writer_shift : FnD K "shift" "Writer.shift" s_Writer_shift f_Writer_shift)
    (a_Writer_init : PySem.W.findIn K (.ref C_Writer) "__init__" = some (some (.ref f_Writer_init)))
    (i_Writer_init : PySem.W.isFn K (.ref f_Writer_init) = true)
    (mk_Writer : PySem.W.makesIn K C_Writer = true)
    (kc_Writer : PySem.W.keepIn K (.ref C_Writer) = true)
    (d_Writer_init : FnD K "__init__" "Writer.__init__" s_Writer_init f_Writer_init)
    (a_Writer_put : PySem.W.findIn K (.ref C_Writer) "put" = some (some (.ref f_Writer_put)))
    (i_Writer_put : PySem.W.isFn K (.ref f_Writer_put) = true)
    (d_Writer_put : FnD K "put" "Writer.put" s_Writer_put f_Writer_put)
    (a_Writer_end : PySem.W.findIn K (.ref C_Writer) "end" = some (some (.ref f_Writer_end)))
    (i_Writer_end : PySem.W.isFn K (.ref f_Writer_end) = true)
    (d_Writer_end : FnD K "end" "Writer.end" s_Writer_end f_Writer_end)
    (a_written : PySem.W.nsIn K mainGlobals "written" = some (some (.ref f_written)))
    (d_written : FnD K "written" "written" s_written f_written)
    (a_Writer_digits : PySem.W.findIn K (.ref C_Writer) "digits" = some (some (.ref f_Writer_digits)))
    (i_Writer_digits : PySem.W.isFn K (.ref f_Writer_digits) = true)
    (d_Writer_digits : FnD K "digits" "Writer.digits" s_Writer_digits f_Writer_digits)
    (a_l_word : PySem.W.nsIn K mainGlobals "_law_word" = some (some (.ref f_l_word)))
    (d_l_word : FnD K "_law_word" "_law_word" s_l_word f_l_word)
    (a_law : PySem.W.nsIn K mainGlobals "law" = some (some (.ref f_law)))
    (d_law : FnE K "law" "law" s_law f_law C_tab_law)
    (tab_law : PySem.W.tabIn K "law" = some (C_tab_law, P_tab_law))
    (nt_law : K.lookup P_tab_law = none) :
    LawHas ["law"] P w K mg 20 fa := by
  have e := hfa.symm.trans (PySem.W.mg_of X G a_law)
  cases e
  have cl_Ahead : Cls K C_Ahead := ⟨pg_Ahead, hd_Ahead, po_Ahead, sa_Ahead⟩
  have cl_Blend : Cls K C_Blend := ⟨pg_Blend, hd_Blend, po_Blend, sa_Blend⟩
  have cl_Learner : Cls K C_Learner := ⟨pg_Learner, hd_Learner, po_Learner, sa_Learner⟩
  have cl_Plain : Cls K C_Plain := ⟨pg_Plain, hd_Plain, po_Plain, sa_Plain⟩
  have cl_Shares : Cls K C_Shares := ⟨pg_Shares, hd_Shares, po_Shares, sa_Shares⟩
  have cl_Writer : Cls K C_Writer := ⟨pg_Writer, hd_Writer, po_Writer, sa_Writer⟩
  have b_isinstance : mg "isinstance" = none := PySem.W.mg_none_of X G xb_isinstance
  have b_bool : mg "bool" = none := PySem.W.mg_none_of X G xb_bool
  have b_int : mg "int" = none := PySem.W.mg_none_of X G xb_int
  have n_Shares_signs : NoAttr K C_Shares "signs" := xn_Shares_signs
  have n_Shares_tree : NoAttr K C_Shares "tree" := xn_Shares_tree
  have k_MOST_COUNT : mg "MOST_COUNT" = some (.int (4000) t_MOST_COUNT) := PySem.W.mg_of X G xk_MOST_COUNT
  have b_len : mg "len" = none := PySem.W.mg_none_of X G xb_len
  have k_MOST_SIGNS : mg "MOST_SIGNS" = some (.int (8) t_MOST_SIGNS) := PySem.W.mg_of X G xk_MOST_SIGNS
  have b_range : mg "range" = none := PySem.W.mg_none_of X G xb_range
  have k_MOST_LIMIT : mg "MOST_LIMIT" = some (.int (200) t_MOST_LIMIT) := PySem.W.mg_of X G xk_MOST_LIMIT
  have k_MOST_STEP : mg "MOST_STEP" = some (.int (20) t_MOST_STEP) := PySem.W.mg_of X G xk_MOST_STEP
  have k_BLEND : mg "BLEND" = some (.str "blend" t_BLEND) := PySem.W.mg_of X G xk_BLEND
  have k_AHEAD : mg "AHEAD" = some (.str "ahead" t_AHEAD) := PySem.W.mg_of X G xk_AHEAD
  have k_LEARN : mg "LEARN" = some (.str "learn" t_LEARN) := PySem.W.mg_of X G xk_LEARN
  have k_PLAIN : mg "PLAIN" = some (.str "plain" t_PLAIN) := PySem.W.mg_of X G xk_PLAIN
  have b_sum : mg "sum" = none := PySem.W.mg_none_of X G xb_sum
  have k_MOST_PLAIN : mg "MOST_PLAIN" = some (.int (60) t_MOST_PLAIN) := PySem.W.mg_of X G xk_MOST_PLAIN
  have b_tuple : mg "tuple" = none := PySem.W.mg_none_of X G xb_tuple
  have k_MOST_WHOLE : mg "MOST_WHOLE" = some (.int (4000) t_MOST_WHOLE) := PySem.W.mg_of X G xk_MOST_WHOLE
  have k_MOST_WEIGHT : mg "MOST_WEIGHT" = some (.int (5) t_MOST_WEIGHT) := PySem.W.mg_of X G xk_MOST_WEIGHT
  have k_MOST_ORDER : mg "MOST_ORDER" = some (.int (2) t_MOST_ORDER) := PySem.W.mg_of X G xk_MOST_ORDER
  have b_str : mg "str" = none := PySem.W.mg_none_of X G xb_str
  have k_MOST_DEEP : mg "MOST_DEEP" = some (.int (3) t_MOST_DEEP) := PySem.W.mg_of X G xk_MOST_DEEP
  have n_Plain_here : NoAttr K C_Plain "here" := xn_Plain_here
  have n_Learner_here : NoAttr K C_Learner "here" := xn_Learner_here
  have n_Learner_step : NoAttr K C_Learner "step" := xn_Learner_step
  have n_Learner_limit : NoAttr K C_Learner "limit" := xn_Learner_limit
  have n_Ahead_order : NoAttr K C_Ahead "order" := xn_Ahead_order
  have n_Ahead_numbers : NoAttr K C_Ahead "numbers" := xn_Ahead_numbers
  have n_Ahead_last : NoAttr K C_Ahead "last" := xn_Ahead_last
  have n_Ahead_known : NoAttr K C_Ahead "known" := xn_Ahead_known
  have n_Blend_one : NoAttr K C_Blend "one" := xn_Blend_one
  have n_Blend_other : NoAttr K C_Blend "other" := xn_Blend_other
  have n_Blend_weight : NoAttr K C_Blend "weight" := xn_Blend_weight
  have b_list : mg "list" = none := PySem.W.mg_none_of X G xb_list
  have b_zip : mg "zip" = none := PySem.W.mg_none_of X G xb_zip
  have k_MOST_ROW : mg "MOST_ROW" = some (.int (60) t_MOST_ROW) := PySem.W.mg_of X G xk_MOST_ROW
  have k_MOST_ROOM : mg "MOST_ROOM" = some (.int (20) t_MOST_ROOM) := PySem.W.mg_of X G xk_MOST_ROOM
  have k_LEAST_ROOM : mg "LEAST_ROOM" = some (.int (4) t_LEAST_ROOM) := PySem.W.mg_of X G xk_LEAST_ROOM
  have n_Writer_wait : NoAttr K C_Writer "wait" := xn_Writer_wait
  have n_Writer_low : NoAttr K C_Writer "low" := xn_Writer_low
  have n_Writer_sure : NoAttr K C_Writer "sure" := xn_Writer_sure
  have n_Writer_full : NoAttr K C_Writer "full" := xn_Writer_full
  have n_Writer_width : NoAttr K C_Writer "width" := xn_Writer_width
  have n_Writer_signs : NoAttr K C_Writer "signs" := xn_Writer_signs
  have n_Writer_mind : NoAttr K C_Writer "mind" := xn_Writer_mind
  have n_Writer_room : NoAttr K C_Writer "room" := xn_Writer_room
  have n_Writer_many : NoAttr K C_Writer "many" := xn_Writer_many
  have xc_BadCount : ExcD K mg "BadCount" C_BadCount := ⟨PySem.W.mg_of X G x1xc_BadCount, x2xc_BadCount, x3xc_BadCount, x4xc_BadCount, x5xc_BadCount, exm_own x4xc_BadCount x6xc_BadCount x5xc_BadCount x7xc_BadCount⟩
  have xc_BadSign : ExcD K mg "BadSign" C_BadSign := ⟨PySem.W.mg_of X G x1xc_BadSign, x2xc_BadSign, x3xc_BadSign, x4xc_BadSign, x5xc_BadSign, exm_own x4xc_BadSign x6xc_BadSign x5xc_BadSign x7xc_BadSign⟩
  have b_ValueError : mg "ValueError" = none := PySem.W.mg_none_of X G xb_ValueError
  have g_BadText : mg "BadText" = some (.ref C_BadText) := PySem.W.mg_of X G xg_BadText
  have g_BadNumber : mg "BadNumber" = some (.ref C_BadNumber) := PySem.W.mg_of X G xg_BadNumber
  have g_BadCount : mg "BadCount" = some (.ref C_BadCount) := PySem.W.mg_of X G xg_BadCount
  have g_BadRoom : mg "BadRoom" = some (.ref C_BadRoom) := PySem.W.mg_of X G xg_BadRoom
  have g_BadCode : mg "BadCode" = some (.ref C_BadCode) := PySem.W.mg_of X G xg_BadCode
  have g_BadRow : mg "BadRow" = some (.ref C_BadRow) := PySem.W.mg_of X G xg_BadRow
  have g_BadShare : mg "BadShare" = some (.ref C_BadShare) := PySem.W.mg_of X G xg_BadShare
  have g_BadSign : mg "BadSign" = some (.ref C_BadSign) := PySem.W.mg_of X G xg_BadSign
  have g_BadModel : mg "BadModel" = some (.ref C_BadModel) := PySem.W.mg_of X G xg_BadModel
  have g_StretchError : mg "StretchError" = some (.ref C_StretchError) := PySem.W.mg_of X G xg_StretchError
  have kd_BadSign : KindD K [C_BadModel, C_BadSign, C_BadShare, C_BadRow, C_BadCode, C_BadRoom, C_BadCount, C_BadNumber, C_BadText] C_StretchError C_BadSign 1 := ⟨⟨ke_BadSign_hg, ke_BadSign_hk, ke_BadSign_hs, ke_BadSign_hd, ke_BadSign_ha, ke_hn, ke_ht, ke_BadSign_hm⟩, by decide, by decide, by decide, kind_is (kitOne_ref ks_BadSign_BadSign kc_ci_BadModel kc_ct_BadModel ks_BadSign_BadModel) (kitOne_ref ks_BadSign_BadSign kc_ci_BadSign kc_ct_BadSign ks_BadSign_BadSign) (kitOne_ref ks_BadSign_BadSign kc_ci_BadShare kc_ct_BadShare ks_BadSign_BadShare) (kitOne_ref ks_BadSign_BadSign kc_ci_BadRow kc_ct_BadRow ks_BadSign_BadRow) (kitOne_ref ks_BadSign_BadSign kc_ci_BadCode kc_ct_BadCode ks_BadSign_BadCode) (kitOne_ref ks_BadSign_BadSign kc_ci_BadRoom kc_ct_BadRoom ks_BadSign_BadRoom) (kitOne_ref ks_BadSign_BadSign kc_ci_BadCount kc_ct_BadCount ks_BadSign_BadCount) (kitOne_ref ks_BadSign_BadSign kc_ci_BadNumber kc_ct_BadNumber ks_BadSign_BadNumber) (kitOne_ref ks_BadSign_BadSign kc_ci_BadText kc_ct_BadText ks_BadSign_BadText), kitOne_val ks_BadSign_V, PySem.W.exm_ref kc_sb kc_sd kc_ct_StretchError ks_BadSign_S⟩
  have kd_BadCount : KindD K [C_BadModel, C_BadSign, C_BadShare, C_BadRow, C_BadCode, C_BadRoom, C_BadCount, C_BadNumber, C_BadText] C_StretchError C_BadCount 6 := ⟨⟨ke_BadCount_hg, ke_BadCount_hk, ke_BadCount_hs, ke_BadCount_hd, ke_BadCount_ha, ke_hn, ke_ht, ke_BadCount_hm⟩, by decide, by decide, by decide, kind_is (kitOne_ref ks_BadCount_BadCount kc_ci_BadModel kc_ct_BadModel ks_BadCount_BadModel) (kitOne_ref ks_BadCount_BadCount kc_ci_BadSign kc_ct_BadSign ks_BadCount_BadSign) (kitOne_ref ks_BadCount_BadCount kc_ci_BadShare kc_ct_BadShare ks_BadCount_BadShare) (kitOne_ref ks_BadCount_BadCount kc_ci_BadRow kc_ct_BadRow ks_BadCount_BadRow) (kitOne_ref ks_BadCount_BadCount kc_ci_BadCode kc_ct_BadCode ks_BadCount_BadCode) (kitOne_ref ks_BadCount_BadCount kc_ci_BadRoom kc_ct_BadRoom ks_BadCount_BadRoom) (kitOne_ref ks_BadCount_BadCount kc_ci_BadCount kc_ct_BadCount ks_BadCount_BadCount) (kitOne_ref ks_BadCount_BadCount kc_ci_BadNumber kc_ct_BadNumber ks_BadCount_BadNumber) (kitOne_ref ks_BadCount_BadCount kc_ci_BadText kc_ct_BadText ks_BadCount_BadText), kitOne_val ks_BadCount_V, PySem.W.exm_ref kc_sb kc_sd kc_ct_StretchError ks_BadCount_S⟩
  obtain ⟨fd_is_within, F_is_within⟩ := d_is_within.fun_
  have bd_is_within := F_is_within.binds (ps := ["number", "low", "high"]) fun _ _ _ _ _ _ us hl => match us, hl with | [_, _, _], _ => rfl
  obtain ⟨fd_Shares_climb, F_Shares_climb⟩ := d_Shares_climb.fun_
  have bd_Shares_climb := F_Shares_climb.binds (ps := ["self", "sign", "by"]) fun _ _ _ _ _ _ us hl => match us, hl with | [_, _, _], _ => rfl
  obtain ⟨fd_Shares_need_sign, F_Shares_need_sign⟩ := d_Shares_need_sign.fun_
  have bd_Shares_need_sign := F_Shares_need_sign.binds (ps := ["self", "sign", "most"]) fun _ _ _ _ _ _ us hl => match us, hl with | [_, _, _], _ => rfl
  obtain ⟨fd_need_counts, F_need_counts⟩ := d_need_counts.fun_
  have bd_need_counts := F_need_counts.binds (ps := ["counts"]) fun _ _ _ _ _ _ us hl => match us, hl with | [_], _ => rfl
  obtain ⟨fd_Shares_ahead_of, F_Shares_ahead_of⟩ := d_Shares_ahead_of.fun_
  have bd_Shares_ahead_of := F_Shares_ahead_of.binds (ps := ["self", "sign"]) fun _ _ _ _ _ _ us hl => match us, hl with | [_, _], _ => rfl
  obtain ⟨fd_Shares_many_of, F_Shares_many_of⟩ := d_Shares_many_of.fun_
  have bd_Shares_many_of := F_Shares_many_of.binds (ps := ["self", "sign"]) fun _ _ _ _ _ _ us hl => match us, hl with | [_, _], _ => rfl
  obtain ⟨fd_Shares_whole, F_Shares_whole⟩ := d_Shares_whole.fun_
  have bd_Shares_whole := F_Shares_whole.binds (ps := ["self"]) fun _ _ _ _ _ _ us hl => match us, hl with | [_], _ => rfl
  obtain ⟨fd_Shares_init, F_Shares_init⟩ := d_Shares_init.fun_
  have bd_Shares_init := F_Shares_init.binds (ps := ["self", "counts"]) fun _ _ _ _ _ _ us hl => match us, hl with | [_, _], _ => rfl
  obtain ⟨fd_Shares_grow, F_Shares_grow⟩ := d_Shares_grow.fun_
  have bd_Shares_grow := F_Shares_grow.binds (ps := ["self", "sign", "by"]) fun _ _ _ _ _ _ us hl => match us, hl with | [_, _, _], _ => rfl
  obtain ⟨fd_Shares_all_counts, F_Shares_all_counts⟩ := d_Shares_all_counts.fun_
  have bd_Shares_all_counts := F_Shares_all_counts.binds (ps := ["self"]) fun _ _ _ _ _ _ us hl => match us, hl with | [_], _ => rfl
  obtain ⟨fd_Shares_halve, F_Shares_halve⟩ := d_Shares_halve.fun_
  have bd_Shares_halve := F_Shares_halve.binds (ps := ["self"]) fun _ _ _ _ _ _ us hl => match us, hl with | [_], _ => rfl
  obtain ⟨fd_l_taken, F_l_taken⟩ := d_l_taken.fun_
  have bd_l_taken := F_l_taken.binds (ps := ["_law_row", "_law_many"]) fun _ _ _ _ _ _ us hl => match us, hl with | [_, _], _ => rfl
  obtain ⟨fd_are_learning, F_are_learning⟩ := d_are_learning.fun_
  have bd_are_learning := F_are_learning.binds (ps := ["signs", "step", "limit"]) fun _ _ _ _ _ _ us hl => match us, hl with | [_, _, _], _ => rfl
  obtain ⟨fd_signs_of, F_signs_of⟩ := d_signs_of.fun_
  have bd_signs_of := F_signs_of.binds (ps := ["model"]) fun _ _ _ _ _ _ us hl => match us, hl with | [_], _ => rfl
  obtain ⟨fd_most_of, F_most_of⟩ := d_most_of.fun_
  have bd_most_of := F_most_of.binds (ps := ["model"]) fun _ _ _ _ _ _ us hl => match us, hl with | [_], _ => rfl
  obtain ⟨fd_is_plain, F_is_plain⟩ := d_is_plain.fun_
  have bd_is_plain := F_is_plain.binds (ps := ["model"]) fun _ _ _ _ _ _ us hl => match us, hl with | [_], _ => rfl
  obtain ⟨fd_is_model, F_is_model⟩ := d_is_model.fun_
  have bd_is_model := F_is_model.binds (ps := ["model", "deep"]) fun _ _ _ _ _ _ us hl => match us, hl with | [_, _], _ => rfl
  obtain ⟨fd_need_model, F_need_model⟩ := d_need_model.fun_
  have bd_need_model := F_need_model.binds (ps := ["model"]) fun _ _ _ _ _ _ us hl => match us, hl with | [_], _ => rfl
  obtain ⟨fd_Plain_init, F_Plain_init⟩ := d_Plain_init.fun_
  have bd_Plain_init := F_Plain_init.binds (ps := ["self", "counts"]) fun _ _ _ _ _ _ us hl => match us, hl with | [_, _], _ => rfl
  obtain ⟨fd_Plain_now, F_Plain_now⟩ := d_Plain_now.fun_
  have bd_Plain_now := F_Plain_now.binds (ps := ["self"]) fun _ _ _ _ _ _ us hl => match us, hl with | [_], _ => rfl
  obtain ⟨fd_Plain_learn, F_Plain_learn⟩ := d_Plain_learn.fun_
  have bd_Plain_learn := F_Plain_learn.binds (ps := ["self", "sign"]) fun _ _ _ _ _ _ us hl => match us, hl with | [_, _], _ => rfl
  obtain ⟨fd_Learner_init, F_Learner_init⟩ := d_Learner_init.fun_
  have bd_Learner_init := F_Learner_init.binds (ps := ["self", "signs", "step", "limit"]) fun _ _ _ _ _ _ us hl => match us, hl with | [_, _, _, _], _ => rfl
  obtain ⟨fd_Learner_now, F_Learner_now⟩ := d_Learner_now.fun_
  have bd_Learner_now := F_Learner_now.binds (ps := ["self"]) fun _ _ _ _ _ _ us hl => match us, hl with | [_], _ => rfl
  obtain ⟨fd_Learner_learn, F_Learner_learn⟩ := d_Learner_learn.fun_
  have bd_Learner_learn := F_Learner_learn.binds (ps := ["self", "sign"]) fun _ _ _ _ _ _ us hl => match us, hl with | [_, _], _ => rfl
  obtain ⟨fd_Ahead_init, F_Ahead_init⟩ := d_Ahead_init.fun_
  have bd_Ahead_init := F_Ahead_init.binds (ps := ["self", "order", "numbers"]) fun _ _ _ _ _ _ us hl => match us, hl with | [_, _, _], _ => rfl
  obtain ⟨fd_Ahead_learner, F_Ahead_learner⟩ := d_Ahead_learner.fun_
  have bd_Ahead_learner := F_Ahead_learner.binds (ps := ["self"]) fun _ _ _ _ _ _ us hl => match us, hl with | [_], _ => rfl
  obtain ⟨fd_Ahead_now, F_Ahead_now⟩ := d_Ahead_now.fun_
  have bd_Ahead_now := F_Ahead_now.binds (ps := ["self"]) fun _ _ _ _ _ _ us hl => match us, hl with | [_], _ => rfl
  obtain ⟨fd_Ahead_learn, F_Ahead_learn⟩ := d_Ahead_learn.fun_
  have bd_Ahead_learn := F_Ahead_learn.binds (ps := ["self", "sign"]) fun _ _ _ _ _ _ us hl => match us, hl with | [_, _], _ => rfl
  obtain ⟨fd_Blend_init, F_Blend_init⟩ := d_Blend_init.fun_
  have bd_Blend_init := F_Blend_init.binds (ps := ["self", "one", "other", "weight"]) fun _ _ _ _ _ _ us hl => match us, hl with | [_, _, _, _], _ => rfl
  obtain ⟨fd_Blend_now, F_Blend_now⟩ := d_Blend_now.fun_
  have bd_Blend_now := F_Blend_now.binds (ps := ["self"]) fun _ _ _ _ _ _ us hl => match us, hl with | [_], _ => rfl
  obtain ⟨fd_Blend_learn, F_Blend_learn⟩ := d_Blend_learn.fun_
  have bd_Blend_learn := F_Blend_learn.binds (ps := ["self", "sign"]) fun _ _ _ _ _ _ us hl => match us, hl with | [_, _], _ => rfl
  obtain ⟨fd_begun, F_begun⟩ := d_begun.fun_
  have bd_begun := F_begun.binds (ps := ["model"]) fun _ _ _ _ _ _ us hl => match us, hl with | [_], _ => rfl
  obtain ⟨fd_l_most, F_l_most⟩ := d_l_most.fun_
  have bd_l_most := F_l_most.binds (ps := ["_law_model_here"]) fun _ _ _ _ _ _ us hl => match us, hl with | [_], _ => rfl
  obtain ⟨fd_l_model, F_l_model⟩ := d_l_model.fun_
  have bd_l_model := F_l_model.binds (ps := ["_law_row", "_law_signs_here", "_law_deep"]) fun _ _ _ _ _ _ us hl => match us, hl with | [_, _, _], _ => rfl
  obtain ⟨fd_l_any, F_l_any⟩ := d_l_any.fun_
  have bd_l_any := F_l_any.binds (ps := ["_law_row"]) fun _ _ _ _ _ _ us hl => match us, hl with | [_], _ => rfl
  obtain ⟨fd_l_signs, F_l_signs⟩ := d_l_signs.fun_
  have bd_l_signs := F_l_signs.binds (ps := ["_law_row", "_law_signs_here", "_law_most_here"]) fun _ _ _ _ _ _ us hl => match us, hl with | [_, _, _], _ => rfl
  obtain ⟨fd_need_row, F_need_row⟩ := d_need_row.fun_
  have bd_need_row := F_need_row.binds (ps := ["signs", "row"]) fun _ _ _ _ _ _ us hl => match us, hl with | [_, _], _ => rfl
  obtain ⟨fd_need_room, F_need_room⟩ := d_need_room.fun_
  have bd_need_room := F_need_room.binds (ps := ["model", "room"]) fun _ _ _ _ _ _ us hl => match us, hl with | [_, _], _ => rfl
  obtain ⟨fd_l_room, F_l_room⟩ := d_l_room.fun_
  have bd_l_room := F_l_room.binds (ps := ["_law_row", "_law_model_here"]) fun _ _ _ _ _ _ us hl => match us, hl with | [_, _], _ => rfl
  obtain ⟨fd_digits_of, F_digits_of⟩ := d_digits_of.fun_
  have bd_digits_of := F_digits_of.binds (ps := ["number", "many"]) fun _ _ _ _ _ _ us hl => match us, hl with | [_, _], _ => rfl
  obtain ⟨fd_fewest, F_fewest⟩ := d_fewest.fun_
  have bd_fewest := F_fewest.binds (ps := ["low", "high", "whole"]) fun _ _ _ _ _ _ us hl => match us, hl with | [_, _, _], _ => rfl
  obtain ⟨fd_Writer_carried, F_Writer_carried⟩ := d_Writer_carried.fun_
  have bd_Writer_carried := F_Writer_carried.binds (ps := ["self"]) fun _ _ _ _ _ _ us hl => match us, hl with | [_], _ => rfl
  obtain ⟨fd_Writer_waiting, F_Writer_waiting⟩ := d_Writer_waiting.fun_
  have bd_Writer_waiting := F_Writer_waiting.binds (ps := ["self"]) fun _ _ _ _ _ _ us hl => match us, hl with | [_], _ => rfl
  obtain ⟨fd_Writer_carry, F_Writer_carry⟩ := d_Writer_carry.fun_
  have bd_Writer_carry := F_Writer_carry.binds (ps := ["self"]) fun _ _ _ _ _ _ us hl => match us, hl with | [_], _ => rfl
  obtain ⟨fd_Writer_shift, F_Writer_shift⟩ := d_Writer_shift.fun_
  have bd_Writer_shift := F_Writer_shift.binds (ps := ["self"]) fun _ _ _ _ _ _ us hl => match us, hl with | [_], _ => rfl
  obtain ⟨fd_Writer_init, F_Writer_init⟩ := d_Writer_init.fun_
  have bd_Writer_init := F_Writer_init.binds (ps := ["self", "model", "room"]) fun _ _ _ _ _ _ us hl => match us, hl with | [_, _, _], _ => rfl
  obtain ⟨fd_Writer_put, F_Writer_put⟩ := d_Writer_put.fun_
  have bd_Writer_put := F_Writer_put.binds (ps := ["self", "sign"]) fun _ _ _ _ _ _ us hl => match us, hl with | [_, _], _ => rfl
  obtain ⟨fd_Writer_end, F_Writer_end⟩ := d_Writer_end.fun_
  have bd_Writer_end := F_Writer_end.binds (ps := ["self"]) fun _ _ _ _ _ _ us hl => match us, hl with | [_], _ => rfl
  obtain ⟨fd_written, F_written⟩ := d_written.fun_
  have bd_written := F_written.binds (ps := ["model", "room", "row"]) fun _ _ _ _ _ _ us hl => match us, hl with | [_, _, _], _ => rfl
  obtain ⟨fd_Writer_digits, F_Writer_digits⟩ := d_Writer_digits.fun_
  have bd_Writer_digits := F_Writer_digits.binds (ps := ["self"]) fun _ _ _ _ _ _ us hl => match us, hl with | [_], _ => rfl
  obtain ⟨fd_l_word, F_l_word⟩ := d_l_word.fun_
  have bd_l_word := F_l_word.binds (ps := ["_law_work"]) fun _ _ _ _ _ _ us hl => match us, hl with | [_], _ => rfl
  obtain ⟨fd_law, F_law⟩ := d_law.fun_
  have bd_law := F_law.toFun.binds (ps := ["_law_script"]) fun _ _ _ _ _ _ us hl => match us, hl with | [_], _ => rfl
  refine ⟨[("law", C_tab_law, P_tab_law)], fd_law, spLawT K [P_tab_law], fun p hp => ?_, fun s v => ?_, fun H a ns hT hS => ⟨a, ns, rfl, hS, fun P hP => by
    simp only [List.mem_cons, List.not_mem_nil, or_false] at hP
    rcases hP with hP
    · rw [hP]; exact hT ("law", C_tab_law, P_tab_law) (by simp)
   , fun _ => rfl⟩, fun base _ _ hTB => ?_⟩
  · simp only [List.mem_cons, List.not_mem_nil, or_false] at hp
    rcases hp with rfl
    · exact ⟨by simp, tab_law, nt_law⟩
  · obtain ⟨oc, od, kV, doc, pm, an, ct, osl, rfl, lk, hcd⟩ := F_law.ex
    exact .of_eq rfl
  have tb_law := hTB ("law", C_tab_law, P_tab_law) (by simp)
  have q_is_within : Cal P w K mg base CX0 1 "is_within" ["number", "low", "high"] (spWithin) := ⟨⟨f_is_within, fd_is_within, PySem.W.mg_of X G a_is_within, F_is_within.kp, bd_is_within, ok_is_within F_is_within (b_isinstance := b_isinstance) (b_bool := b_bool) (b_int := b_int)⟩⟩
  have q_Shares_climb : CalM P w K mg base CX0 1 C_Shares "climb" ["self", "sign", "by"] (spClimb C_Shares) := ⟨⟨f_Shares_climb, fd_Shares_climb, ⟨a_Shares_climb, i_Shares_climb, F_Shares_climb.kp⟩, bd_Shares_climb, ok_Shares_climb F_Shares_climb (n_Shares_signs := n_Shares_signs) (cl_Shares := cl_Shares) (n_Shares_tree := n_Shares_tree)⟩⟩
  have q_Shares_need_sign : CalM P w K mg base CX0 2 C_Shares "need_sign" ["self", "sign", "most"] (spNeedSign) := ⟨⟨f_Shares_need_sign, fd_Shares_need_sign, ⟨a_Shares_need_sign, i_Shares_need_sign, F_Shares_need_sign.kp⟩, bd_Shares_need_sign, ok_Shares_need_sign F_Shares_need_sign (q_is_within := q_is_within)⟩⟩
  have q_need_counts : Cal P w K mg base CX0 2 "need_counts" ["counts"] (spNeedCounts K) := ⟨⟨f_need_counts, fd_need_counts, PySem.W.mg_of X G a_need_counts, F_need_counts.kp, bd_need_counts, ok_need_counts F_need_counts (k_MOST_COUNT := k_MOST_COUNT) (b_len := b_len) (k_MOST_SIGNS := k_MOST_SIGNS) (q_is_within := q_is_within)⟩⟩
  have q_Shares_ahead_of : CalM P w K mg base CX0 3 C_Shares "ahead_of" ["self", "sign"] (spAheadOf C_Shares) := ⟨⟨f_Shares_ahead_of, fd_Shares_ahead_of, ⟨a_Shares_ahead_of, i_Shares_ahead_of, F_Shares_ahead_of.kp⟩, bd_Shares_ahead_of, ok_Shares_ahead_of F_Shares_ahead_of (cl_Shares := cl_Shares) (n_Shares_signs := n_Shares_signs) (n_Shares_tree := n_Shares_tree) (q_Shares_need_sign := q_Shares_need_sign)⟩⟩
  have q_Shares_many_of : CalM P w K mg base CX0 4 C_Shares "many_of" ["self", "sign"] (spManyOf C_Shares) := ⟨⟨f_Shares_many_of, fd_Shares_many_of, ⟨a_Shares_many_of, i_Shares_many_of, F_Shares_many_of.kp⟩, bd_Shares_many_of, ok_Shares_many_of F_Shares_many_of (cl_Shares := cl_Shares) (n_Shares_signs := n_Shares_signs) (q_Shares_ahead_of := q_Shares_ahead_of) (q_Shares_need_sign := q_Shares_need_sign)⟩⟩
  have q_Shares_whole : CalM P w K mg base CX0 4 C_Shares "whole" ["self"] (spWhole C_Shares) := ⟨⟨f_Shares_whole, fd_Shares_whole, ⟨a_Shares_whole, i_Shares_whole, F_Shares_whole.kp⟩, bd_Shares_whole, ok_Shares_whole F_Shares_whole (cl_Shares := cl_Shares) (n_Shares_signs := n_Shares_signs) (q_Shares_ahead_of := q_Shares_ahead_of)⟩⟩
  have q_Shares_init : CalC P w K mg base CX0 3 C_Shares "Shares" ["self", "counts"] (spSharesInit K C_Shares) := ⟨⟨f_Shares_init, fd_Shares_init, ⟨mk_Shares, a_Shares_init, i_Shares_init, kc_Shares⟩, PySem.W.mg_of X G aC_Shares, bd_Shares_init, ok_Shares_init F_Shares_init (b_range := b_range) (b_len := b_len) (cl_Shares := cl_Shares) (n_Shares_signs := n_Shares_signs) (n_Shares_tree := n_Shares_tree) (q_Shares_climb := q_Shares_climb) (q_need_counts := q_need_counts)⟩⟩
  have q_Shares_grow : CalM P w K mg base CX0 3 C_Shares "grow" ["self", "sign", "by"] (spGrow C_Shares) := ⟨⟨f_Shares_grow, fd_Shares_grow, ⟨a_Shares_grow, i_Shares_grow, F_Shares_grow.kp⟩, bd_Shares_grow, ok_Shares_grow F_Shares_grow (cl_Shares := cl_Shares) (k_MOST_COUNT := k_MOST_COUNT) (n_Shares_signs := n_Shares_signs) (q_Shares_climb := q_Shares_climb) (q_is_within := q_is_within) (q_Shares_need_sign := q_Shares_need_sign)⟩⟩
  have q_Shares_all_counts : CalM P w K mg base CX0 5 C_Shares "all_counts" ["self"] (spAllCounts C_Shares) := ⟨⟨f_Shares_all_counts, fd_Shares_all_counts, ⟨a_Shares_all_counts, i_Shares_all_counts, F_Shares_all_counts.kp⟩, bd_Shares_all_counts, ok_Shares_all_counts F_Shares_all_counts (b_range := b_range) (cl_Shares := cl_Shares) (n_Shares_signs := n_Shares_signs) (q_Shares_many_of := q_Shares_many_of)⟩⟩
  have q_Shares_halve : CalM P w K mg base CX0 6 C_Shares "halve" ["self"] (spHalve C_Shares) := ⟨⟨f_Shares_halve, fd_Shares_halve, ⟨a_Shares_halve, i_Shares_halve, F_Shares_halve.kp⟩, bd_Shares_halve, ok_Shares_halve F_Shares_halve (b_range := b_range) (cl_Shares := cl_Shares) (n_Shares_tree := n_Shares_tree) (n_Shares_signs := n_Shares_signs) (q_Shares_climb := q_Shares_climb) (q_Shares_all_counts := q_Shares_all_counts)⟩⟩
  have q_l_taken : Cal P w K mg base CX0 1 "_law_taken" ["_law_row", "_law_many"] (spTaken K) := ⟨⟨f_l_taken, fd_l_taken, PySem.W.mg_of X G a_l_taken, F_l_taken.kp, bd_l_taken, ok_l_taken F_l_taken (b_len := b_len)⟩⟩
  have q_are_learning : Cal P w K mg base CX0 2 "are_learning" ["signs", "step", "limit"] (spAreLearning) := ⟨⟨f_are_learning, fd_are_learning, PySem.W.mg_of X G a_are_learning, F_are_learning.kp, bd_are_learning, ok_are_learning F_are_learning (k_MOST_LIMIT := k_MOST_LIMIT) (k_MOST_STEP := k_MOST_STEP) (k_MOST_SIGNS := k_MOST_SIGNS) (q_is_within := q_is_within)⟩⟩
  have all_signs_of : ∀ n, Cal P w K mg base CX0 (n + 1) "signs_of" ["model"] (spSignsOf K n) := fun n => by
    induction n with
    | zero => exact ⟨⟨f_signs_of, fd_signs_of, PySem.W.mg_of X G a_signs_of, F_signs_of.kp, bd_signs_of, ⟨fun vs H Q E h => by obtain ⟨_, _, _, _, _, _, d, _⟩ := h; exact absurd d (by first | exact id | exact Nat.not_lt_zero _ | decide), fun _ _ _ _ _ _ _ _ _ _ _ _ _ h => by obtain ⟨_, _, _, _, _, _, d, _⟩ := h; exact absurd d (by first | exact id | exact Nat.not_lt_zero _ | decide)⟩⟩⟩
    | succ n ih => exact ⟨⟨f_signs_of, fd_signs_of, PySem.W.mg_of X G a_signs_of, F_signs_of.kp, bd_signs_of, ok_signs_of F_signs_of (n := n) (q_signs_of := ih) (k_BLEND := k_BLEND) (k_AHEAD := k_AHEAD) (k_LEARN := k_LEARN) (k_PLAIN := k_PLAIN) (b_len := b_len) ⟩⟩
  have q_signs_of : Cal P w K mg base CX0 5 "signs_of" ["model"] (spSignsOf K 4) := all_signs_of 4
  have all_most_of : ∀ n, Cal P w K mg base CX0 (n + 1) "most_of" ["model"] (spMostOf K n) := fun n => by
    induction n with
    | zero => exact ⟨⟨f_most_of, fd_most_of, PySem.W.mg_of X G a_most_of, F_most_of.kp, bd_most_of, ⟨fun vs H Q E h => by obtain ⟨_, _, _, _, _, _, d, _⟩ := h; exact absurd d (by first | exact id | exact Nat.not_lt_zero _ | decide), fun _ _ _ _ _ _ _ _ _ _ _ _ _ h => by obtain ⟨_, _, _, _, _, _, d, _⟩ := h; exact absurd d (by first | exact id | exact Nat.not_lt_zero _ | decide)⟩⟩⟩
    | succ n ih => exact ⟨⟨f_most_of, fd_most_of, PySem.W.mg_of X G a_most_of, F_most_of.kp, bd_most_of, ok_most_of F_most_of (n := n) (q_most_of := ih) (k_BLEND := k_BLEND) (k_PLAIN := k_PLAIN) (b_sum := b_sum) ⟩⟩
  have q_most_of : Cal P w K mg base CX0 5 "most_of" ["model"] (spMostOf K 4) := all_most_of 4
  have q_is_plain : Cal P w K mg base CX0 2 "is_plain" ["model"] (spIsPlain K) := ⟨⟨f_is_plain, fd_is_plain, PySem.W.mg_of X G a_is_plain, F_is_plain.kp, bd_is_plain, ok_is_plain F_is_plain (k_MOST_PLAIN := k_MOST_PLAIN) (b_len := b_len) (k_MOST_SIGNS := k_MOST_SIGNS) (b_isinstance := b_isinstance) (b_tuple := b_tuple) (q_is_within := q_is_within)⟩⟩
  have all_is_model : ∀ n, Cal P w K mg base CX0 (n + 6) "is_model" ["model", "deep"] (spIsModel K n) := fun n => by
    induction n with
    | zero => exact ⟨⟨f_is_model, fd_is_model, PySem.W.mg_of X G a_is_model, F_is_model.kp, bd_is_model, ⟨fun vs H Q E h => by obtain ⟨_, _, _, _, _, _, _, d, _⟩ := h; exact absurd d (by first | exact id | exact Nat.not_lt_zero _ | decide), fun _ _ _ _ _ _ _ _ _ _ _ _ _ h => by obtain ⟨_, _, _, _, _, _, _, d, _⟩ := h; exact absurd d (by first | exact id | exact Nat.not_lt_zero _ | decide)⟩⟩⟩
    | succ n ih => exact ⟨⟨f_is_model, fd_is_model, PySem.W.mg_of X G a_is_model, F_is_model.kp, bd_is_model, ok_is_model F_is_model (n := n) (q_is_model := ih) (k_MOST_WHOLE := k_MOST_WHOLE) (k_MOST_WEIGHT := k_MOST_WEIGHT) (b_len := b_len) (k_BLEND := k_BLEND) (k_AHEAD := k_AHEAD) (k_MOST_ORDER := k_MOST_ORDER) (k_LEARN := k_LEARN) (k_PLAIN := k_PLAIN) (b_isinstance := b_isinstance) (b_str := b_str) (b_tuple := b_tuple) (q_most_of := q_most_of) (q_signs_of := q_signs_of) (q_is_within := q_is_within) (q_are_learning := q_are_learning) (q_is_plain := q_is_plain)⟩⟩
  have q_is_model : Cal P w K mg base CX0 9 "is_model" ["model", "deep"] (spIsModel K 3) := all_is_model 3
  have q_need_model : Cal P w K mg base CX0 10 "need_model" ["model"] (spNeedModel K) := ⟨⟨f_need_model, fd_need_model, PySem.W.mg_of X G a_need_model, F_need_model.kp, bd_need_model, ok_need_model F_need_model (k_MOST_DEEP := k_MOST_DEEP) (q_is_model := q_is_model)⟩⟩
  have q_Plain_init : CalC P w K mg base CX0 5 C_Plain "Plain" ["self", "counts"] (spPlainInit K C_Shares C_Plain C_Learner C_Ahead C_Blend) := ⟨⟨f_Plain_init, fd_Plain_init, ⟨mk_Plain, a_Plain_init, i_Plain_init, kc_Plain⟩, PySem.W.mg_of X G aC_Plain, bd_Plain_init, ok_Plain_init F_Plain_init (n_Plain_here := n_Plain_here) (cl_Plain := cl_Plain) (q_Shares_init := q_Shares_init)⟩⟩
  have q_Plain_now : CalM P w K mg base CX0 1 C_Plain "now" ["self"] (spNow K C_Shares C_Plain C_Learner C_Ahead C_Blend 0 1) := ⟨⟨f_Plain_now, fd_Plain_now, ⟨a_Plain_now, i_Plain_now, F_Plain_now.kp⟩, bd_Plain_now, ok_Plain_now F_Plain_now (n_Plain_here := n_Plain_here) (cl_Plain := cl_Plain)⟩⟩
  have q_Plain_learn : CalM P w K mg base CX0 1 C_Plain "learn" ["self", "sign"] (spLrn K C_Shares C_Plain C_Learner C_Ahead C_Blend 0 1) := ⟨⟨f_Plain_learn, fd_Plain_learn, ⟨a_Plain_learn, i_Plain_learn, F_Plain_learn.kp⟩, bd_Plain_learn, ok_Plain_learn F_Plain_learn ⟩⟩
  have q_Learner_init : CalC P w K mg base CX0 5 C_Learner "Learner" ["self", "signs", "step", "limit"] (spLearnerInit K C_Shares C_Plain C_Learner C_Ahead C_Blend) := ⟨⟨f_Learner_init, fd_Learner_init, ⟨mk_Learner, a_Learner_init, i_Learner_init, kc_Learner⟩, PySem.W.mg_of X G aC_Learner, bd_Learner_init, ok_Learner_init F_Learner_init (n_Learner_here := n_Learner_here) (cl_Learner := cl_Learner) (n_Learner_step := n_Learner_step) (n_Learner_limit := n_Learner_limit) (q_Shares_init := q_Shares_init)⟩⟩
  have q_Learner_now : CalM P w K mg base CX0 1 C_Learner "now" ["self"] (spNow K C_Shares C_Plain C_Learner C_Ahead C_Blend 1 1) := ⟨⟨f_Learner_now, fd_Learner_now, ⟨a_Learner_now, i_Learner_now, F_Learner_now.kp⟩, bd_Learner_now, ok_Learner_now F_Learner_now (n_Learner_here := n_Learner_here) (cl_Learner := cl_Learner)⟩⟩
  have q_Learner_learn : CalM P w K mg base CX0 7 C_Learner "learn" ["self", "sign"] (spLrn K C_Shares C_Plain C_Learner C_Ahead C_Blend 1 1) := ⟨⟨f_Learner_learn, fd_Learner_learn, ⟨a_Learner_learn, i_Learner_learn, F_Learner_learn.kp⟩, bd_Learner_learn, ok_Learner_learn F_Learner_learn (cl_Shares := cl_Shares) (n_Learner_step := n_Learner_step) (cl_Learner := cl_Learner) (n_Learner_limit := n_Learner_limit) (n_Learner_here := n_Learner_here) (q_Shares_whole := q_Shares_whole) (q_Shares_halve := q_Shares_halve) (q_Shares_grow := q_Shares_grow)⟩⟩
  have q_Ahead_init : CalC P w K mg base CX0 1 C_Ahead "Ahead" ["self", "order", "numbers"] (spAheadInit K C_Shares C_Plain C_Learner C_Ahead C_Blend) := ⟨⟨f_Ahead_init, fd_Ahead_init, ⟨mk_Ahead, a_Ahead_init, i_Ahead_init, kc_Ahead⟩, PySem.W.mg_of X G aC_Ahead, bd_Ahead_init, ok_Ahead_init F_Ahead_init (n_Ahead_order := n_Ahead_order) (cl_Ahead := cl_Ahead) (n_Ahead_numbers := n_Ahead_numbers) (n_Ahead_last := n_Ahead_last) (n_Ahead_known := n_Ahead_known)⟩⟩
  have q_Ahead_learner : CalM P w K mg base CX0 7 C_Ahead "learner" ["self"] (spLearner K C_Shares C_Plain C_Learner C_Ahead C_Blend) := ⟨⟨f_Ahead_learner, fd_Ahead_learner, ⟨a_Ahead_learner, i_Ahead_learner, F_Ahead_learner.kp⟩, bd_Ahead_learner, ok_Ahead_learner F_Ahead_learner (n_Ahead_last := n_Ahead_last) (cl_Ahead := cl_Ahead) (n_Ahead_known := n_Ahead_known) (n_Ahead_numbers := n_Ahead_numbers) (q_Learner_init := q_Learner_init)⟩⟩
  have q_Ahead_now : CalM P w K mg base CX0 8 C_Ahead "now" ["self"] (spNow K C_Shares C_Plain C_Learner C_Ahead C_Blend 2 1) := ⟨⟨f_Ahead_now, fd_Ahead_now, ⟨a_Ahead_now, i_Ahead_now, F_Ahead_now.kp⟩, bd_Ahead_now, ok_Ahead_now F_Ahead_now (cl_Ahead := cl_Ahead) (cl_Learner := cl_Learner) (q_Ahead_learner := q_Ahead_learner) (q_Learner_now := q_Learner_now)⟩⟩
  have q_Ahead_learn : CalM P w K mg base CX0 9 C_Ahead "learn" ["self", "sign"] (spLrn K C_Shares C_Plain C_Learner C_Ahead C_Blend 2 1) := ⟨⟨f_Ahead_learn, fd_Ahead_learn, ⟨a_Ahead_learn, i_Ahead_learn, F_Ahead_learn.kp⟩, bd_Ahead_learn, ok_Ahead_learn F_Ahead_learn (cl_Ahead := cl_Ahead) (cl_Learner := cl_Learner) (n_Ahead_last := n_Ahead_last) (n_Ahead_order := n_Ahead_order) (q_Ahead_learner := q_Ahead_learner) (q_Learner_learn := q_Learner_learn)⟩⟩
  have q_Blend_init : CalC P w K mg base CX0 1 C_Blend "Blend" ["self", "one", "other", "weight"] (spBlendInit K C_Shares C_Plain C_Learner C_Ahead C_Blend) := ⟨⟨f_Blend_init, fd_Blend_init, ⟨mk_Blend, a_Blend_init, i_Blend_init, kc_Blend⟩, PySem.W.mg_of X G aC_Blend, bd_Blend_init, ok_Blend_init F_Blend_init (n_Blend_one := n_Blend_one) (cl_Blend := cl_Blend) (n_Blend_other := n_Blend_other) (n_Blend_weight := n_Blend_weight)⟩⟩
  have all_Blend_now : ∀ n, CalM P w K mg base CX0 (n + 8) C_Blend "now" ["self"] (spNow K C_Shares C_Plain C_Learner C_Ahead C_Blend 3 n) := fun n => by
    induction n with
    | zero => exact ⟨⟨f_Blend_now, fd_Blend_now, ⟨a_Blend_now, i_Blend_now, F_Blend_now.kp⟩, bd_Blend_now, ⟨fun vs H Q E h => by obtain ⟨_, _, _, _, _, _, _, d, _⟩ := h; exact absurd d (by first | exact id | exact Nat.not_lt_zero _ | decide), fun _ _ _ _ _ _ _ _ _ _ _ _ _ h => by obtain ⟨_, _, _, _, _, _, _, d, _⟩ := h; exact absurd d (by first | exact id | exact Nat.not_lt_zero _ | decide)⟩⟩⟩
    | succ n ih => exact ⟨⟨f_Blend_now, fd_Blend_now, ⟨a_Blend_now, i_Blend_now, F_Blend_now.kp⟩, bd_Blend_now, ok_Blend_now F_Blend_now (n := n) (q_Blend_now := ih) (b_list := b_list) (b_zip := b_zip) (cl_Blend := cl_Blend) (cl_Ahead := cl_Ahead) (cl_Learner := cl_Learner) (cl_Plain := cl_Plain) (cl_Shares := cl_Shares) (n_Blend_weight := n_Blend_weight) (n_Blend_one := n_Blend_one) (n_Blend_other := n_Blend_other) (q_Shares_init := q_Shares_init) (q_Ahead_now := q_Ahead_now) (q_Learner_now := q_Learner_now) (q_Plain_now := q_Plain_now) (q_Shares_all_counts := q_Shares_all_counts)⟩⟩
  have q_Blend_now : CalM P w K mg base CX0 11 C_Blend "now" ["self"] (spNow K C_Shares C_Plain C_Learner C_Ahead C_Blend 3 3) := all_Blend_now 3
  have all_Blend_learn : ∀ n, CalM P w K mg base CX0 (n + 9) C_Blend "learn" ["self", "sign"] (spLrn K C_Shares C_Plain C_Learner C_Ahead C_Blend 3 n) := fun n => by
    induction n with
    | zero => exact ⟨⟨f_Blend_learn, fd_Blend_learn, ⟨a_Blend_learn, i_Blend_learn, F_Blend_learn.kp⟩, bd_Blend_learn, ⟨fun vs H Q E h => by obtain ⟨_, _, _, _, _, _, _, _, d, _⟩ := h; exact absurd d (by first | exact id | exact Nat.not_lt_zero _ | decide), fun _ _ _ _ _ _ _ _ _ _ _ _ _ h => by obtain ⟨_, _, _, _, _, _, _, _, d, _⟩ := h; exact absurd d (by first | exact id | exact Nat.not_lt_zero _ | decide)⟩⟩⟩
    | succ n ih => exact ⟨⟨f_Blend_learn, fd_Blend_learn, ⟨a_Blend_learn, i_Blend_learn, F_Blend_learn.kp⟩, bd_Blend_learn, ok_Blend_learn F_Blend_learn (n := n) (q_Blend_learn := ih) (cl_Blend := cl_Blend) (cl_Ahead := cl_Ahead) (cl_Learner := cl_Learner) (cl_Plain := cl_Plain) (n_Blend_one := n_Blend_one) (n_Blend_other := n_Blend_other) (q_Ahead_learn := q_Ahead_learn) (q_Learner_learn := q_Learner_learn) (q_Plain_learn := q_Plain_learn)⟩⟩
  have q_Blend_learn : CalM P w K mg base CX0 12 C_Blend "learn" ["self", "sign"] (spLrn K C_Shares C_Plain C_Learner C_Ahead C_Blend 3 3) := all_Blend_learn 3
  have all_begun : ∀ n, Cal P w K mg base CX0 (n + 8) "begun" ["model"] (spBegun K C_Shares C_Plain C_Learner C_Ahead C_Blend n) := fun n => by
    induction n with
    | zero => exact ⟨⟨f_begun, fd_begun, PySem.W.mg_of X G a_begun, F_begun.kp, bd_begun, ⟨fun vs H Q E h => by obtain ⟨_, _, _, _, _, _, d, _⟩ := h; exact absurd d (by first | exact id | exact Nat.not_lt_zero _ | decide), fun _ _ _ _ _ _ _ _ _ _ _ _ _ h => by obtain ⟨_, _, _, _, _, _, d, _⟩ := h; exact absurd d (by first | exact id | exact Nat.not_lt_zero _ | decide)⟩⟩⟩
    | succ n ih => exact ⟨⟨f_begun, fd_begun, PySem.W.mg_of X G a_begun, F_begun.kp, bd_begun, ok_begun F_begun (n := n) (q_begun := ih) (k_AHEAD := k_AHEAD) (k_LEARN := k_LEARN) (k_PLAIN := k_PLAIN) (q_Blend_init := q_Blend_init) (q_Ahead_init := q_Ahead_init) (q_Learner_init := q_Learner_init) (q_Plain_init := q_Plain_init)⟩⟩
  have q_begun : Cal P w K mg base CX0 11 "begun" ["model"] (spBegun K C_Shares C_Plain C_Learner C_Ahead C_Blend 3) := all_begun 3
  have all_l_most : ∀ n, Cal P w K mg base CX0 (n + 1) "_law_most" ["_law_model_here"] (spMostOf K n) := fun n => by
    induction n with
    | zero => exact ⟨⟨f_l_most, fd_l_most, PySem.W.mg_of X G a_l_most, F_l_most.kp, bd_l_most, ⟨fun vs H Q E h => by obtain ⟨_, _, _, _, _, _, d, _⟩ := h; exact absurd d (by first | exact id | exact Nat.not_lt_zero _ | decide), fun _ _ _ _ _ _ _ _ _ _ _ _ _ h => by obtain ⟨_, _, _, _, _, _, d, _⟩ := h; exact absurd d (by first | exact id | exact Nat.not_lt_zero _ | decide)⟩⟩⟩
    | succ n ih => exact ⟨⟨f_l_most, fd_l_most, PySem.W.mg_of X G a_l_most, F_l_most.kp, bd_l_most, ok_l_most F_l_most (n := n) (q_l_most := ih) (b_sum := b_sum) ⟩⟩
  have q_l_most : Cal P w K mg base CX0 4 "_law_most" ["_law_model_here"] (spMostOf K 3) := all_l_most 3
  have all_l_model : ∀ n, Cal P w K mg base CX0 (n + 5) "_law_model" ["_law_row", "_law_signs_here", "_law_deep"] (spLModel K n) := fun n => by
    induction n with
    | zero => exact ⟨⟨f_l_model, fd_l_model, PySem.W.mg_of X G a_l_model, F_l_model.kp, bd_l_model, ⟨fun vs H Q E h => by obtain ⟨_, _, _, _, _, d, _⟩ := h; exact absurd d (by first | exact id | exact Nat.not_lt_zero _ | decide), fun _ _ _ _ _ _ _ _ _ _ _ _ _ h => by obtain ⟨_, _, _, _, _, d, _⟩ := h; exact absurd d (by first | exact id | exact Nat.not_lt_zero _ | decide)⟩⟩⟩
    | succ n ih => exact ⟨⟨f_l_model, fd_l_model, PySem.W.mg_of X G a_l_model, F_l_model.kp, bd_l_model, ok_l_model F_l_model (n := n) (q_l_model := ih) (b_tuple := b_tuple) (b_range := b_range) (b_int := b_int) (q_l_most := q_l_most) (q_l_taken := q_l_taken)⟩⟩
  have q_l_model : Cal P w K mg base CX0 8 "_law_model" ["_law_row", "_law_signs_here", "_law_deep"] (spLModel K 3) := all_l_model 3
  have q_l_any : Cal P w K mg base CX0 9 "_law_any" ["_law_row"] (spLAny K) := ⟨⟨f_l_any, fd_l_any, PySem.W.mg_of X G a_l_any, F_l_any.kp, bd_l_any, ok_l_any F_l_any (q_l_model := q_l_model) (q_l_taken := q_l_taken)⟩⟩
  have q_l_signs : Cal P w K mg base CX0 2 "_law_signs" ["_law_row", "_law_signs_here", "_law_most_here"] (spLSigns K) := ⟨⟨f_l_signs, fd_l_signs, PySem.W.mg_of X G a_l_signs, F_l_signs.kp, bd_l_signs, ok_l_signs F_l_signs (b_range := b_range) (q_l_taken := q_l_taken)⟩⟩
  have q_need_row : Cal P w K mg base CX0 2 "need_row" ["signs", "row"] (spNeedRow K) := ⟨⟨f_need_row, fd_need_row, PySem.W.mg_of X G a_need_row, F_need_row.kp, bd_need_row, ok_need_row F_need_row (b_range := b_range) (b_len := b_len) (k_MOST_ROW := k_MOST_ROW) (q_is_within := q_is_within)⟩⟩
  have q_need_room : Cal P w K mg base CX0 6 "need_room" ["model", "room"] (spNeedRoom K) := ⟨⟨f_need_room, fd_need_room, PySem.W.mg_of X G a_need_room, F_need_room.kp, bd_need_room, ok_need_room F_need_room (k_MOST_ROOM := k_MOST_ROOM) (k_LEAST_ROOM := k_LEAST_ROOM) (q_most_of := q_most_of) (q_is_within := q_is_within)⟩⟩
  have q_l_room : Cal P w K mg base CX0 5 "_law_room" ["_law_row", "_law_model_here"] (spLRoom K) := ⟨⟨f_l_room, fd_l_room, PySem.W.mg_of X G a_l_room, F_l_room.kp, bd_l_room, ok_l_room F_l_room (b_len := b_len) (b_range := b_range) (q_l_taken := q_l_taken) (q_l_most := q_l_most)⟩⟩
  have q_digits_of : Cal P w K mg base CX0 1 "digits_of" ["number", "many"] (spDigitsOf) := ⟨⟨f_digits_of, fd_digits_of, PySem.W.mg_of X G a_digits_of, F_digits_of.kp, bd_digits_of, ok_digits_of F_digits_of (b_range := b_range) (b_str := b_str)⟩⟩
  have q_fewest : Cal P w K mg base CX0 1 "fewest" ["low", "high", "whole"] (spFewest) := ⟨⟨f_fewest, fd_fewest, PySem.W.mg_of X G a_fewest, F_fewest.kp, bd_fewest, ok_fewest F_fewest ⟩⟩
  have q_Writer_carried : CalM P w K mg base CX0 1 C_Writer "carried" ["self"] (spWCarried K C_Writer) := ⟨⟨f_Writer_carried, fd_Writer_carried, ⟨a_Writer_carried, i_Writer_carried, F_Writer_carried.kp⟩, bd_Writer_carried, ok_Writer_carried F_Writer_carried (n_Writer_wait := n_Writer_wait) (cl_Writer := cl_Writer)⟩⟩
  have q_Writer_waiting : CalM P w K mg base CX0 1 C_Writer "waiting" ["self"] (spWWaiting K C_Writer) := ⟨⟨f_Writer_waiting, fd_Writer_waiting, ⟨a_Writer_waiting, i_Writer_waiting, F_Writer_waiting.kp⟩, bd_Writer_waiting, ok_Writer_waiting F_Writer_waiting (n_Writer_wait := n_Writer_wait) (cl_Writer := cl_Writer)⟩⟩
  have q_Writer_carry : CalM P w K mg base CX0 2 C_Writer "carry" ["self"] (spWCarry K C_Writer) := ⟨⟨f_Writer_carry, fd_Writer_carry, ⟨a_Writer_carry, i_Writer_carry, F_Writer_carry.kp⟩, bd_Writer_carry, ok_Writer_carry F_Writer_carry (cl_Writer := cl_Writer) (n_Writer_low := n_Writer_low) (n_Writer_sure := n_Writer_sure) (n_Writer_wait := n_Writer_wait) (n_Writer_full := n_Writer_full) (q_Writer_carried := q_Writer_carried)⟩⟩
  have q_Writer_shift : CalM P w K mg base CX0 2 C_Writer "shift" ["self"] (spWShift K C_Writer) := ⟨⟨f_Writer_shift, fd_Writer_shift, ⟨a_Writer_shift, i_Writer_shift, F_Writer_shift.kp⟩, bd_Writer_shift, ok_Writer_shift F_Writer_shift (cl_Writer := cl_Writer) (n_Writer_low := n_Writer_low) (n_Writer_width := n_Writer_width) (n_Writer_full := n_Writer_full) (n_Writer_sure := n_Writer_sure) (n_Writer_wait := n_Writer_wait) (q_Writer_waiting := q_Writer_waiting)⟩⟩
  have q_Writer_init : CalC P w K mg base CX0 12 C_Writer "Writer" ["self", "model", "room"] (spWInit K C_Shares C_Plain C_Learner C_Ahead C_Blend C_Writer) := ⟨⟨f_Writer_init, fd_Writer_init, ⟨mk_Writer, a_Writer_init, i_Writer_init, kc_Writer⟩, PySem.W.mg_of X G aC_Writer, bd_Writer_init, ok_Writer_init F_Writer_init (n_Writer_signs := n_Writer_signs) (cl_Writer := cl_Writer) (n_Writer_mind := n_Writer_mind) (n_Writer_room := n_Writer_room) (n_Writer_full := n_Writer_full) (n_Writer_low := n_Writer_low) (n_Writer_width := n_Writer_width) (n_Writer_sure := n_Writer_sure) (n_Writer_wait := n_Writer_wait) (n_Writer_many := n_Writer_many) (q_begun := q_begun) (q_signs_of := q_signs_of) (q_need_room := q_need_room) (q_need_model := q_need_model)⟩⟩
  have q_Writer_put : CalM P w K mg base (L2.CX P w) 13 C_Writer "put" ["self", "sign"] (spWPutX K C_Shares C_Plain C_Learner C_Ahead C_Blend C_Writer C_BadSign C_BadCount) := ⟨⟨f_Writer_put, fd_Writer_put, ⟨a_Writer_put, i_Writer_put, F_Writer_put.kp⟩, bd_Writer_put, ok_Writer_put F_Writer_put (cl_Blend := cl_Blend) (cl_Ahead := cl_Ahead) (cl_Learner := cl_Learner) (cl_Plain := cl_Plain) (cl_Writer := cl_Writer) (cl_Shares := cl_Shares) (k_MOST_ROW := k_MOST_ROW) (xc_BadCount := xc_BadCount) (xc_BadSign := xc_BadSign) (n_Writer_many := n_Writer_many) (n_Writer_low := n_Writer_low) (n_Writer_width := n_Writer_width) (n_Writer_full := n_Writer_full) (n_Writer_mind := n_Writer_mind) (n_Writer_signs := n_Writer_signs) (q_Blend_learn := q_Blend_learn) (q_Ahead_learn := q_Ahead_learn) (q_Learner_learn := q_Learner_learn) (q_Plain_learn := q_Plain_learn) (q_Writer_shift := q_Writer_shift) (q_Writer_carry := q_Writer_carry) (q_Shares_many_of := q_Shares_many_of) (q_Shares_ahead_of := q_Shares_ahead_of) (q_Shares_whole := q_Shares_whole) (q_Blend_now := q_Blend_now) (q_Ahead_now := q_Ahead_now) (q_Learner_now := q_Learner_now) (q_Plain_now := q_Plain_now) (q_is_within := q_is_within)⟩⟩
  have q_Writer_end : CalM P w K mg base CX0 2 C_Writer "end" ["self"] (spWEnd K C_Shares C_Plain C_Learner C_Ahead C_Blend C_Writer) := ⟨⟨f_Writer_end, fd_Writer_end, ⟨a_Writer_end, i_Writer_end, F_Writer_end.kp⟩, bd_Writer_end, ok_Writer_end F_Writer_end (cl_Writer := cl_Writer) (n_Writer_low := n_Writer_low) (n_Writer_full := n_Writer_full) (n_Writer_width := n_Writer_width) (n_Writer_sure := n_Writer_sure) (q_Writer_carried := q_Writer_carried) (q_digits_of := q_digits_of) (q_Writer_waiting := q_Writer_waiting) (q_fewest := q_fewest)⟩⟩
  have q_written : Cal P w K mg base CX0 14 "written" ["model", "room", "row"] (spWritten K) := ⟨⟨f_written, fd_written, PySem.W.mg_of X G a_written, F_written.kp, bd_written, ok_written F_written (cl_Writer := cl_Writer) (q_Writer_end := q_Writer_end) (q_Writer_put := q_Writer_put) (q_Writer_init := q_Writer_init) (q_need_row := q_need_row) (q_signs_of := q_signs_of) (q_need_room := q_need_room) (q_need_model := q_need_model)⟩⟩
  have q_Writer_digits : CalM P w K mg base CX0 2 C_Writer "digits" ["self"] (spWDigits K C_Shares C_Plain C_Learner C_Ahead C_Blend C_Writer) := ⟨⟨f_Writer_digits, fd_Writer_digits, ⟨a_Writer_digits, i_Writer_digits, F_Writer_digits.kp⟩, bd_Writer_digits, ok_Writer_digits F_Writer_digits (cl_Writer := cl_Writer) (n_Writer_full := n_Writer_full) (n_Writer_sure := n_Writer_sure) (n_Writer_low := n_Writer_low) (n_Writer_width := n_Writer_width) (n_Writer_room := n_Writer_room) (q_Writer_waiting := q_Writer_waiting) (q_digits_of := q_digits_of)⟩⟩
  have q_l_word : WordQ P w K mg base s_l_word ["_law_work", "e", "_law_kinds", "_law_word_here"] (TWord K [C_BadModel, C_BadSign, C_BadShare, C_BadRow, C_BadCode, C_BadRoom, C_BadCount, C_BadNumber, C_BadText] C_StretchError) := ⟨⟨f_l_word, fd_l_word, F_l_word, PySem.W.mg_of X G a_l_word, bd_l_word⟩, sc_l_word, rfl, .inl rfl, fun hr => gives_word (b_isinstance := b_isinstance) (b_ValueError := b_ValueError) (g_BadText := g_BadText) (g_BadNumber := g_BadNumber) (g_BadCount := g_BadCount) (g_BadRoom := g_BadRoom) (g_BadCode := g_BadCode) (g_BadRow := g_BadRow) (g_BadShare := g_BadShare) (g_BadSign := g_BadSign) (g_BadModel := g_BadModel) (g_StretchError := g_StretchError) hr⟩
  exact ok_law F_law (b_range := b_range) (b_len := b_len) (cl_Writer := cl_Writer) (kd_BadSign := kd_BadSign) (kd_BadCount := kd_BadCount) (q_Writer_end := q_Writer_end) (q_Writer_put := q_Writer_put) (q_l_word := q_l_word) (q_Writer_digits := q_Writer_digits) (q_written := q_written) (q_l_taken := q_l_taken) (q_l_signs := q_l_signs) (q_Writer_init := q_Writer_init) (q_l_room := q_l_room) (q_l_any := q_l_any) (tb_ := tb_law)
theorem walk {l : PySem.W.OpenLaw} {q : Program} {loose : List Str} {XP : (Str → Option Value) → Heap → Prop} {YP : World → Heap → Prop} {d : DefRec} {K : Params → PySem.W.Frag} (names : List Str) (hn : l.most = some 63) (hdf : d.params.defaults = [])
    (hrec : ∀ x ∈ names, ∃ e, (PyProof.Rows.recsOf q).find? (fun e => e.name == x) = some e) (hY : ∀ (w : World) (h : Heap), YP w h → (K w.params).In h)
    (F : ∀ (w : World) (mg : Str → Option Value) (fa : Addr) (h : Heap), (K w.params).In h → h.Ns mainGlobals mg → mg d.name = some (.ref fa) → LawHas names l.prog w (K w.params) mg 20 fa) :
    PySem.W.WalkO q loose XP YP l.row.toRowW d [] (fun f vs => PySem.call f vs) := by
  refine Att.attach_callB hn hdf fun w sA sB mg mb fa oL pm cd doc aS us ns gd Y hoL hdL hcL hfa hoS his hlen hbits hgens => ?_
  have KX := hY w _ Y
  obtain ⟨cs, fd, sp, hcs, hbind, hsp, hF⟩ := F w mg fa _ KX gd.T.g hfa
  have tabs : ∀ p ∈ cs, PySem.W.CodeHd sB.heap p.2.1 p.2.2 ∧ sB.heap.get? p.2.2 = some { cls := .none, data := .fields #[] } := fun p hp => by
    obtain ⟨h1, h2, _⟩ := hcs p hp
    obtain ⟨e, he⟩ := hrec _ h1
    exact PySem.W.tab_of gd.T KX he h2
  have un : ∀ {R : Addr × Addr → Prop}, (∀ p ∈ cs, R p.2) → ∀ p ∈ cs.map (·.2), R p := fun h p hp => by
    obtain ⟨z, hz, rfl⟩ := List.mem_map.mp hp
    exact h z hz
  have dn : ∀ {R : Addr × Addr → Prop}, (∀ p ∈ cs.map (·.2), R p) → ∀ p ∈ cs, R p.2 := fun h p hp => h _ (List.mem_map.mpr ⟨p, hp, rfl⟩)
  exact LamX.law_callTs (cs := cs.map (·.2)) (CX := CX0) (sp := sp) KX gd.T.g gd.T.b gd.T.builtins gd.T.nolimit hgens (un fun p hp => (tabs p hp).2) (un fun p hp => (hcs p hp).2.2) (un fun p hp => (tabs p hp).1)
    gd.T.bmain hoS his (Nat.le_trans hlen (by decide)) ⟨rfl, by decide, by decide⟩ (fun base b1 b2 b3 => hF base b1 b2 (dn b3)) hbind (fun H hH hS => hsp H aS ns (dn (R := fun p => H p.2 = some (.tbl #[])) hH) hS) fun _ _ _ z => z
end G
local macro_rules | `(tactic| walk_at "fn_is") => `(tactic| (refine' G.FnD.of ?l ?c ?k; (case l => k_is); (case c => k_is); (case k => k_is)))
local macro_rules | `(tactic| walk_at "ox_is") => `(tactic| (refine' G.OexK.of ?l ?r; (case l => k_is); (case r => decide +kernel)))
local macro_rules | `(tactic| walk_at "fe_is") => `(tactic| (refine' G.FnE.of ?l ?c ?k; (case l => k_is); (case c => k_is); (case k => k_is)))
open PySem PySem.W PyProof.Rows in
set_option maxRecDepth 100000 in
set_option maxHeartbeats 0 in
theorem PySem.Challenge.cw_stretchcode_k18_whole_digits_are_never_t_holds : PySem.Challenge.rw_stretchcode_k18_whole_digits_are_never_t.Holds := by
  w_on; o_law; k_head; (case hw => w_witness2)
  k_fill
  refine G.walk (l := PySem.Challenge.rw_stretchcode_k18_whole_digits_are_never_t) ["law"] rfl rfl ?R (fun w h Y => PySem.W.km_in_of Y) ?F
  case R =>
    intro x hx
    simp only [List.mem_cons, List.not_mem_nil, or_false] at hx
    rcases hx with rfl
    · exact Option.isSome_iff_exists.mp (by decide +kernel)
  case F =>
    intro w mg fa h KX Gn hmg
    refine' G.all_mk KX Gn hmg ?aC_Ahead ?pg_Ahead ?hd_Ahead ?po_Ahead ?sa_Ahead ?aC_Blend ?pg_Blend ?hd_Blend ?po_Blend ?sa_Blend ?aC_Learner ?pg_Learner ?hd_Learner ?po_Learner ?sa_Learner ?aC_Plain ?pg_Plain ?hd_Plain ?po_Plain ?sa_Plain ?aC_Shares ?pg_Shares ?hd_Shares ?po_Shares ?sa_Shares ?aC_Writer ?pg_Writer ?hd_Writer ?po_Writer ?sa_Writer ?xb_isinstance ?xb_bool ?xb_int ?xn_Shares_signs ?xn_Shares_tree ?xk_MOST_COUNT ?xb_len ?xk_MOST_SIGNS ?xb_range ?xk_MOST_LIMIT ?xk_MOST_STEP ?xk_BLEND ?xk_AHEAD ?xk_LEARN ?xk_PLAIN ?xb_sum ?xk_MOST_PLAIN ?xb_tuple ?xk_MOST_WHOLE ?xk_MOST_WEIGHT ?xk_MOST_ORDER ?xb_str ?xk_MOST_DEEP ?xn_Plain_here ?xn_Learner_here ?xn_Learner_step ?xn_Learner_limit ?xn_Ahead_order ?xn_Ahead_numbers ?xn_Ahead_last ?xn_Ahead_known ?xn_Blend_one ?xn_Blend_other ?xn_Blend_weight ?xb_list ?xb_zip ?xk_MOST_ROW ?xk_MOST_ROOM ?xk_LEAST_ROOM ?xn_Writer_wait ?xn_Writer_low ?xn_Writer_sure ?xn_Writer_full ?xn_Writer_width ?xn_Writer_signs ?xn_Writer_mind ?xn_Writer_room ?xn_Writer_many ?x1xc_BadCount ?x2xc_BadCount ?x3xc_BadCount ?x4xc_BadCount ?x5xc_BadCount ?x6xc_BadCount ?x7xc_BadCount ?x1xc_BadSign ?x2xc_BadSign ?x3xc_BadSign ?x4xc_BadSign ?x5xc_BadSign ?x6xc_BadSign ?x7xc_BadSign ?xb_ValueError ?xg_BadText ?xg_BadNumber ?xg_BadCount ?xg_BadRoom ?xg_BadCode ?xg_BadRow ?xg_BadShare ?xg_BadSign ?xg_BadModel ?xg_StretchError ?kc_ci_BadModel ?kc_ct_BadModel ?kc_cn_BadModel ?kc_ci_BadSign ?kc_ct_BadSign ?kc_cn_BadSign ?kc_ci_BadShare ?kc_ct_BadShare ?kc_cn_BadShare ?kc_ci_BadRow ?kc_ct_BadRow ?kc_cn_BadRow ?kc_ci_BadCode ?kc_ct_BadCode ?kc_cn_BadCode ?kc_ci_BadRoom ?kc_ct_BadRoom ?kc_cn_BadRoom ?kc_ci_BadCount ?kc_ct_BadCount ?kc_cn_BadCount ?kc_ci_BadNumber ?kc_ct_BadNumber ?kc_cn_BadNumber ?kc_ci_BadText ?kc_ct_BadText ?kc_cn_BadText ?kc_ci_StretchError ?kc_ct_StretchError ?kc_cn_StretchError ?kc_sb ?kc_sd ?ks_BadSign_BadModel ?ks_BadSign_BadSign ?ks_BadSign_BadShare ?ks_BadSign_BadRow ?ks_BadSign_BadCode ?ks_BadSign_BadRoom ?ks_BadSign_BadCount ?ks_BadSign_BadNumber ?ks_BadSign_BadText ?ks_BadSign_S ?ks_BadSign_V ?ke_BadSign_hg ?ke_BadSign_hk ?ke_BadSign_hs ?ke_BadSign_hd ?ke_BadSign_ha ?ke_hn ?ke_ht ?ke_BadSign_hm ?ks_BadCount_BadModel ?ks_BadCount_BadSign ?ks_BadCount_BadShare ?ks_BadCount_BadRow ?ks_BadCount_BadCode ?ks_BadCount_BadRoom ?ks_BadCount_BadCount ?ks_BadCount_BadNumber ?ks_BadCount_BadText ?ks_BadCount_S ?ks_BadCount_V ?ke_BadCount_hg ?ke_BadCount_hk ?ke_BadCount_hs ?ke_BadCount_hd ?ke_BadCount_ha ?ke_BadCount_hm ?a_is_within ?d_is_within ?a_Shares_climb ?i_Shares_climb ?d_Shares_climb ?a_Shares_need_sign ?i_Shares_need_sign ?d_Shares_need_sign ?a_need_counts ?d_need_counts ?a_Shares_ahead_of ?i_Shares_ahead_of ?d_Shares_ahead_of ?a_Shares_many_of ?i_Shares_many_of ?d_Shares_many_of ?a_Shares_whole ?i_Shares_whole ?d_Shares_whole ?a_Shares_init ?i_Shares_init ?mk_Shares ?kc_Shares ?d_Shares_init ?a_Shares_grow ?i_Shares_grow ?d_Shares_grow ?a_Shares_all_counts ?i_Shares_all_counts ?d_Shares_all_counts ?a_Shares_halve ?i_Shares_halve ?d_Shares_halve ?a_l_taken ?d_l_taken ?a_are_learning ?d_are_learning ?a_signs_of ?d_signs_of ?a_most_of ?d_most_of ?a_is_plain ?d_is_plain ?a_is_model ?d_is_model ?a_need_model ?d_need_model ?a_Plain_init ?i_Plain_init ?mk_Plain ?kc_Plain ?d_Plain_init ?a_Plain_now ?i_Plain_now ?d_Plain_now ?a_Plain_learn ?i_Plain_learn ?d_Plain_learn ?a_Learner_init ?i_Learner_init ?mk_Learner ?kc_Learner ?d_Learner_init ?a_Learner_now ?i_Learner_now ?d_Learner_now ?a_Learner_learn ?i_Learner_learn ?d_Learner_learn ?a_Ahead_init ?i_Ahead_init ?mk_Ahead ?kc_Ahead ?d_Ahead_init ?a_Ahead_learner ?i_Ahead_learner ?d_Ahead_learner ?a_Ahead_now ?i_Ahead_now ?d_Ahead_now ?a_Ahead_learn ?i_Ahead_learn ?d_Ahead_learn ?a_Blend_init ?i_Blend_init ?mk_Blend ?kc_Blend ?d_Blend_init ?a_Blend_now ?i_Blend_now ?d_Blend_now ?a_Blend_learn ?i_Blend_learn ?d_Blend_learn ?a_begun ?d_begun ?a_l_most ?d_l_most ?a_l_model ?d_l_model ?a_l_any ?d_l_any ?a_l_signs ?d_l_signs ?a_need_row ?d_need_row ?a_need_room ?d_need_room ?a_l_room ?d_l_room ?a_digits_of ?d_digits_of ?a_fewest ?d_fewest ?a_Writer_carried ?i_Writer_carried ?d_Writer_carried ?a_Writer_waiting ?i_Writer_waiting ?d_Writer_waiting ?a_Writer_carry ?i_Writer_carry ?d_Writer_carry ?a_Writer_shift ?i_Writer_shift ?d_Writer_shift ?a_Writer_init ?i_Writer_init ?mk_Writer ?kc_Writer ?d_Writer_init ?a_Writer_put ?i_Writer_put ?d_Writer_put ?a_Writer_end ?i_Writer_end ?d_Writer_end ?a_written ?d_written ?a_Writer_digits ?i_Writer_digits ?d_Writer_digits ?a_l_word ?d_l_word ?a_law ?d_law ?tab_law ?nt_law
    (case aC_Ahead => k_is)
    (case aC_Blend => k_is)
    (case aC_Learner => k_is)
    (case aC_Plain => k_is)
    (case aC_Shares => k_is)
    (case aC_Writer => k_is)
    (case xb_isinstance => k_is)
    (case xb_bool => k_is)
    (case xb_int => k_is)
    (case xk_MOST_COUNT => k_is)
    (case xb_len => k_is)
    (case xk_MOST_SIGNS => k_is)
    (case xb_range => k_is)
    (case xk_MOST_LIMIT => k_is)
    (case xk_MOST_STEP => k_is)
    (case xk_BLEND => k_is)
    (case xk_AHEAD => k_is)
    (case xk_LEARN => k_is)
    (case xk_PLAIN => k_is)
    (case xb_sum => k_is)
    (case xk_MOST_PLAIN => k_is)
    (case xb_tuple => k_is)
    (case xk_MOST_WHOLE => k_is)
    (case xk_MOST_WEIGHT => k_is)
    (case xk_MOST_ORDER => k_is)
    (case xb_str => k_is)
    (case xk_MOST_DEEP => k_is)
    (case xb_list => k_is)
    (case xb_zip => k_is)
    (case xk_MOST_ROW => k_is)
    (case xk_MOST_ROOM => k_is)
    (case xk_LEAST_ROOM => k_is)
    (case x1xc_BadCount => k_is)
    (case x1xc_BadSign => k_is)
    (case xb_ValueError => k_is)
    (case xg_BadText => k_is)
    (case xg_BadNumber => k_is)
    (case xg_BadCount => k_is)
    (case xg_BadRoom => k_is)
    (case xg_BadCode => k_is)
    (case xg_BadRow => k_is)
    (case xg_BadShare => k_is)
    (case xg_BadSign => k_is)
    (case xg_BadModel => k_is)
    (case xg_StretchError => k_is)
    (case kc_cn_BadModel => k_is)
    (case kc_cn_BadSign => k_is)
    (case kc_cn_BadShare => k_is)
    (case kc_cn_BadRow => k_is)
    (case kc_cn_BadCode => k_is)
    (case kc_cn_BadRoom => k_is)
    (case kc_cn_BadCount => k_is)
    (case kc_cn_BadNumber => k_is)
    (case kc_cn_BadText => k_is)
    (case kc_cn_StretchError => k_is)
    (case a_is_within => k_is)
    (case a_need_counts => k_is)
    (case a_l_taken => k_is)
    (case a_are_learning => k_is)
    (case a_signs_of => k_is)
    (case a_most_of => k_is)
    (case a_is_plain => k_is)
    (case a_is_model => k_is)
    (case a_need_model => k_is)
    (case a_begun => k_is)
    (case a_l_most => k_is)
    (case a_l_model => k_is)
    (case a_l_any => k_is)
    (case a_l_signs => k_is)
    (case a_need_row => k_is)
    (case a_need_room => k_is)
    (case a_l_room => k_is)
    (case a_digits_of => k_is)
    (case a_fewest => k_is)
    (case a_written => k_is)
    (case a_l_word => k_is)
    (case a_law => k_is)
    (case pg_Ahead => k_is)
    (case hd_Ahead => k_is)
    (case po_Ahead => k_is)
    (case sa_Ahead => k_is)
    (case pg_Blend => k_is)
    (case hd_Blend => k_is)
    (case po_Blend => k_is)
    (case sa_Blend => k_is)
    (case pg_Learner => k_is)
    (case hd_Learner => k_is)
    (case po_Learner => k_is)
    (case sa_Learner => k_is)
    (case pg_Plain => k_is)
    (case hd_Plain => k_is)
    (case po_Plain => k_is)
    (case sa_Plain => k_is)
    (case pg_Shares => k_is)
    (case hd_Shares => k_is)
    (case po_Shares => k_is)
    (case sa_Shares => k_is)
    (case pg_Writer => k_is)
    (case hd_Writer => k_is)
    (case po_Writer => k_is)
    (case sa_Writer => k_is)
    (case xn_Shares_signs => k_is)
    (case xn_Shares_tree => k_is)
    (case xn_Plain_here => k_is)
    (case xn_Learner_here => k_is)
    (case xn_Learner_step => k_is)
    (case xn_Learner_limit => k_is)
    (case xn_Ahead_order => k_is)
    (case xn_Ahead_numbers => k_is)
    (case xn_Ahead_last => k_is)
    (case xn_Ahead_known => k_is)
    (case xn_Blend_one => k_is)
    (case xn_Blend_other => k_is)
    (case xn_Blend_weight => k_is)
    (case xn_Writer_wait => k_is)
    (case xn_Writer_low => k_is)
    (case xn_Writer_sure => k_is)
    (case xn_Writer_full => k_is)
    (case xn_Writer_width => k_is)
    (case xn_Writer_signs => k_is)
    (case xn_Writer_mind => k_is)
    (case xn_Writer_room => k_is)
    (case xn_Writer_many => k_is)
    (case x2xc_BadCount => first | k_exc | k_is)
    (case x3xc_BadCount => k_is)
    (case x4xc_BadCount => k_is)
    (case x5xc_BadCount => k_is)
    (case x6xc_BadCount => k_is)
    (case x7xc_BadCount => first | rfl | k_is)
    (case x2xc_BadSign => first | k_exc | k_is)
    (case x3xc_BadSign => k_is)
    (case x4xc_BadSign => k_is)
    (case x5xc_BadSign => k_is)
    (case x6xc_BadSign => k_is)
    (case x7xc_BadSign => first | rfl | k_is)
    (case kc_ci_BadModel => k_is)
    (case kc_ct_BadModel => k_is)
    (case kc_ci_BadSign => k_is)
    (case kc_ct_BadSign => k_is)
    (case kc_ci_BadShare => k_is)
    (case kc_ct_BadShare => k_is)
    (case kc_ci_BadRow => k_is)
    (case kc_ct_BadRow => k_is)
    (case kc_ci_BadCode => k_is)
    (case kc_ct_BadCode => k_is)
    (case kc_ci_BadRoom => k_is)
    (case kc_ct_BadRoom => k_is)
    (case kc_ci_BadCount => k_is)
    (case kc_ct_BadCount => k_is)
    (case kc_ci_BadNumber => k_is)
    (case kc_ct_BadNumber => k_is)
    (case kc_ci_BadText => k_is)
    (case kc_ct_BadText => k_is)
    (case kc_ci_StretchError => k_is)
    (case kc_ct_StretchError => k_is)
    (case kc_sb => k_is)
    (case kc_sd => k_is)
    (case ks_BadSign_BadModel => first | rfl | k_is)
    (case ks_BadSign_BadSign => first | rfl | k_is)
    (case ks_BadSign_BadShare => first | rfl | k_is)
    (case ks_BadSign_BadRow => first | rfl | k_is)
    (case ks_BadSign_BadCode => first | rfl | k_is)
    (case ks_BadSign_BadRoom => first | rfl | k_is)
    (case ks_BadSign_BadCount => first | rfl | k_is)
    (case ks_BadSign_BadNumber => first | rfl | k_is)
    (case ks_BadSign_BadText => first | rfl | k_is)
    (case ks_BadSign_S => k_is)
    (case ks_BadSign_V => k_is)
    (case ke_BadSign_hg => k_is)
    (case ke_BadSign_hk => k_is)
    (case ke_BadSign_hs => k_is)
    (case ke_BadSign_hd => k_is)
    (case ke_BadSign_ha => k_is)
    (case ke_hn => k_is)
    (case ke_ht => k_is)
    (case ke_BadSign_hm => k_is)
    (case ks_BadCount_BadModel => first | rfl | k_is)
    (case ks_BadCount_BadSign => first | rfl | k_is)
    (case ks_BadCount_BadShare => first | rfl | k_is)
    (case ks_BadCount_BadRow => first | rfl | k_is)
    (case ks_BadCount_BadCode => first | rfl | k_is)
    (case ks_BadCount_BadRoom => first | rfl | k_is)
    (case ks_BadCount_BadCount => first | rfl | k_is)
    (case ks_BadCount_BadNumber => first | rfl | k_is)
    (case ks_BadCount_BadText => first | rfl | k_is)
    (case ks_BadCount_S => k_is)
    (case ks_BadCount_V => k_is)
    (case ke_BadCount_hg => k_is)
    (case ke_BadCount_hk => k_is)
    (case ke_BadCount_hs => k_is)
    (case ke_BadCount_hd => k_is)
    (case ke_BadCount_ha => k_is)
    (case ke_BadCount_hm => k_is)
    (case d_is_within => walk_at "fn_is")
    (case a_Shares_climb => k_is)
    (case i_Shares_climb => k_is)
    (case d_Shares_climb => walk_at "fn_is")
    (case a_Shares_need_sign => k_is)
    (case i_Shares_need_sign => k_is)
    (case d_Shares_need_sign => walk_at "fn_is")
    (case d_need_counts => walk_at "fn_is")
    (case a_Shares_ahead_of => k_is)
    (case i_Shares_ahead_of => k_is)
    (case d_Shares_ahead_of => walk_at "fn_is")
    (case a_Shares_many_of => k_is)
    (case i_Shares_many_of => k_is)
    (case d_Shares_many_of => walk_at "fn_is")
    (case a_Shares_whole => k_is)
    (case i_Shares_whole => k_is)
    (case d_Shares_whole => walk_at "fn_is")
    (case a_Shares_init => k_is)
    (case i_Shares_init => k_is)
    (case mk_Shares => k_is)
    (case kc_Shares => k_is)
    (case d_Shares_init => walk_at "fn_is")
    (case a_Shares_grow => k_is)
    (case i_Shares_grow => k_is)
    (case d_Shares_grow => walk_at "fn_is")
    (case a_Shares_all_counts => k_is)
    (case i_Shares_all_counts => k_is)
    (case d_Shares_all_counts => walk_at "fn_is")
    (case a_Shares_halve => k_is)
    (case i_Shares_halve => k_is)
    (case d_Shares_halve => walk_at "fn_is")
    (case d_l_taken => walk_at "fn_is")
    (case d_are_learning => walk_at "fn_is")
    (case d_signs_of => walk_at "fn_is")
    (case d_most_of => walk_at "fn_is")
    (case d_is_plain => walk_at "fn_is")
    (case d_is_model => walk_at "fn_is")
    (case d_need_model => walk_at "fn_is")
    (case a_Plain_init => k_is)
    (case i_Plain_init => k_is)
    (case mk_Plain => k_is)
    (case kc_Plain => k_is)
    (case d_Plain_init => walk_at "fn_is")
    (case a_Plain_now => k_is)
    (case i_Plain_now => k_is)
    (case d_Plain_now => walk_at "fn_is")
    (case a_Plain_learn => k_is)
    (case i_Plain_learn => k_is)
    (case d_Plain_learn => walk_at "fn_is")
    (case a_Learner_init => k_is)
    (case i_Learner_init => k_is)
    (case mk_Learner => k_is)
    (case kc_Learner => k_is)
    (case d_Learner_init => walk_at "fn_is")
    (case a_Learner_now => k_is)
    (case i_Learner_now => k_is)
    (case d_Learner_now => walk_at "fn_is")
    (case a_Learner_learn => k_is)
    (case i_Learner_learn => k_is)
    (case d_Learner_learn => walk_at "fn_is")
    (case a_Ahead_init => k_is)
    (case i_Ahead_init => k_is)
    (case mk_Ahead => k_is)
    (case kc_Ahead => k_is)
    (case d_Ahead_init => walk_at "fn_is")
    (case a_Ahead_learner => k_is)
    (case i_Ahead_learner => k_is)
    (case d_Ahead_learner => walk_at "fn_is")
    (case a_Ahead_now => k_is)
    (case i_Ahead_now => k_is)
    (case d_Ahead_now => walk_at "fn_is")
    (case a_Ahead_learn => k_is)
    (case i_Ahead_learn => k_is)
    (case d_Ahead_learn => walk_at "fn_is")
    (case a_Blend_init => k_is)
    (case i_Blend_init => k_is)
    (case mk_Blend => k_is)
    (case kc_Blend => k_is)
    (case d_Blend_init => walk_at "fn_is")
    (case a_Blend_now => k_is)
    (case i_Blend_now => k_is)
    (case d_Blend_now => walk_at "fn_is")
    (case a_Blend_learn => k_is)
    (case i_Blend_learn => k_is)
    (case d_Blend_learn => walk_at "fn_is")
    (case d_begun => walk_at "fn_is")
    (case d_l_most => walk_at "fn_is")
    (case d_l_model => walk_at "fn_is")
    (case d_l_any => walk_at "fn_is")
    (case d_l_signs => walk_at "fn_is")
    (case d_need_row => walk_at "fn_is")
    (case d_need_room => walk_at "fn_is")
    (case d_l_room => walk_at "fn_is")
    (case d_digits_of => walk_at "fn_is")
    (case d_fewest => walk_at "fn_is")
    (case a_Writer_carried => k_is)
    (case i_Writer_carried => k_is)
    (case d_Writer_carried => walk_at "fn_is")
    (case a_Writer_waiting => k_is)
    (case i_Writer_waiting => k_is)
    (case d_Writer_waiting => walk_at "fn_is")
    (case a_Writer_carry => k_is)
    (case i_Writer_carry => k_is)
    (case d_Writer_carry => walk_at "fn_is")
    (case a_Writer_shift => k_is)
    (case i_Writer_shift => k_is)
    (case d_Writer_shift => walk_at "fn_is")
    (case a_Writer_init => k_is)
    (case i_Writer_init => k_is)
    (case mk_Writer => k_is)
    (case kc_Writer => k_is)
    (case d_Writer_init => walk_at "fn_is")
    (case a_Writer_put => k_is)
    (case i_Writer_put => k_is)
    (case d_Writer_put => walk_at "fn_is")
    (case a_Writer_end => k_is)
    (case i_Writer_end => k_is)
    (case d_Writer_end => walk_at "fn_is")
    (case d_written => walk_at "fn_is")
    (case a_Writer_digits => k_is)
    (case i_Writer_digits => k_is)
    (case d_Writer_digits => walk_at "fn_is")
    (case d_l_word => walk_at "fn_is")
    (case d_law => walk_at "fe_is")
    (case tab_law => first | rfl | k_is)
    (case nt_law => first | rfl | k_is)
