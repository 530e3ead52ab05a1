import PyProof.Rows.All
import Wide.All
import OpenK.AllK
import Wide.FinOn
import HandS.ForMost
import HandS.Wide
import HandS.WideBits
import HandS.Gcd
import HandS.Zip
import HandS.TupAny
import HandS.TupMul
import HandS.Conv
import HandS.Rev
import HandS.IsInst
import HandS.Style
import HandS.SortInts
import HandS.Walk
import HandS.Flow
import PyProof.NeKinds
import HandS.Words
import HandS.EndBits
import HandS.Dict
import KE.GoesMore
import KE.GoesEnum
import KE.GoesZip
import PyProof.Rows.ReprOcc
import PyProof.ReprLen
import PyProof.Rows.ReprShort
import PySem.Challenge.RW_sweepends_k48_whole_tidy_steps
set_option Elab.async false
set_option linter.all false
set_option maxRecDepth 100000
set_option maxHeartbeats 2000000
namespace Dn
open PySem PySem.Spec PyProof.Rows L2

abbrev D := PyData
/-- what a slot holds: a value that nobody changes any more, or a list that this slot alone owns (pin: lent by the caller) -/
inductive Slot where
  | val (d : D)
  | own (pin : Bool) (xs : List D)
abbrev Rho := List (Option Slot)
/-- an expression's result: a value, a new list, the list owned by slot i -/
inductive R where
  | v (d : D)
  | o (xs : List D)
  | b (i : Nat)

/-- a list of the module's own -/
def KL (K : PySem.W.Frag) (a : Addr) (xs : List V) : Prop :=
  ∃ (its : List Value) (n : Nat), K.lookup a = some { cls := .type "list", data := .seq its.toArray n } ∧ xs.length ≤ sizeLine ∧ Vals xs its
def LA (K : PySem.W.Frag) (H : Hp) (A : Addr → Prop) (a : Addr) (xs : List V) : Prop := (¬ A a ∧ Rd H a (.lst xs)) ∨ KL K a xs
/-- a list that may be read -/
def LV (K : PySem.W.Frag) (H : Hp) (a : Addr) (xs : List V) : Prop := Rd H a (.lst xs) ∨ KL K a xs
theorem LA.lv {K : PySem.W.Frag} {H : Hp} {A : Addr → Prop} {a : Addr} {xs : List V} (h : LA K H A a xs) : LV K H a xs := h.imp (·.2) id
theorem LV.sq {K : PySem.W.Frag} {H : Hp} {a : Addr} {xs : List V} (h : LV K H a xs) : SqL K H a xs := h.imp id fun ⟨its, n, e, z, r⟩ => ⟨_, its.toArray, n, e, rfl, rfl, rfl, by rw [List.size_toArray, ← r.length]; exact z, r⟩
mutual
def Rep (K : PySem.W.Frag) (H : Hp) (A : Addr → Prop) : D → V → Prop
  | .none, v => v = .non
  | .bool b, v => v = .bl b
  | .int i, v => v = .int i
  | .str x, v => v = .str x
  | .list ds, v => ∃ a xs, v = .ref a ∧ LA K H A a xs ∧ RepA K H A ds xs
  | .tuple ds, v => ∃ a xs, v = .ref a ∧ SqT K H a xs ∧ RepA K H A ds xs
  | .dict _, v => ∃ a kvs, v = .ref a ∧ ¬ A a ∧ H a = some (.dK kvs)
def RepA (K : PySem.W.Frag) (H : Hp) (A : Addr → Prop) : List D → List V → Prop
  | [], xs => xs = []
  | d :: ds, xs => ∃ x r, xs = x :: r ∧ Rep K H A d x ∧ RepA K H A ds r
end

section
variable {K : PySem.W.Frag} {H H' : Hp} {A A' W : Addr → Prop}
/-- values under a step: W may change (lists that A bars) -/
theorem repBoth (hH : ∀ b o, H b = some o → ¬ W b → H' b = some o) (hW : ∀ b, W b → A b ∧ ∃ xs, H b = some (.lst xs)) (hA : ∀ b, H b ≠ none → A' b → A b) :
    ∀ n, (∀ d v, sizeOf d ≤ n → Rep K H A d v → Rep K H' A' d v) ∧ (∀ ds vs, sizeOf ds ≤ n → RepA K H A ds vs → RepA K H' A' ds vs) := by
  intro n
  induction n with
  | zero =>
    refine ⟨fun d v hs _ => ?_, fun ds vs hs _ => ?_⟩
    · cases d <;> simp at hs <;> omega
    · cases ds <;> simp at hs <;> omega
  | succ n ih =>
    refine ⟨fun d v hs h => ?_, fun ds vs hs h => ?_⟩
    · cases d with
      | none => exact h
      | bool b => exact h
      | int i => exact h
      | str x => exact h
      | list ds =>
        unfold Rep at h ⊢
        obtain ⟨a, xs, e, na, hx⟩ := h
        refine ⟨a, xs, e, ?_, ih.2 ds xs (by simp at hs; omega) hx⟩
        rcases na with ⟨na, hr⟩ | na
        case inr => exact .inr na
        have nw : ¬ W a := fun z => na (hW a z).1
        refine .inl ⟨fun z => ?_, ?_⟩
        · rcases hr with hr | ⟨o, hr⟩
          · exact na (hA a (by rw [hr]; simp) z)
          · exact na (hA a (by rw [hr]; simp) z)
        · rcases hr with hr | ⟨o, hr⟩
          · exact .inl (hH _ _ hr nw)
          · exact .inr ⟨o, hH _ _ hr nw⟩
      | tuple ds =>
        unfold Rep at h ⊢
        obtain ⟨a, xs, e, hr, hx⟩ := h
        refine ⟨a, xs, e, ?_, ih.2 ds xs (by simp at hs; omega) hx⟩
        rcases hr with (hr | ⟨o, hr⟩) | hr
        · have nw : ¬ W a := fun z => by
            obtain ⟨_, ys, q⟩ := hW a z
            rw [q] at hr; cases hr
          exact .inl (.inl (hH _ _ hr nw))
        · have nw : ¬ W a := fun z => by
            obtain ⟨_, ys, q⟩ := hW a z
            rw [q] at hr; cases hr
          exact .inl (.inr ⟨o, hH _ _ hr nw⟩)
        · exact .inr hr
      | dict kvs =>
        unfold Rep at h ⊢
        obtain ⟨a, xs, e, na, hr⟩ := h
        have nw : ¬ W a := fun z => na (hW a z).1
        exact ⟨a, xs, e, fun z => na (hA a (by rw [hr]; simp) z), hH _ _ hr nw⟩
    · cases ds with
      | nil => unfold RepA at h ⊢; exact h
      | cons d ds =>
        unfold RepA at h ⊢
        obtain ⟨x, r, e, h1, h2⟩ := h
        exact ⟨x, r, e, ih.1 d x (by simp at hs; omega) h1, ih.2 ds r (by simp at hs; omega) h2⟩
theorem Rep.stp {d : D} {v : V} (h : Rep K H A d v) (hH : ∀ b o, H b = some o → ¬ W b → H' b = some o) (hW : ∀ b, W b → A b ∧ ∃ xs, H b = some (.lst xs)) (hA : ∀ b, H b ≠ none → A' b → A b) : Rep K H' A' d v :=
  (repBoth hH hW hA (sizeOf d)).1 d v (Nat.le_refl _) h
theorem RepA.stp {ds : List D} {vs : List V} (h : RepA K H A ds vs) (hH : ∀ b o, H b = some o → ¬ W b → H' b = some o) (hW : ∀ b, W b → A b ∧ ∃ xs, H b = some (.lst xs)) (hA : ∀ b, H b ≠ none → A' b → A b) : RepA K H' A' ds vs :=
  (repBoth hH hW hA (sizeOf ds)).2 ds vs (Nat.le_refl _) h
/-- nothing changed, fewer addresses barred -/
theorem Rep.same {d : D} {v : V} (h : Rep K H A d v) (hH : Same H H') (hA : ∀ b, H b ≠ none → A' b → A b) : Rep K H' A' d v :=
  h.stp (W := fun _ => False) (fun b o q _ => hH b o q) (fun _ z => z.elim) hA
theorem RepA.same {ds : List D} {vs : List V} (h : RepA K H A ds vs) (hH : Same H H') (hA : ∀ b, H b ≠ none → A' b → A b) : RepA K H' A' ds vs :=
  h.stp (W := fun _ => False) (fun b o q _ => hH b o q) (fun _ z => z.elim) hA
theorem Rep.mono {d : D} {v : V} (h : Rep K H A d v) (hA : ∀ b, A' b → A b) : Rep K H A' d v := h.same (Same.refl _) fun b _ z => hA b z
theorem RepA.mono {ds : List D} {vs : List V} (h : RepA K H A ds vs) (hA : ∀ b, A' b → A b) : RepA K H A' ds vs := h.same (Same.refl _) fun b _ z => hA b z
theorem RepA.len : ∀ {ds : List D} {vs : List V}, RepA K H A ds vs → vs.length = ds.length
  | [], vs, h => by unfold RepA at h; subst h; rfl
  | d :: ds, vs, h => by
    unfold RepA at h
    obtain ⟨x, r, rfl, _, h2⟩ := h
    simp [RepA.len h2]
theorem RepA.nil : RepA K H A [] [] := by unfold RepA; rfl
theorem RepA.cons {d : D} {ds : List D} {v : V} {vs : List V} (h : Rep K H A d v) (t : RepA K H A ds vs) : RepA K H A (d :: ds) (v :: vs) := by
  unfold RepA; exact ⟨v, vs, rfl, h, t⟩
theorem RepA.get : ∀ {ds : List D} {vs : List V} {i : Nat} {d : D}, RepA K H A ds vs → ds[i]? = some d → ∃ v, vs[i]? = some v ∧ Rep K H A d v
  | [], _, _, _, _, e => by simp at e
  | x :: ds, vs, i, d, h, e => by
    unfold RepA at h
    obtain ⟨y, r, rfl, h1, h2⟩ := h
    cases i with
    | zero => simp at e; subst e; exact ⟨y, rfl, h1⟩
    | succ i =>
      obtain ⟨v, e1, e2⟩ := RepA.get (i := i) h2 (by simpa using e)
      exact ⟨v, by simpa using e1, e2⟩
theorem RepA.get' : ∀ {ds : List D} {vs : List V} {i : Nat} {v : V}, RepA K H A ds vs → vs[i]? = some v → ∃ d, ds[i]? = some d ∧ Rep K H A d v
  | [], vs, _, _, h, e => by unfold RepA at h; subst h; simp at e
  | x :: ds, vs, i, v, h, e => by
    unfold RepA at h
    obtain ⟨y, r, rfl, h1, h2⟩ := h
    cases i with
    | zero => simp at e; subst e; exact ⟨x, rfl, h1⟩
    | succ i =>
      obtain ⟨d, e1, e2⟩ := RepA.get' (i := i) h2 (by simpa using e)
      exact ⟨d, by simpa using e1, e2⟩
theorem RepA.app : ∀ {ds es : List D} {vs us : List V}, RepA K H A ds vs → RepA K H A es us → RepA K H A (ds ++ es) (vs ++ us)
  | [], es, vs, us, h, t => by unfold RepA at h; subst h; exact t
  | d :: ds, es, vs, us, h, t => by
    unfold RepA at h
    obtain ⟨y, r, rfl, h1, h2⟩ := h
    exact .cons h1 (RepA.app h2 t)
theorem RepA.take : ∀ {ds : List D} {vs : List V} (n : Nat), RepA K H A ds vs → RepA K H A (ds.take n) (vs.take n)
  | _, _, 0, _ => by simp; exact .nil
  | [], vs, n + 1, h => by unfold RepA at h; subst h; simp; exact .nil
  | d :: ds, vs, n + 1, h => by
    unfold RepA at h
    obtain ⟨y, r, rfl, h1, h2⟩ := h
    exact .cons h1 (RepA.take n h2)
theorem RepA.drop : ∀ {ds : List D} {vs : List V} (n : Nat), RepA K H A ds vs → RepA K H A (ds.drop n) (vs.drop n)
  | _, _, 0, h => h
  | [], vs, n + 1, h => by unfold RepA at h; subst h; simp; exact .nil
  | d :: ds, vs, n + 1, h => by
    unfold RepA at h
    obtain ⟨y, r, rfl, h1, h2⟩ := h
    exact RepA.drop n h2
theorem RepA.setAt : ∀ {ds : List D} {vs : List V} (i : Nat) {d : D} {v : V}, RepA K H A ds vs → Rep K H A d v → RepA K H A (ds.set i d) (vs.set i v)
  | [], vs, _, _, _, h, _ => by unfold RepA at h; subst h; exact .nil
  | x :: ds, vs, 0, _, _, h, q => by
    unfold RepA at h
    obtain ⟨y, r, rfl, h1, h2⟩ := h
    exact .cons q h2
  | x :: ds, vs, i + 1, _, _, h, q => by
    unfold RepA at h
    obtain ⟨y, r, rfl, h1, h2⟩ := h
    exact .cons h1 (RepA.setAt i h2 q)
theorem RepA.rev {ds : List D} {vs : List V} (h : RepA K H A ds vs) : RepA K H A ds.reverse vs.reverse := by
  induction ds generalizing vs with
  | nil => unfold RepA at h; subst h; exact .nil
  | cons d ds ih =>
    unfold RepA at h
    obtain ⟨y, r, rfl, h1, h2⟩ := h
    rw [List.reverse_cons, List.reverse_cons]
    exact (ih h2).app (.cons h1 .nil)
theorem RepA.erase : ∀ {ds : List D} {vs : List V} (i : Nat), RepA K H A ds vs → RepA K H A (ds.eraseIdx i) (vs.eraseIdx i)
  | [], vs, _, h => by unfold RepA at h; subst h; exact .nil
  | x :: ds, vs, 0, h => by
    unfold RepA at h
    obtain ⟨y, r, rfl, h1, h2⟩ := h
    exact h2
  | x :: ds, vs, i + 1, h => by
    unfold RepA at h
    obtain ⟨y, r, rfl, h1, h2⟩ := h
    exact .cons h1 (RepA.erase i h2)
theorem RepA.dropLast : ∀ {ds : List D} {vs : List V}, RepA K H A ds vs → RepA K H A ds.dropLast vs.dropLast
  | [], vs, h => by unfold RepA at h; subst h; exact .nil
  | [x], vs, h => by
    unfold RepA at h
    obtain ⟨y, r, rfl, h1, h2⟩ := h
    unfold RepA at h2; subst h2; exact .nil
  | x :: x2 :: ds, vs, h => by
    have h0 := h
    unfold RepA at h
    obtain ⟨y, r, rfl, h1, h2⟩ := h
    have h3 := h2
    unfold RepA at h3
    obtain ⟨y2, r2, rfl, _, _⟩ := h3
    have := RepA.dropLast h2
    simpa [List.dropLast] using RepA.cons h1 this
theorem RepA.rep {ds : List D} {vs : List V} (h : RepA K H A ds vs) : ∀ k : Nat, RepA K H A (List.replicate k ds).flatten (List.replicate k vs).flatten
  | 0 => .nil
  | k + 1 => by
    rw [List.replicate_succ, List.replicate_succ, List.flatten_cons, List.flatten_cons]
    exact h.app (RepA.rep h k)
theorem RepA.ints {ns : List Int} : ∀ {vs : List V}, RepA K H A (ns.map PyData.int) vs → vs = ns.map V.int := by
  induction ns with
  | nil => intro vs h; unfold RepA at h; exact h
  | cons n ns ih =>
    intro vs h
    rw [List.map_cons] at h
    unfold RepA at h
    obtain ⟨y, r, rfl, h1, h2⟩ := h
    unfold Rep at h1
    rw [ih h2, h1]; rfl
theorem RepA.bools {ns : List Bool} : ∀ {vs : List V}, RepA K H A (ns.map PyData.bool) vs → vs = ns.map V.bl := by
  induction ns with
  | nil => intro vs h; unfold RepA at h; exact h
  | cons n ns ih =>
    intro vs h
    rw [List.map_cons] at h
    unfold RepA at h
    obtain ⟨y, r, rfl, h1, h2⟩ := h
    unfold Rep at h1
    rw [ih h2, h1]; rfl
theorem RepA.of_ints (ns : List Int) : RepA K H A (ns.map PyData.int) (ns.map V.int) := by
  induction ns with
  | nil => exact .nil
  | cons n ns ih => exact .cons (by unfold Rep; rfl) ih
end

/-! ### environments: slots beside the values that stand in them -/
abbrev Ent := List (Option Slot × Option V)
def Own (E : Ent) (a : Addr) : Prop := ∃ p xs, (some (Slot.own p xs), some (V.ref a)) ∈ E
def isOwn (p : Option Slot × Option V) (a : Addr) : Prop := ∃ b xs, p = (some (Slot.own b xs), some (V.ref a))
abbrev AO (B : Addr → Prop) (E : Ent) : Addr → Prop := fun a => B a ∨ Own E a
theorem own_iff {E : Ent} {a : Addr} : Own E a ↔ ∃ p ∈ E, isOwn p a := by
  constructor
  · rintro ⟨p, xs, h⟩; exact ⟨_, h, p, xs, rfl⟩
  · rintro ⟨p, h, b, xs, rfl⟩; exact ⟨b, xs, h⟩
theorem own_app {E F : Ent} {a : Addr} : Own (E ++ F) a ↔ Own E a ∨ Own F a := by
  constructor
  · rintro ⟨p, xs, h⟩
    rcases List.mem_append.mp h with h | h
    · exact .inl ⟨p, xs, h⟩
    · exact .inr ⟨p, xs, h⟩
  · rintro (⟨p, xs, h⟩ | ⟨p, xs, h⟩)
    · exact ⟨p, xs, List.mem_append_left _ h⟩
    · exact ⟨p, xs, List.mem_append_right _ h⟩
theorem own_cons {p : Option Slot × Option V} {E : Ent} {a : Addr} : Own (p :: E) a ↔ isOwn p a ∨ Own E a := by
  constructor
  · rintro ⟨b, xs, h⟩
    rcases List.mem_cons.mp h with h | h
    · exact .inl ⟨b, xs, h.symm⟩
    · exact .inr ⟨b, xs, h⟩
  · rintro (⟨b, xs, rfl⟩ | ⟨b, xs, h⟩)
    · exact ⟨b, xs, List.mem_cons_self⟩
    · exact ⟨b, xs, List.mem_cons_of_mem _ h⟩
theorem own_nil {a : Addr} : ¬ Own [] a := by rintro ⟨_, _, h⟩; cases h
abbrev Apart (p q : Option Slot × Option V) : Prop := ∀ a, isOwn p a → ¬ isOwn q a
theorem Apart.symm {p q : Option Slot × Option V} (h : Apart p q) : Apart q p := fun a x y => h a y x
structure ER (K : PySem.W.Frag) (H : Hp) (B : Addr → Prop) (E : Ent) : Prop where
  val : ∀ d v, (some (.val d), v) ∈ E → ∃ u, v = some u ∧ Rep K H (AO B E) d u
  own : ∀ p xs v, (some (.own p xs), v) ∈ E → ∃ a vs, v = some (.ref a) ∧ H a = some (.lst vs) ∧ RepA K H (AO B E) xs vs ∧ ¬ B a
  nd : E.Pairwise Apart
  trk : ∀ b, B b → H b ≠ none
section
variable {K : PySem.W.Frag} {H H' : Hp} {B B' : Addr → Prop} {E E' F T : Ent} {a : Addr}
theorem ER.lst (h : ER K H B E) (o : Own E a) : ∃ vs, H a = some (.lst vs) := by
  obtain ⟨p, xs, m⟩ := o
  obtain ⟨b, vs, e, hl, _⟩ := h.own p xs _ m
  cases e
  exact ⟨vs, hl⟩
theorem ER.notB (h : ER K H B E) (o : Own E a) : ¬ B a := by
  obtain ⟨p, xs, m⟩ := o
  obtain ⟨b, vs, e, _, _, nb⟩ := h.own p xs _ m
  cases e
  exact nb
theorem ER.perm (h : ER K H B E) (p : E.Perm E') : ER K H B E' := by
  have ho : ∀ a, Own E' a → Own E a := fun a ⟨b, xs, m⟩ => ⟨b, xs, p.mem_iff.mpr m⟩
  have hm : ∀ b, AO B E' b → AO B E b := fun b z => z.elim .inl fun z => .inr (ho b z)
  refine ⟨fun d v m => ?_, fun b xs v m => ?_, p.pairwise h.nd (fun q => Apart.symm q), h.trk⟩
  · obtain ⟨u, e, r⟩ := h.val d v (p.mem_iff.mpr m)
    exact ⟨u, e, r.mono hm⟩
  · obtain ⟨c, vs, e, hl, r, nb⟩ := h.own b xs v (p.mem_iff.mpr m)
    exact ⟨c, vs, e, hl, r.mono hm, nb⟩
theorem ER.sub (h : ER K H B E) (p : E'.Sublist E) : ER K H B E' := by
  have ho : ∀ a, Own E' a → Own E a := fun a ⟨b, xs, m⟩ => ⟨b, xs, p.mem m⟩
  have hm : ∀ b, AO B E' b → AO B E b := fun b z => z.elim .inl fun z => .inr (ho b z)
  refine ⟨fun d v m => ?_, fun b xs v m => ?_, h.nd.sublist p, h.trk⟩
  · obtain ⟨u, e, r⟩ := h.val d v (p.mem m)
    exact ⟨u, e, r.mono hm⟩
  · obtain ⟨c, vs, e, hl, r, nb⟩ := h.own b xs v (p.mem m)
    exact ⟨c, vs, e, hl, r.mono hm, nb⟩
theorem ER.left (h : ER K H B (E ++ F)) : ER K H B E := h.sub (List.sublist_append_left _ _)
theorem ER.right (h : ER K H B (E ++ F)) : ER K H B F := h.sub (List.sublist_append_right _ _)
/-- fewer addresses barred -/
theorem ER.monoB (h : ER K H B E) (hb : ∀ b, B' b → B b) : ER K H B' E := by
  have hm : ∀ b, AO B' E b → AO B E b := fun b z => z.elim (fun z => .inl (hb b z)) .inr
  refine ⟨fun d v m => ?_, fun b xs v m => ?_, h.nd, fun b z => h.trk b (hb b z)⟩
  · obtain ⟨u, e, r⟩ := h.val d v m
    exact ⟨u, e, r.mono hm⟩
  · obtain ⟨c, vs, e, hl, r, nb⟩ := h.own b xs v m
    exact ⟨c, vs, e, hl, r.mono hm, fun z => nb (hb c z)⟩
/-- the temporaries put aside -/
theorem ER.aside (h : ER K H B (E ++ T)) : ER K H (AO B T) E := by
  have hm : ∀ b, AO (AO B T) E b → AO B (E ++ T) b := fun b z => by
    rcases z with (z | z) | z
    · exact .inl z
    · exact .inr (own_app.mpr (.inr z))
    · exact .inr (own_app.mpr (.inl z))
  refine ⟨fun d v m => ?_, fun b xs v m => ?_, (List.pairwise_append.mp h.nd).1, fun b z => ?_⟩
  · obtain ⟨u, e, r⟩ := h.val d v (List.mem_append_left _ m)
    exact ⟨u, e, r.mono hm⟩
  · obtain ⟨c, vs, e, hl, r, nb⟩ := h.own b xs v (List.mem_append_left _ m)
    refine ⟨c, vs, e, hl, r.mono hm, fun z => ?_⟩
    rcases z with z | z
    · exact nb z
    · obtain ⟨q, hq, io⟩ := own_iff.mp z
      subst e
      exact (List.pairwise_append.mp h.nd).2.2 _ m q hq c ⟨b, xs, rfl⟩ io
  · rcases z with z | z
    · exact h.trk b z
    · obtain ⟨vs, q⟩ := h.right.lst z
      rw [q]; simp

/-- what a run keeps: all that is tracked but the own lists -/
structure Stp (E : Ent) (H : Hp) (E' : Ent) (H' : Hp) : Prop where
  keep : ∀ b o, H b = some o → ¬ Own E b → H' b = some o
  own : ∀ b, H b ≠ none → Own E' b → Own E b
  trk : ∀ b, H b ≠ none → H' b ≠ none
theorem Stp.refl : Stp E H E H := ⟨fun _ _ h _ => h, fun _ _ h => h, fun _ h => h⟩
theorem Stp.trans {E1 E2 : Ent} {H1 H2 : Hp} (x : Stp E H E1 H1) (y : Stp E1 H1 E2 H2) : Stp E H E2 H2 where
  keep := fun b o h n => y.keep b o (x.keep b o h n) fun z => n (x.own b (by rw [h]; simp) z)
  own := fun b h z => x.own b h (y.own b (x.trk b h) z)
  trk := fun b h => y.trk b (x.trk b h)
theorem Stp.same (h : Same H H') : Stp E H E H' := ⟨fun b o q _ => h b o q, fun _ _ q => q, fun b q => by
  cases e : H b with
  | none => exact absurd e q
  | some o => rw [h b o e]; simp⟩
/-- a value under a step -/
theorem Rep.step {d : D} {v : V} (h : Rep K H (AO B E) d v) (er : ER K H B E) (s : Stp E H E' H') : Rep K H' (AO B E') d v :=
  h.stp (W := Own E) s.keep (fun b z => ⟨.inr z, er.lst z⟩) fun b t z => z.elim .inl fun z => .inr (s.own b t z)
theorem RepA.step {ds : List D} {vs : List V} (h : RepA K H (AO B E) ds vs) (er : ER K H B E) (s : Stp E H E' H') : RepA K H' (AO B E') ds vs :=
  h.stp (W := Own E) s.keep (fun b z => ⟨.inr z, er.lst z⟩) fun b t z => z.elim .inl fun z => .inr (s.own b t z)
/-- .. and the temporaries taken back: F is what the run has brought besides -/
theorem ER.back (h : ER K H B (E ++ T)) (s : Stp E H E' H') (h' : ER K H' (AO B T) (E' ++ F)) (fr : ∀ a, Own F a → H a = none) : ER K H' B (E' ++ (T ++ F)) := by
  have ha := h.aside
  have hm : ∀ b, AO B (E' ++ (T ++ F)) b → AO (AO B T) (E' ++ F) b := fun b z => by
    rcases z with z | z
    · exact .inl (.inl z)
    · rcases own_app.mp z with z | z
      · exact .inr (own_app.mpr (.inl z))
      · rcases own_app.mp z with z | z
        · exact .inl (.inr z)
        · exact .inr (own_app.mpr (.inr z))
  -- how the temporaries' own values go over
  have hW : ∀ b, Own E b → AO B (E ++ T) b ∧ ∃ xs, H b = some (.lst xs) := fun b z => ⟨.inr (own_app.mpr (.inl z)), ha.lst z⟩
  have hA : ∀ b, H b ≠ none → AO B (E' ++ (T ++ F)) b → AO B (E ++ T) b := fun b t z => by
    rcases z with z | z
    · exact .inl z
    · rcases own_app.mp z with z | z
      · exact .inr (own_app.mpr (.inl (s.own b t z)))
      · rcases own_app.mp z with z | z
        · exact .inr (own_app.mpr (.inr z))
        · exact absurd (fr b z) t
  have hsplit : ∀ {x}, x ∈ E' ++ (T ++ F) → x ∈ E' ++ F ∨ x ∈ T := fun {x} m => by
    rcases List.mem_append.mp m with m | m
    · exact .inl (List.mem_append_left _ m)
    · rcases List.mem_append.mp m with m | m
      · exact .inr m
      · exact .inl (List.mem_append_right _ m)
  refine ⟨fun d v m => ?_, fun p xs v m => ?_, ?_, fun b z => ?_⟩
  · rcases hsplit m with m | m
    · obtain ⟨u, e, r⟩ := h'.val d v m
      exact ⟨u, e, r.mono hm⟩
    · obtain ⟨u, e, r⟩ := h.val d v (List.mem_append_right _ m)
      exact ⟨u, e, r.stp s.keep hW hA⟩
  · rcases hsplit m with m | m
    · obtain ⟨c, vs, e, hl, r, nb⟩ := h'.own p xs v m
      exact ⟨c, vs, e, hl, r.mono hm, fun z => nb (.inl z)⟩
    · obtain ⟨c, vs, e, hl, r, nb⟩ := h.own p xs v (List.mem_append_right _ m)
      refine ⟨c, vs, e, s.keep c _ hl fun z => ?_, r.stp s.keep hW hA, nb⟩
      subst e
      exact ha.notB z (.inr ⟨p, xs, m⟩)
  · have n1 := List.pairwise_append.mp h'.nd
    refine List.pairwise_append.mpr ⟨n1.1, List.pairwise_append.mpr ⟨(List.pairwise_append.mp h.nd).2.1, n1.2.1, fun x hx y hy a ix iy => ?_⟩, fun x hx y hy a ix iy => ?_⟩
    · exact h'.notB (a := a) (own_app.mpr (.inr (own_iff.mpr ⟨y, hy, iy⟩))) (.inr (own_iff.mpr ⟨x, hx, ix⟩))
    · rcases List.mem_append.mp hy with hy | hy
      · exact h'.notB (a := a) (own_app.mpr (.inl (own_iff.mpr ⟨x, hx, ix⟩))) (.inr (own_iff.mpr ⟨y, hy, iy⟩))
      · exact n1.2.2 x hx y hy a ix iy
  · exact h'.trk b (.inl z)
theorem stp_app (h : ER K H B (E ++ T)) (s : Stp E H E' H') (h' : ER K H' (AO B T) (E' ++ F)) (fr : ∀ a, Own F a → H a = none) : Stp (E ++ T) H (E' ++ (T ++ F)) H' where
  keep := fun b o q n => s.keep b o q fun z => n (own_app.mpr (.inl z))
  own := fun b t z => by
    rcases own_app.mp z with z | z
    · exact own_app.mpr (.inl (s.own b t z))
    · rcases own_app.mp z with z | z
      · exact own_app.mpr (.inr z)
      · exact absurd (fr b z) t
  trk := s.trk
end
end Dn

set_option Elab.async false
set_option linter.all false
set_option maxRecDepth 100000
set_option maxHeartbeats 2000000
namespace Dn
open PySem PySem.Spec PyProof.Rows L2

abbrev St := L2.St
abbrev Z (ρ : Rho) (σ : St) : Ent := ρ.zip σ
def sl : R → Option Slot
  | .v d => some (.val d)
  | .o xs => some (.own false xs)
  | .b _ => none
/-- what a result is worth now -/
def look (ρ : Rho) : R → Option D
  | .v d => some d
  | .o xs => some (.list xs)
  | .b i => match ρ[i]? with
    | some (some (.own _ xs)) => some (.list xs)
    | some (some (.val d)) => some d
    | _ => none
def looks (ρ : Rho) : List R → Option (List D)
  | [] => some []
  | r :: rs => match look ρ r with
    | some d => match looks ρ rs with
      | some ds => some (d :: ds)
      | none => none
    | none => none
abbrev tz (rs : List R) (vs : List V) : Ent := (rs.map sl).zip (vs.map some)
structure RSs (K : PySem.W.Frag) (H H' : Hp) (B : Addr → Prop) (ρ : Rho) (σ : St) (rs : List R) (vs : List V) : Prop where
  len : rs.length = vs.length
  er : ER K H' B (Z ρ σ ++ tz rs vs)
  fr : ∀ a, Own (tz rs vs) a → H a = none
  bo : ∀ (k i : Nat), rs[k]? = some (.b i) → ∃ v, vs[k]? = some v ∧ σ[i]? = some (some v)
/-- the same slots; lent lists stay lent -/
structure Lk (ρ ρ' : Rho) : Prop where
  len : ρ'.length = ρ.length
  pin : ∀ (i : Nat) (xs : List D), ρ[i]? = some (some (.own true xs)) → ∃ xs', ρ'[i]? = some (some (.own true xs'))
theorem Lk.refl (ρ : Rho) : Lk ρ ρ := ⟨rfl, fun _ xs h => ⟨xs, h⟩⟩
theorem Lk.trans {a b c : Rho} (x : Lk a b) (y : Lk b c) : Lk a c := ⟨y.len.trans x.len, fun i xs h => let ⟨_, h'⟩ := x.pin i xs h; y.pin i _ h'⟩

abbrev TD := Rho → Option (R × Rho)
abbrev TDs := Rho → Option (List R × Rho)
def rd (K : PySem.W.Frag) (t : TD) : TE := fun σ H Q => ∃ B ρ r ρ', ρ.length = σ.length ∧ ER K H B (Z ρ σ) ∧ t ρ = some (r, ρ') ∧
  ∀ v H', Lk ρ ρ' → Stp (Z ρ σ) H (Z ρ' σ) H' → RSs K H H' B ρ' σ [r] [v] → Q v H'
def rds (K : PySem.W.Frag) (t : TDs) : TA := fun σ H Q => ∃ B ρ rs ρ', ρ.length = σ.length ∧ ER K H B (Z ρ σ) ∧ t ρ = some (rs, ρ') ∧
  ∀ vs H', Lk ρ ρ' → Stp (Z ρ σ) H (Z ρ' σ) H' → RSs K H H' B ρ' σ rs vs → Q vs H'
def DE (X : Cx) (e : Expr) (t : TD) : Prop := PE X e (rd X.K t)
def DA (X : Cx) (es : List Expr) (t : TDs) : Prop := PA X es (rds X.K t)
theorem pe_weak {X : Cx} {e : Expr} {t t' : TE} (h : PE X e t) (w : ∀ σ H Q, t' σ H Q → t σ H Q) : PE X e t' := ⟨fun pins s σ H Q I q => h.run pins s σ H Q I (w σ H Q q)⟩
theorem pa_weak {X : Cx} {e : List Expr} {t t' : TA} (h : PA X e t) (w : ∀ σ H Q, t' σ H Q → t σ H Q) : PA X e t' := ⟨fun pos pins s σ H Q I q => h.run pos pins s σ H Q I (w σ H Q q)⟩
theorem pt_weak {X : Cx} {e : Expr} {t t' : TT} (h : PT X e t) (w : ∀ σ H Q, t' σ H Q → t σ H Q) : PT X e t' := ⟨fun pins s σ H Q I q => h.run pins s σ H Q I (w σ H Q q)⟩

/-! ### nothing -/
def dNo : TD := fun _ => none
theorem de_no {X : Cx} {e : Expr} : DE X e dNo := ⟨fun _ _ _ _ _ _ ⟨_, _, _, _, _, _, h, _⟩ => by cases h⟩
def dNos : TDs := fun _ => none
theorem da_no {X : Cx} {e : List Expr} : DA X e dNos := ⟨fun _ _ _ _ _ _ _ ⟨_, _, _, _, _, _, h, _⟩ => by cases h⟩

/-! ### several expressions -/
def dNil : TDs := fun ρ => some ([], ρ)
def dCons (t : TD) (ts : TDs) : TDs := fun ρ => match t ρ with
  | some (r, ρ1) => match ts ρ1 with
    | some (rs, ρ2) => some (r :: rs, ρ2)
    | none => none
  | none => none
theorem dCons_some {t : TD} {ts : TDs} {ρ : Rho} {q : List R × Rho} (h : dCons t ts ρ = some q) : ∃ r ρ1 rs ρ2, t ρ = some (r, ρ1) ∧ ts ρ1 = some (rs, ρ2) ∧ q = (r :: rs, ρ2) := by
  unfold dCons at h
  split at h
  · rename_i r ρ1 e
    split at h
    · rename_i rs ρ2 e2
      cases h
      exact ⟨r, ρ1, rs, ρ2, e, e2, rfl⟩
    · cases h
  · cases h
theorem nil_read {K : PySem.W.Frag} {σ : St} {H : Hp} {Q : List V → Hp → Prop} (h : rds K dNil σ H Q) : Q [] H := by
  obtain ⟨B, ρ, rs, ρ', hl, er, e, k⟩ := h
  unfold dNil at e
  cases e
  exact k [] H (.refl _) .refl ⟨rfl, by simpa [tz] using er, fun a z => absurd z (by simp [tz]; exact own_nil), fun k i z => by simp at z⟩
theorem cons_read {K : PySem.W.Frag} {t : TD} {ts : TDs} {σ : St} {H : Hp} {Q : List V → Hp → Prop} (h : rds K (dCons t ts) σ H Q) :
    rd K t σ H fun x H1 => rds K ts σ H1 fun xs H2 => Q (x :: xs) H2 := by
  obtain ⟨B, ρ, rs, ρ', hl, er, e, k⟩ := h
  obtain ⟨r, ρ1, rs, _, e1, e2, e3⟩ := dCons_some e
  cases e3
  refine ⟨B, ρ, r, ρ1, hl, er, e1, fun v H1 lk st rr => ?_⟩
  refine ⟨AO B (tz [r] [v]), ρ1, rs, ρ', lk.len.trans hl, rr.er.aside, e2, fun vs H2 lk2 st2 rr2 => ?_⟩
  have fr2 : ∀ a, Own (tz rs vs) a → H1 a = none := rr2.fr
  have er3 : ER K H2 B (Z ρ' σ ++ (tz [r] [v] ++ tz rs vs)) := rr.er.back st2 rr2.er fr2
  refine k (v :: vs) H2 (lk.trans lk2) (st.trans st2) ⟨by simp [rr2.len], er3, fun a z => ?_, fun j i z => ?_⟩
  · have z : Own (tz [r] [v] ++ tz rs vs) a := z
    rcases own_app.mp z with z | z
    · exact rr.fr a z
    · have := fr2 a z
      cases q : H a with
      | none => rfl
      | some o => exact absurd this (st.trk a (by rw [q]; simp))
  · cases j with
    | zero =>
      have z : [r][0]? = some (.b i) := by simpa using z
      obtain ⟨w, h1, h2⟩ := rr.bo 0 i z
      exact ⟨w, by simpa using h1, h2⟩
    | succ j =>
      obtain ⟨w, h1, h2⟩ := rr2.bo j i (by simpa using z)
      exact ⟨w, by simpa using h1, h2⟩
section
variable {X : Cx}
theorem da_nil : DA X [] dNil := pa_weak pa_nil fun _ _ _ h => nil_read h
theorem da_cons {e : Expr} {es : List Expr} {t : TD} {ts : TDs} (h : DE X e t) (hs : DA X es ts) (he : starEach (e :: es) X.env = (false, eval e X.env) :: starEach es X.env := by rfl) : DA X (e :: es) (dCons t ts) :=
  pa_weak (pa_cons h hs he) fun _ _ _ h => cons_read h
/-- one expression as a list of one -/
theorem one_read {K : PySem.W.Frag} {t : TD} {σ : St} {H : Hp} {Q : List V → Hp → Prop} (h : rds K (dCons t dNil) σ H Q) : rd K t σ H fun x H1 => Q [x] H1 := by
  obtain ⟨B, ρ, r, ρ1, hl, er, e, k⟩ := cons_read h
  exact ⟨B, ρ, r, ρ1, hl, er, e, fun v H1 lk st rr => nil_read (k v H1 lk st rr)⟩
theorem two_read {K : PySem.W.Frag} {t u : TD} {σ : St} {H : Hp} {Q : List V → Hp → Prop} (h : rds K (dCons t (dCons u dNil)) σ H Q) : rd K t σ H fun x H1 => rd K u σ H1 fun y H2 => Q [x, y] H2 := by
  obtain ⟨B, ρ, r, ρ1, hl, er, e, k⟩ := cons_read h
  exact ⟨B, ρ, r, ρ1, hl, er, e, fun v H1 lk st rr => one_read (k v H1 lk st rr)⟩
end

/-! ### what values are worth -/
/-- a view: the top list may be one that is owned -/
def Vw (K : PySem.W.Frag) (H : Hp) (A : Addr → Prop) : D → V → Prop
  | .list ds, v => ∃ a xs, v = .ref a ∧ LV K H a xs ∧ RepA K H A ds xs
  | d, v => Rep K H A d v
theorem Rep.vw {K : PySem.W.Frag} {H : Hp} {A : Addr → Prop} : ∀ {d : D} {v : V}, Rep K H A d v → Vw K H A d v
  | .none, _, h => h
  | .bool _, _, h => h
  | .int _, _, h => h
  | .str _, _, h => h
  | .list ds, _, h => by unfold Rep at h; unfold Vw; obtain ⟨a, xs, e, h1, h2⟩ := h; exact ⟨a, xs, e, h1.lv, h2⟩
  | .tuple _, _, h => h
  | .dict _, _, h => h
inductive VwA (K : PySem.W.Frag) (H : Hp) (A : Addr → Prop) : List D → List V → Prop where
  | nil : VwA K H A [] []
  | cons {d v ds vs} : Vw K H A d v → VwA K H A ds vs → VwA K H A (d :: ds) (v :: vs)
theorem looks_some {ρ : Rho} : ∀ {rs : List R} {ds : List D}, looks ρ rs = some ds → ds.length = rs.length ∧ ∀ (k : Nat) (r : R), rs[k]? = some r → ∃ d, ds[k]? = some d ∧ look ρ r = some d
  | [], ds, h => by simp only [looks] at h; cases h; exact ⟨rfl, fun k r z => by simp at z⟩
  | r :: rs, ds, h => by
    unfold looks at h
    split at h
    · rename_i d e
      split at h
      · rename_i ds' e2
        cases h
        obtain ⟨h1, h2⟩ := looks_some e2
        refine ⟨by simp [h1], fun k r' z => ?_⟩
        cases k with
        | zero => simp at z; subst z; exact ⟨d, by simp, e⟩
        | succ k =>
          obtain ⟨d', h3, h4⟩ := h2 k r' (by simpa using z)
          exact ⟨d', by simpa using h3, h4⟩
      · cases h
    · cases h
theorem mem_Z {ρ : Rho} {σ : St} {i : Nat} {s : Option Slot} {v : Option V} (h : ρ[i]? = some s) (h2 : σ[i]? = some v) : (s, v) ∈ Z ρ σ := by
  have : (ρ.zip σ)[i]? = some (s, v) := by simp [List.getElem?_zip_eq_some, h, h2]
  exact List.mem_of_getElem? this
theorem vwA_of {K : PySem.W.Frag} {H : Hp} {A : Addr → Prop} : ∀ {ds : List D} {vs : List V}, ds.length = vs.length → (∀ (k : Nat) (d : D) (v : V), ds[k]? = some d → vs[k]? = some v → Vw K H A d v) → VwA K H A ds vs
  | [], [], _, _ => .nil
  | d :: ds, v :: vs, hl, h => .cons (h 0 d v rfl rfl) (vwA_of (by simpa using hl) fun k d v e1 e2 => h (k + 1) d v (by simpa using e1) (by simpa using e2))
section
variable {K : PySem.W.Frag} {H H' : Hp} {B : Addr → Prop} {ρ : Rho} {σ : St} {rs : List R} {vs : List V} {ds : List D}
theorem RSs.vw (h : RSs K H H' B ρ σ rs vs) (e : looks ρ rs = some ds) : VwA K H' (AO B (Z ρ σ)) ds vs := by
  obtain ⟨h1, h2⟩ := looks_some e
  refine vwA_of (by rw [h1, h.len]) fun k d v e1 e2 => ?_
  have hk : k < rs.length := by
    have := (List.getElem?_eq_some_iff.mp e1).1
    omega
  obtain ⟨d', e3, e4⟩ := h2 k rs[k] (List.getElem?_eq_getElem hk)
  rw [e1] at e3; cases e3
  have hm : ∀ b, AO B (Z ρ σ) b → AO B (Z ρ σ ++ tz rs vs) b := fun b z => z.elim .inl fun z => .inr (own_app.mpr (.inl z))
  have mt : (sl rs[k], some v) ∈ Z ρ σ ++ tz rs vs := by
    refine List.mem_append_right _ (List.mem_of_getElem? (i := k) ?_)
    simp [List.getElem?_zip_eq_some, e2, hk]
  cases hr : rs[k] with
  | v d0 =>
    rw [hr] at e4 mt
    obtain rfl : d0 = d := by simpa [look] using e4
    obtain ⟨u, e5, r⟩ := h.er.val d0 _ mt
    cases e5
    exact (r.mono hm).vw
  | o xs =>
    rw [hr] at e4 mt
    obtain rfl : d = .list xs := by simpa [look] using e4.symm
    obtain ⟨a, ys, e5, hl, r, _⟩ := h.er.own false xs _ mt
    cases e5
    exact ⟨a, ys, rfl, .inl (.inl hl), r.mono hm⟩
  | b i =>
    rw [hr] at e4
    obtain ⟨w, e5, e6⟩ := h.bo k i (by rw [← hr]; exact List.getElem?_eq_getElem hk)
    rw [e2] at e5; cases e5
    simp only [look] at e4
    split at e4
    · rename_i p xs e7
      obtain rfl : d = .list xs := by simpa using e4.symm
      obtain ⟨a, ys, e5, hl, r, _⟩ := h.er.own p xs _ (List.mem_append_left _ (mem_Z e7 e6))
      cases e5
      exact ⟨a, ys, rfl, .inl (.inl hl), r.mono hm⟩
    · rename_i d0 e7
      obtain rfl : d0 = d := by simpa using e4
      obtain ⟨u, e5, r⟩ := h.er.val d0 _ (List.mem_append_left _ (mem_Z e7 e6))
      cases e5
      exact (r.mono hm).vw
    · cases e4
end

/-! ### operations on values -/
/-- what an operation gives: a value over what was there, or a new list -/
def RN (K : PySem.W.Frag) (H H' : Hp) (A : Addr → Prop) : R → V → Prop
  | .v d, w => Rep K H' A d w
  | .o xs, w => ∃ p vs, w = .ref p ∧ H p = none ∧ H' p = some (.lst vs) ∧ RepA K H' (fun b => A b ∨ b = p) xs vs
  | .b _, _ => False
def rN (K : PySem.W.Frag) (f : List D → Option R) : List V → Hp → VK → Prop := fun vs H Q => ∃ A ds r, (∀ b, A b → H b ≠ none) ∧ VwA K H A ds vs ∧ f ds = some r ∧
  ∀ w H', Same H H' → RN K H H' A r w → Q w H'
def r2 (K : PySem.W.Frag) (f : List D → Option R) : R2 := fun x y H Q => rN K f [x, y] H Q
def r1 (K : PySem.W.Frag) (f : List D → Option R) : V → Hp → VK → Prop := fun x H Q => rN K f [x] H Q
def dOp (f : List D → Option R) (ts : TDs) : TD := fun ρ => match ts ρ with
  | some (rs, ρ') => match looks ρ' rs with
    | some ds => match f ds with
      | some r => some (r, ρ')
      | none => none
    | none => none
  | none => none
theorem dOp_some {f : List D → Option R} {ts : TDs} {ρ : Rho} {q : R × Rho} (h : dOp f ts ρ = some q) : ∃ rs ρ' ds r, ts ρ = some (rs, ρ') ∧ looks ρ' rs = some ds ∧ f ds = some r ∧ q = (r, ρ') := by
  unfold dOp at h
  split at h
  · rename_i rs ρ' e
    split at h
    · rename_i ds e2
      split at h
      · rename_i r e3
        cases h
        exact ⟨rs, ρ', ds, r, e, e2, e3, rfl⟩
      · cases h
    · cases h
  · cases h
/-- an operation's result as a run's -/
theorem RN.rss {K : PySem.W.Frag} {H0 H H' : Hp} {B : Addr → Prop} {ρ : Rho} {σ : St} {r : R} {w : V} (er : ER K H B (Z ρ σ)) (sm : Same H H') (h0 : ∀ b, H0 b ≠ none → H b ≠ none) (h : RN K H H' (AO B (Z ρ σ)) r w) : RSs K H0 H' B ρ σ [r] [w] := by
  have st : Stp (Z ρ σ) H (Z ρ σ) H' := .same sm
  have er' : ER K H' B (Z ρ σ) := by
    refine ⟨fun d v m => ?_, fun p xs v m => ?_, er.nd, fun b z => st.trk b (er.trk b z)⟩
    · obtain ⟨u, e, q⟩ := er.val d v m
      exact ⟨u, e, q.step er st⟩
    · obtain ⟨a, vs, e, hl, q, nb⟩ := er.own p xs v m
      exact ⟨a, vs, e, sm _ _ hl, q.step er st, nb⟩
  have h0n : ∀ a, H a = none → H0 a = none := fun a z => by
    cases q : H0 a with
    | none => rfl
    | some o => exact absurd z (h0 a (by rw [q]; simp))
  have add : ∀ x : Option Slot × Option V, (∀ d v, x = (some (.val d), v) → ∃ u, v = some u ∧ Rep K H' (AO B (Z ρ σ ++ [x])) d u) →
      (∀ p xs v, x = (some (.own p xs), v) → ∃ a vs, v = some (.ref a) ∧ H a = none ∧ H' a = some (.lst vs) ∧ RepA K H' (AO B (Z ρ σ ++ [x])) xs vs) → ER K H' B (Z ρ σ ++ [x]) := fun x hv ho => by
    have hown : ∀ a, isOwn x a → H a = none := fun a ⟨b, xs, e⟩ => by
      obtain ⟨c, vs, e2, h1, _⟩ := ho b xs _ e
      cases e2; exact h1
    have hA : ∀ b, H b ≠ none → AO B (Z ρ σ ++ [x]) b → AO B (Z ρ σ) b := fun b t z => by
      rcases z with z | z
      · exact .inl z
      · rcases own_app.mp z with z | z
        · exact .inr z
        · rcases own_cons.mp z with z | z
          · exact absurd (hown b z) t
          · exact absurd z own_nil
    refine ⟨fun d v m => ?_, fun p xs v m => ?_, ?_, er'.trk⟩
    · rcases List.mem_append.mp m with m | m
      · obtain ⟨u, e, q⟩ := er.val d v m
        exact ⟨u, e, q.same sm hA⟩
      · exact hv d v (by simpa using (List.mem_singleton.mp m).symm)
    · rcases List.mem_append.mp m with m | m
      · obtain ⟨a, vs, e, hl, q, nb⟩ := er.own p xs v m
        exact ⟨a, vs, e, sm _ _ hl, q.same sm hA, nb⟩
      · obtain ⟨a, vs, e, h1, h2, h3⟩ := ho p xs v (by simpa using (List.mem_singleton.mp m).symm)
        exact ⟨a, vs, e, h2, h3, fun z => er.trk a z h1⟩
    · refine List.pairwise_append.mpr ⟨er.nd, List.pairwise_singleton _ _, fun p hp q hq a ip iq => ?_⟩
      obtain rfl := List.mem_singleton.mp hq
      obtain ⟨vs, hl⟩ := er.lst (own_iff.mpr ⟨p, hp, ip⟩)
      rw [hown a iq] at hl; cases hl
  cases r with
  | v d =>
    have hno : ∀ b, Own [(some (Slot.val d), some w)] b → False := fun b z => by
      rcases own_cons.mp z with ⟨_, _, z⟩ | z
      · cases z
      · exact own_nil z
    refine ⟨rfl, add (some (.val d), some w) (fun d' v e => ?_) (fun p xs v e => by cases e), fun a z => (hno a z).elim, fun k i z => by cases k <;> simp at z⟩
    cases e
    exact ⟨w, rfl, Rep.mono h fun b z => z.elim .inl fun z => (own_app.mp z).elim .inr fun z => (hno b z).elim⟩
  | o xs =>
    obtain ⟨p, vs, rfl, h1, h2, h3⟩ := h
    have hno : ∀ b, Own [(some (Slot.own false xs), some (V.ref p))] b → b = p := fun b z => by
      rcases own_cons.mp z with ⟨_, _, z⟩ | z
      · cases z; rfl
      · exact (own_nil z).elim
    refine ⟨rfl, add (some (.own false xs), some (.ref p)) (fun d' v e => by cases e) (fun q ys v e => ?_), fun a z => by rw [hno a z]; exact h0n p h1, fun k i z => by cases k <;> simp at z⟩
    cases e
    exact ⟨p, vs, rfl, h1, h2, h3.mono fun b z => z.elim (fun z => .inl (.inl z)) fun z => (own_app.mp z).elim (fun z => .inl (.inr z)) fun z => .inr (hno b z)⟩
  | b i => exact h.elim
theorem op_read {K : PySem.W.Frag} {f : List D → Option R} {ts : TDs} {σ : St} {H : Hp} {Q : VK} (h : rd K (dOp f ts) σ H Q) : rds K ts σ H fun vs H1 => rN K f vs H1 Q := by
  obtain ⟨B, ρ, r, ρ', hl, er, e, k⟩ := h
  obtain ⟨rs, ρ', ds, r, e1, e2, e3, e4⟩ := dOp_some e
  cases e4
  refine ⟨B, ρ, rs, ρ', hl, er, e1, fun vs H1 lk st rr => ?_⟩
  have er1 := rr.er.left
  refine ⟨AO B (Z ρ' σ), ds, r, fun b z => ?_, rr.vw e2, e3, fun w H2 sm rn => ?_⟩
  · rcases z with z | z
    · exact er1.trk b z
    · obtain ⟨vs, q⟩ := er1.lst z
      rw [q]; simp
  · exact k w H2 lk (st.trans (.same sm)) (RN.rss er1 sm st.trk rn)
section
variable {X : Cx} {a b e : Expr} {es : List Expr} {ta tb t : TD} {ts : TDs} {f : List D → Option R} {pos p : Pos} {x : Str} {id : String}
theorem de_bin {op : Operator} (ho : OpR X (binaryOp op) (r2 X.K f)) (ha : DE X a ta) (hb : DE X b tb) : DE X (.BinOp a op b pos) (dOp f (dCons ta (dCons tb dNil))) :=
  pe_weak (pe_op ho ha hb) fun _ _ _ h => two_read (op_read h)
theorem de_cmp {op : CmpOp} (ho : OpR X (compareOp op) (r2 X.K f)) (ha : DE X a ta) (hb : DE X b tb) (hm : behindInMarks op b = false) : DE X (.Compare a [op] [b] pos) (dOp f (dCons ta (dCons tb dNil))) :=
  pe_weak (pe_cmpR ho ha hb hm) fun _ _ _ h => two_read (op_read h)
theorem de_un {op : UnaryOp} (ho : UnR X (unaryOp op) (r1 X.K f)) (ha : DE X a ta) : DE X (.UnaryOp op a pos) (dOp f (dCons ta dNil)) :=
  pe_weak (pe_un ho ha) fun _ _ _ h => one_read (op_read h)
theorem de_ix (ho : IxR X (r2 X.K f)) (ha : DE X a ta) (hb : DE X b tb) (hs : PlainIx b) : DE X (.Subscript a b pos) (dOp f (dCons ta (dCons tb dNil))) :=
  pe_weak (pe_ix ho ha hb hs) fun _ _ _ h => two_read (op_read h)
theorem de_callB (hc : CallR X (.builtin id) (rN X.K f)) (hg : Gl X x) (hm : X.mg x = none) (hv : bootBuiltins x = some (.builtin id)) (ha : DA X (e :: es) ts) (hn : x ≠ "__name__") (hdb : (x == ("__debug__" : Str)) = false)
    (he : starEach (e :: es) X.env = (false, eval e X.env) :: starEach es X.env) (hpl : (backTo pos (starEach es X.env)).any (·.1) = false) : DE X (.Call (.Name x p) (e :: es) [] pos) (dOp f ts) :=
  pe_weak (pe_callB hc hg hm hv ha hn hdb he hpl) fun _ _ _ h => op_read h
theorem de_callTy {T : String} (hc : CallR X (.type T) (rN X.K f)) (hg : Gl X x) (hm : X.mg x = none) (hv : bootBuiltins x = some (.type T)) (ha : DA X (e :: es) ts) (hn : x ≠ "__name__") (hdb : (x == ("__debug__" : Str)) = false)
    (he : starEach (e :: es) X.env = (false, eval e X.env) :: starEach es X.env) (hpl : (backTo pos (starEach es X.env)).any (·.1) = false) : DE X (.Call (.Name x p) (e :: es) [] pos) (dOp f ts) :=
  pe_weak (pe_callTy hc hg hm hv ha hn hdb he hpl) fun _ _ _ h => op_read h
theorem de_callF (hc : CallR X (.builtin id) (rN X.K f)) (hg : Gl X x) (hm : X.mg x = some (.builtin id)) (ha : DA X (e :: es) ts) (hdb : (x == ("__debug__" : Str)) = false)
    (he : starEach (e :: es) X.env = (false, eval e X.env) :: starEach es X.env) (hpl : (backTo pos (starEach es X.env)).any (·.1) = false) : DE X (.Call (.Name x p) (e :: es) [] pos) (dOp f ts) :=
  pe_weak (pe_callBfun hc hg hm ha hdb he hpl) fun _ _ _ h => op_read h
end

/-! ### names, constants -/
def dLoc (i : Nat) : TD := fun ρ => match ρ[i]? with
  | some (some (.val d)) => some (.v d, ρ)
  | some (some (.own _ _)) => some (.b i, ρ)
  | _ => none
def dCon (d : D) : TD := fun ρ => some (.v d, ρ)
theorem rss_val {K : PySem.W.Frag} {H H' : Hp} {B : Addr → Prop} {ρ : Rho} {σ : St} {d : D} {w : V} (er : ER K H' B (Z ρ σ)) (r : Rep K H' (AO B (Z ρ σ)) d w) : RSs K H H' B ρ σ [.v d] [w] := by
  have hno : ∀ b, Own [(some (Slot.val d), some w)] b → False := fun b z => by
    rcases own_cons.mp z with ⟨_, _, z⟩ | z
    · cases z
    · exact own_nil z
  have hA : ∀ b, AO B (Z ρ σ ++ [(some (Slot.val d), some w)]) b → AO B (Z ρ σ) b := fun b z => z.elim .inl fun z => (own_app.mp z).elim .inr fun z => (hno b z).elim
  refine ⟨rfl, ⟨fun d' v m => ?_, fun p xs v m => ?_, ?_, er.trk⟩, fun a z => (hno a z).elim, fun k i z => by cases k <;> simp at z⟩
  · rcases List.mem_append.mp m with m | m
    · obtain ⟨u, e, q⟩ := er.val d' v m
      exact ⟨u, e, q.mono hA⟩
    · have m := List.mem_singleton.mp m
      simp only [Prod.mk.injEq, sl] at m
      obtain ⟨m1, m2⟩ := m
      cases m1
      exact ⟨w, m2, r.mono hA⟩
  · rcases List.mem_append.mp m with m | m
    · obtain ⟨a, vs, e, hl, q, nb⟩ := er.own p xs v m
      exact ⟨a, vs, e, hl, q.mono hA, nb⟩
    · have m := List.mem_singleton.mp m
      simp only [Prod.mk.injEq, sl] at m
      cases m.1
  · refine List.pairwise_append.mpr ⟨er.nd, List.pairwise_singleton _ _, fun p hp q hq a ip iq => ?_⟩
    obtain rfl := List.mem_singleton.mp hq
    obtain ⟨_, _, iq⟩ := iq
    cases iq
theorem rss_b {K : PySem.W.Frag} {H H' : Hp} {B : Addr → Prop} {ρ : Rho} {σ : St} {i : Nat} {w : V} (er : ER K H' B (Z ρ σ)) (h : σ[i]? = some (some w)) : RSs K H H' B ρ σ [.b i] [w] := by
  have hno : ∀ b, Own [((none : Option Slot), some w)] b → False := fun b z => by
    rcases own_cons.mp z with ⟨_, _, z⟩ | z
    · cases z
    · exact own_nil z
  have hA : ∀ b, AO B (Z ρ σ ++ [((none : Option Slot), some w)]) b → AO B (Z ρ σ) b := fun b z => z.elim .inl fun z => (own_app.mp z).elim .inr fun z => (hno b z).elim
  refine ⟨rfl, ⟨fun d' v m => ?_, fun p xs v m => ?_, ?_, er.trk⟩, fun a z => (hno a z).elim, fun k j z => ?_⟩
  · rcases List.mem_append.mp m with m | m
    · obtain ⟨u, e, q⟩ := er.val d' v m
      exact ⟨u, e, q.mono hA⟩
    · have m := List.mem_singleton.mp m
      simp only [Prod.mk.injEq, sl] at m
      cases m.1
  · rcases List.mem_append.mp m with m | m
    · obtain ⟨a, vs, e, hl, q, nb⟩ := er.own p xs v m
      exact ⟨a, vs, e, hl, q.mono hA, nb⟩
    · have m := List.mem_singleton.mp m
      simp only [Prod.mk.injEq, sl] at m
      cases m.1
  · refine List.pairwise_append.mpr ⟨er.nd, List.pairwise_singleton _ _, fun p hp q hq a ip iq => ?_⟩
    obtain rfl := List.mem_singleton.mp hq
    obtain ⟨_, _, iq⟩ := iq
    cases iq
  · cases k with
    | zero => simp at z; subst z; exact ⟨w, by simp, h⟩
    | succ k => simp at z
theorem zget {ρ : Rho} {σ : St} {i : Nat} {s : Option Slot} (hl : ρ.length = σ.length) (h : ρ[i]? = some s) : ∃ v, σ[i]? = some v ∧ (s, v) ∈ Z ρ σ := by
  have hi : i < σ.length := by rw [← hl]; exact (List.getElem?_eq_some_iff.mp h).1
  exact ⟨σ[i], List.getElem?_eq_getElem hi, mem_Z h (List.getElem?_eq_getElem hi)⟩
section
variable {X : Cx} {pos : Pos}
theorem de_loc {i : Nat} {x : Str} (hN : X.N[i]? = some x) (hv : Vis X.env.scope x) (hd : (x == ("__debug__" : Str)) = false) (hcd : (x == ("__classdict__" : Str)) = false) : DE X (.Name x pos) (dLoc i) := by
  refine pe_weak (pe_var hN hv hd hcd) fun σ H Q h => ?_
  obtain ⟨B, ρ, r, ρ', hl, er, e, k⟩ := h
  unfold dLoc at e
  split at e
  · rename_i d e1
    cases e
    obtain ⟨v, e2, m⟩ := zget hl e1
    obtain ⟨u, e3, q⟩ := er.val d v m
    subst e3
    exact ⟨u, e2, k u H (.refl _) .refl (rss_val er q)⟩
  · rename_i p xs e1
    cases e
    obtain ⟨v, e2, m⟩ := zget hl e1
    obtain ⟨a, vs, e3, _⟩ := er.own p xs v m
    subst e3
    exact ⟨.ref a, e2, k _ H (.refl _) .refl (rss_b er e2)⟩
  · cases e
theorem con_read {K : PySem.W.Frag} {d : D} {v : V} {σ : St} {H : Hp} {Q : VK} (hr : ∀ H A, Rep K H A d v) (h : rd K (dCon d) σ H Q) : tC v σ H Q := by
  obtain ⟨B, ρ, r, ρ', hl, er, e, k⟩ := h
  unfold dCon at e
  cases e
  exact k v H (.refl _) .refl (rss_val er (hr _ _))
theorem rep_non {K H A} : Rep K H A .none .non := by unfold Rep; rfl
theorem rep_bl {K H A} {b : Bool} : Rep K H A (.bool b) (.bl b) := by unfold Rep; rfl
theorem rep_int {K H A} {i : Int} : Rep K H A (.int i) (.int i) := by unfold Rep; rfl
theorem rep_str {K H A} {i : Str} : Rep K H A (.str i) (.str i) := by unfold Rep; rfl
theorem de_int {i : Int} {j} : DE X (.Constant (.int i) j pos) (dCon (.int i)) := pe_weak pe_int fun _ _ _ h => con_read (fun _ _ => rep_int) h
theorem de_bl {i : Bool} {j} : DE X (.Constant (.bool i) j pos) (dCon (.bool i)) := pe_weak pe_bl fun _ _ _ h => con_read (fun _ _ => rep_bl) h
theorem de_non {j} : DE X (.Constant .none j pos) (dCon .none) := pe_weak pe_non fun _ _ _ h => con_read (fun _ _ => rep_non) h
theorem de_str {i : Str} {j} : DE X (.Constant (.str i) j pos) (dCon (.str i)) := pe_weak pe_str fun _ _ _ h => con_read (fun _ _ => rep_str) h
/-- a module's constant -/
theorem de_glob {x : Str} {d : D} {v : V} {u : Value} (hg : Gl X x) (hm : X.mg x = some u) (r : RelV v u) (hr : ∀ H A, Rep X.K H A d v) (hd : (x == ("__debug__" : Str)) = false) : DE X (.Name x pos) (dCon d) :=
  pe_weak (pe_glob hg hm r hd) fun _ _ _ h => con_read hr h
end
end Dn

set_option Elab.async false
set_option linter.all false
set_option maxRecDepth 100000
set_option maxHeartbeats 2000000
namespace Dn
open PySem PySem.Spec PyProof.Rows L2

/-! ### lists handed away: what was owned stays as it is from now on -/
/-- the results as values; what a slot owned is frozen in the slot -/
def frz : List R → Rho → Option (List D × Rho)
  | [], ρ => some ([], ρ)
  | .v d :: rs, ρ => match frz rs ρ with
    | some (ds, ρ') => some (d :: ds, ρ')
    | none => none
  | .o xs :: rs, ρ => match frz rs ρ with
    | some (ds, ρ') => some (.list xs :: ds, ρ')
    | none => none
  | .b i :: rs, ρ => match ρ[i]? with
    | some (some (.own false xs)) => match frz rs (ρ.set i (some (.val (.list xs)))) with
      | some (ds, ρ') => some (.list xs :: ds, ρ')
      | none => none
    | some (some (.val d)) => match frz rs ρ with
      | some (ds, ρ') => some (d :: ds, ρ')
      | none => none
    | _ => none
theorem set_perm {α : Type} : ∀ {l : List α} {i : Nat} {x y : α}, l[i]? = some x → (l.set i y).Perm (y :: l.eraseIdx i) ∧ l.Perm (x :: l.eraseIdx i)
  | [], _, _, _, h => by simp at h
  | a :: l, 0, x, y, h => by simp at h; subst h; exact ⟨.refl _, .refl _⟩
  | a :: l, i + 1, x, y, h => by
    have h := set_perm (y := y) (l := l) (i := i) (by simpa using h)
    exact ⟨(List.Perm.cons a h.1).trans (.swap _ _ _), (List.Perm.cons a h.2).trans (.swap _ _ _)⟩
theorem Z_set {ρ : Rho} {σ : St} {i : Nat} {s : Option Slot} {v : Option V} (h : σ[i]? = some v) (hl : ρ.length = σ.length) : Z (ρ.set i s) σ = (Z ρ σ).set i (s, v) := by
  apply List.ext_getElem?
  intro j
  by_cases e : i = j
  · subst e
    have hi : i < σ.length := (List.getElem?_eq_some_iff.mp h).1
    have hv : σ[i] = v := by simpa [List.getElem?_eq_getElem hi] using h
    simp [Z, List.getElem?_set, hl, hi, List.getElem?_zip_eq_some, List.zip, hv]
  · simp [Z, List.getElem?_set, e, List.zip, List.getElem?_zipWith]
theorem Z_set2 {ρ : Rho} {σ : St} {i : Nat} {s : Option Slot} {v : Option V} (hi : i < σ.length) (hl : ρ.length = σ.length) : Z (ρ.set i s) (σ.set i v) = (Z ρ σ).set i (s, v) := by
  apply List.ext_getElem?
  intro j
  by_cases e : i = j
  · subst e
    simp [Z, List.getElem?_set, hl, hi, List.zip]
  · simp [Z, List.getElem?_set, e, List.zip, List.getElem?_zipWith]
section
variable {K : PySem.W.Frag} {H H' : Hp} {B : Addr → Prop} {E F : Ent}
/-- an entry that owns a list: the list stays, nobody owns it -/
theorem ER.loose {p : Bool} {xs : List D} {v : Option V} (h : ER K H B ((some (.own p xs), v) :: E)) : ER K H B ((some (.val (.list xs)), v) :: E) := by
  have ho : ∀ a, Own ((some (Slot.val (.list xs)), v) :: E) a → Own ((some (Slot.own p xs), v) :: E) a := fun a z => by
    rcases own_cons.mp z with ⟨_, _, z⟩ | z
    · cases z
    · exact own_cons.mpr (.inr z)
  have hm : ∀ b, AO B ((some (Slot.val (.list xs)), v) :: E) b → AO B ((some (Slot.own p xs), v) :: E) b := fun b z => z.elim .inl fun z => .inr (ho b z)
  have nd := List.pairwise_cons.mp h.nd
  refine ⟨fun d u m => ?_, fun q ys u m => ?_, List.pairwise_cons.mpr ⟨fun q hq a ⟨_, _, z⟩ => (by cases z), nd.2⟩, h.trk⟩
  · rcases List.mem_cons.mp m with m | m
    · cases m
      obtain ⟨a, vs, e, hl, r, nb⟩ := h.own p xs v List.mem_cons_self
      refine ⟨.ref a, e, ?_⟩
      unfold Rep
      refine ⟨a, vs, rfl, .inl ⟨fun z => ?_, .inl hl⟩, r.mono hm⟩
      rcases z with z | z
      · exact nb z
      · rcases own_cons.mp z with ⟨_, _, z⟩ | z
        · cases z
        · obtain ⟨q, hq, iq⟩ := own_iff.mp z
          subst e
          exact nd.1 q hq a ⟨p, xs, rfl⟩ iq
    · obtain ⟨w, e, r⟩ := h.val d u (List.mem_cons_of_mem _ m)
      exact ⟨w, e, r.mono hm⟩
  · have m : (some (Slot.own q ys), u) ∈ E := by
      rcases List.mem_cons.mp m with m | m
      · cases m
      · exact m
    obtain ⟨a, vs, e, hl, r, nb⟩ := h.own q ys u (List.mem_cons_of_mem _ m)
    exact ⟨a, vs, e, hl, r.mono hm, nb⟩
theorem own_loose {p : Bool} {xs : List D} {v : Option V} {a : Addr} (z : Own ((some (Slot.val (.list xs)), v) :: E) a) : Own ((some (Slot.own p xs), v) :: E) a := by
  rcases own_cons.mp z with ⟨_, _, z⟩ | z
  · cases z
  · exact own_cons.mpr (.inr z)
end
theorem own_perm {E F : Ent} {a : Addr} (p : E.Perm F) : Own E a ↔ Own F a :=
  ⟨fun ⟨b, xs, m⟩ => ⟨b, xs, p.mem_iff.mp m⟩, fun ⟨b, xs, m⟩ => ⟨b, xs, p.mem_iff.mpr m⟩⟩
section
variable {K : PySem.W.Frag} {H H0 H' : Hp} {B : Addr → Prop} {ρ : Rho} {σ : St} {rs : List R} {vs : List V}
/-- a slot's list is frozen in the slot -/
theorem freeze_er {i : Nat} {xs : List D} {T : Ent} (hl : ρ.length = σ.length) (e : ρ[i]? = some (some (.own false xs))) (er : ER K H B (Z ρ σ ++ T)) :
    ER K H B (Z (ρ.set i (some (.val (.list xs)))) σ ++ T) ∧ ∀ a, Own (Z (ρ.set i (some (.val (.list xs)))) σ) a → Own (Z ρ σ) a := by
  obtain ⟨v, e2, m⟩ := zget hl e
  have g : (Z ρ σ)[i]? = some (some (.own false xs), v) := by simp [Z, List.getElem?_zip_eq_some, e, e2]
  have p := set_perm (y := (some (Slot.val (.list xs)), v)) g
  rw [Z_set e2 hl]
  refine ⟨?_, fun a z => (own_perm p.2).mpr (own_loose ((own_perm p.1).mp z))⟩
  have er2 := er.perm (List.Perm.append_right T p.2)
  exact (ER.loose er2).perm (List.Perm.append_right T p.1).symm
theorem frz_ok : ∀ {rs : List R} {vs : List V} {ρ ρ' : Rho} {ds : List D}, ρ.length = σ.length → frz rs ρ = some (ds, ρ') → RSs K H0 H B ρ σ rs vs →
    ER K H B (Z ρ' σ) ∧ RepA K H (AO B (Z ρ' σ)) ds vs ∧ Lk ρ ρ' ∧ ∀ a, Own (Z ρ' σ) a → Own (Z ρ σ) a := by
  intro rs
  induction rs with
  | nil =>
    intro vs ρ ρ' ds hl e r
    simp only [frz] at e
    cases e
    have : vs = [] := List.length_eq_zero_iff.mp r.len.symm
    subst this
    exact ⟨r.er.left, .nil, .refl _, fun _ z => z⟩
  | cons r rs ih =>
    intro vs ρ ρ' ds hl e q
    obtain ⟨v, vs, rfl⟩ : ∃ v ws, vs = v :: ws := by
      cases vs with
      | nil => have := q.len; simp at this
      | cons v ws => exact ⟨v, ws, rfl⟩
    have bo' : ∀ (k i : Nat), rs[k]? = some (.b i) → ∃ w, vs[k]? = some w ∧ σ[i]? = some (some w) := fun k i z => by
      obtain ⟨w, h1, h2⟩ := q.bo (k + 1) i (by simpa using z)
      exact ⟨w, by simpa using h1, h2⟩
    have len' : rs.length = vs.length := by have := q.len; simpa using this
    have er0 : ER K H B (Z ρ σ ++ ((sl r, some v) :: tz rs vs)) := q.er
    have tail : ∀ {ρ1 : Rho}, ER K H B (Z ρ1 σ ++ tz rs vs) → RSs K H0 H B ρ1 σ rs vs := fun {ρ1} h => ⟨len', h, fun a z => q.fr a (own_cons.mpr (.inr z)), bo'⟩
    have erT : ER K H B (Z ρ σ ++ tz rs vs) := er0.sub (List.Sublist.append_left (List.sublist_cons_self _ _) _)
    -- what is true of the head before the rest is frozen, with the temporaries put aside
    cases r with
    | v d =>
      simp only [frz] at e
      split at e
      · rename_i ds' ρ1 e1
        cases e
        obtain ⟨h1, h2, h3, h4⟩ := ih hl e1 (tail erT)
        obtain ⟨u, e5, rp⟩ := er0.val d _ (List.mem_append_right _ List.mem_cons_self)
        cases e5
        exact ⟨h1, .cons (rp.mono fun b z => z.elim .inl fun z => .inr (own_app.mpr (.inl (h4 b z)))) h2, h3, h4⟩
      · cases e
    | o xs =>
      simp only [frz] at e
      split at e
      · rename_i ds' ρ1 e1
        cases e
        obtain ⟨h1, h2, h3, h4⟩ := ih hl e1 (tail erT)
        have er1 : ER K H B ((some (.own false xs), some v) :: (Z ρ σ ++ tz rs vs)) := er0.perm List.perm_middle
        have er2 := er1.loose
        obtain ⟨u, e5, rp⟩ := er2.val _ _ List.mem_cons_self
        cases e5
        exact ⟨h1, .cons (rp.mono fun b z => z.elim .inl fun z => .inr (own_cons.mpr (.inr (own_app.mpr (.inl (h4 b z)))))) h2, h3, h4⟩
      · cases e
    | b i =>
      simp only [frz] at e
      obtain ⟨w, ew, ei⟩ := q.bo 0 i (by simp)
      have ew : v = w := by simpa using ew
      subst ew
      split at e
      · rename_i xs e1
        split at e
        · rename_i ds' ρ1 e2
          cases e
          obtain ⟨er3, hO⟩ := freeze_er hl e1 erT
          have hl3 : (ρ.set i (some (.val (.list xs)))).length = σ.length := by simpa using hl
          obtain ⟨h1, h2, h3, h4⟩ := ih hl3 e2 (tail er3)
          have mem : (some (Slot.val (.list xs)), some v) ∈ Z (ρ.set i (some (.val (.list xs)))) σ := by
            refine mem_Z (i := i) ?_ ei
            have hi : i < ρ.length := (List.getElem?_eq_some_iff.mp e1).1
            simp [hi]
          obtain ⟨u, e5, rp⟩ := er3.left.val _ _ mem
          cases e5
          refine ⟨h1, .cons (rp.mono fun b z => z.elim .inl fun z => .inr (h4 b z)) h2, ⟨by rw [h3.len]; simp, fun j ys z => h3.pin j ys ?_⟩, fun a z => hO a (h4 a z)⟩
          have hij : i ≠ j := fun e => by subst e; rw [e1] at z; cases z
          rw [List.getElem?_set_ne hij]; exact z
        · cases e
      · rename_i d e1
        split at e
        · rename_i ds' ρ1 e2
          cases e
          obtain ⟨h1, h2, h3, h4⟩ := ih hl e2 (tail erT)
          obtain ⟨u, e5, rp⟩ := erT.left.val d _ (mem_Z e1 ei)
          cases e5
          exact ⟨h1, .cons (rp.mono fun b z => z.elim .inl fun z => .inr (h4 b z)) h2, h3, h4⟩
        · cases e
      · cases e
end

/-! ### tuples, lists -/
def dTup (ts : TDs) : TD := fun ρ => match ts ρ with
  | some (rs, ρ1) => match frz rs ρ1 with
    | some (ds, ρ2) => if ds.length ≤ 1000 then some (.v (.tuple ds), ρ2) else none
    | none => none
  | none => none
def dLst (ts : TDs) : TD := fun ρ => match ts ρ with
  | some (rs, ρ1) => match frz rs ρ1 with
    | some (ds, ρ2) => if ds.length ≤ 1000 then some (.o ds, ρ2) else none
    | none => none
  | none => none
theorem upd_same_of {H : Hp} {p : Addr} {o : HO} (h : H p = none) : Same H (upd H p o) := fun b x e => by
  rw [upd_ne (ne_of_none e h)]
  exact e
theorem stp_own {E E' : Ent} {H : Hp} (h : ∀ a, Own E' a → Own E a) : Stp E H E' H := ⟨fun _ _ q _ => q, fun b _ z => h b z, fun _ q => q⟩
theorem rep_tup {K : PySem.W.Frag} {H : Hp} {A : Addr → Prop} {p : Addr} {ds : List D} {vs : List V} (np : H p = none) (h : RepA K H A ds vs) : Rep K (upd H p (.tup vs)) A (.tuple ds) (.ref p) := by
  unfold Rep
  exact ⟨p, vs, rfl, .inl (.inl upd_same), h.same (upd_same_of np) fun _ _ z => z⟩
theorem rn_tup {K : PySem.W.Frag} {H : Hp} {A : Addr → Prop} {p : Addr} {ds : List D} {vs : List V} (np : H p = none) (h : RepA K H A ds vs) : RN K H (upd H p (.tup vs)) A (.v (.tuple ds)) (.ref p) := rep_tup np h
theorem rn_lst {K : PySem.W.Frag} {H : Hp} {A : Addr → Prop} {p : Addr} {ds : List D} {vs : List V} (np : H p = none) (h : RepA K H A ds vs) : RN K H (upd H p (.lst vs)) A (.o ds) (.ref p) :=
  ⟨p, vs, rfl, np, upd_same, h.same (upd_same_of np) fun b t z => z.elim id fun z => absurd (by rw [z]; exact np) t⟩
theorem lt1000 {n : Nat} (h : n ≤ 1000) : n ≤ sizeLine := Nat.le_trans h (by decide)
section
variable {X : Cx} {es : List Expr} {ts : TDs} {pos : Pos}
theorem de_tup {k} (h : DA X es ts) : DE X (.Tuple es k pos) (dTup ts) := by
  refine pe_weak (pe_tup h) fun σ H Q q => ?_
  obtain ⟨B, ρ, r, ρ', hl, er, e, k⟩ := q
  unfold dTup at e
  split at e
  · rename_i rs ρ1 e1
    split at e
    · rename_i ds ρ2 e2
      split at e
      · rename_i hlen
        cases e
        refine ⟨B, ρ, rs, ρ1, hl, er, e1, fun vs H1 lk st rr => ?_⟩
        obtain ⟨h1, h2, h3, h4⟩ := frz_ok (lk.len.trans hl) e2 rr
        refine ⟨lt1000 (by rw [h2.len]; exact hlen), fun p np => ?_⟩
        have sm : Same H1 (upd H1 p (.tup vs)) := upd_same_of np
        have st2 : Stp (Z ρ σ) H (Z ρ' σ) H1 := st.trans (stp_own h4)
        exact k _ _ (lk.trans h3) (st2.trans (.same sm)) (RN.rss h1 sm st2.trk (rn_tup np h2))
      · cases e
    · cases e
  · cases e
theorem de_lst (h : DA X es ts) : DE X (.List es pos) (dLst ts) := by
  refine pe_weak (pe_lst h) fun σ H Q q => ?_
  obtain ⟨B, ρ, r, ρ', hl, er, e, k⟩ := q
  unfold dLst at e
  split at e
  · rename_i rs ρ1 e1
    split at e
    · rename_i ds ρ2 e2
      split at e
      · rename_i hlen
        cases e
        refine ⟨B, ρ, rs, ρ1, hl, er, e1, fun vs H1 lk st rr => ?_⟩
        obtain ⟨h1, h2, h3, h4⟩ := frz_ok (lk.len.trans hl) e2 rr
        refine ⟨lt1000 (by rw [h2.len]; exact hlen), fun p np => ?_⟩
        have sm : Same H1 (upd H1 p (.lst vs)) := upd_same_of np
        have st2 : Stp (Z ρ σ) H (Z ρ' σ) H1 := st.trans (stp_own h4)
        exact k _ _ (lk.trans h3) (st2.trans (.same sm)) (RN.rss h1 sm st2.trk (rn_lst np h2))
      · cases e
    · cases e
  · cases e
end

/-! ### truth, tests -/
def tru : D → Option Bool
  | .none => some false
  | .bool b => some b
  | .int i => some (i != 0)
  | .str x => if x.length ≤ 1000 then some ((x.length : Int) != 0) else none
  | .list ds => some (!ds.isEmpty)
  | .tuple ds => some (!ds.isEmpty)
  | .dict _ => none
theorem isEmpty_len {α β : Type} {l : List α} {m : List β} (h : l.length = m.length) : l.isEmpty = m.isEmpty := by
  cases l <;> cases m <;> simp at h <;> rfl
theorem Vw.tru {K : PySem.W.Frag} {H : Hp} {A : Addr → Prop} {d : D} {v : V} {b : Bool} (h : Vw K H A d v) (e : Dn.tru d = some b) : TruV K v H b := by
  cases d with
  | none => unfold Vw Rep at h; subst h; simp [Dn.tru] at e; subst e; rfl
  | bool c => unfold Vw Rep at h; subst h; simp [Dn.tru] at e; subst e; rfl
  | int i => unfold Vw Rep at h; subst h; simp only [Dn.tru, Option.some.injEq] at e; exact e.symm
  | str x =>
    unfold Vw Rep at h; subst h
    simp only [Dn.tru] at e
    split at e
    · rename_i hx
      cases e
      exact ⟨lt1000 hx, rfl⟩
    · cases e
  | list ds =>
    unfold Vw at h
    obtain ⟨a, xs, rfl, hr, hx⟩ := h
    simp only [Dn.tru, Option.some.injEq] at e
    exact .inl ⟨xs, hr.sq, by rw [← e, isEmpty_len hx.len]⟩
  | tuple ds =>
    unfold Vw Rep at h
    obtain ⟨a, xs, rfl, hr, hx⟩ := h
    simp only [Dn.tru, Option.some.injEq] at e
    exact .inr (.inl ⟨xs, hr, by rw [← e, isEmpty_len hx.len]⟩)
  | dict _ => simp [Dn.tru] at e
abbrev TB := Rho → Option (Bool × Rho)
def rdT (K : PySem.W.Frag) (t : TB) : TT := fun σ H Q => ∃ B ρ b ρ', ρ.length = σ.length ∧ ER K H B (Z ρ σ) ∧ t ρ = some (b, ρ') ∧
  ∀ H', Lk ρ ρ' → Stp (Z ρ σ) H (Z ρ' σ) H' → ER K H' B (Z ρ' σ) → Q b H'
def DT (X : Cx) (e : Expr) (t : TB) : Prop := PT X e (rdT X.K t)
def bNo : TB := fun _ => none
theorem dt_no {X : Cx} {e : Expr} : DT X e bNo := ⟨fun _ _ _ _ _ _ ⟨_, _, _, _, _, _, h, _⟩ => by cases h⟩
/-- a result's truth -/
def truR (ρ : Rho) (r : R) : Option Bool := match look ρ r with
  | some d => tru d
  | none => none
def bTru (t : TD) : TB := fun ρ => match t ρ with
  | some (r, ρ1) => match truR ρ1 r with
    | some b => some (b, ρ1)
    | none => none
  | none => none
section
variable {K : PySem.W.Frag} {H H' : Hp} {B : Addr → Prop} {ρ : Rho} {σ : St} {r : R} {v : V} {b : Bool}
theorem truR_ok (rr : RSs K H H' B ρ σ [r] [v]) (e : truR ρ r = some b) : TruV K v H' b := by
  unfold truR at e
  split at e
  · rename_i d e1
    have : looks ρ [r] = some [d] := by simp [looks, e1]
    cases rr.vw this with
    | cons q _ => exact q.tru e
  · cases e
theorem tru_read {t : TD} {Q : Bool → Hp → Prop} (h : rdT K (bTru t) σ H Q) : rd K t σ H fun x H1 => ∃ k, TruV K x H1 k ∧ Q k H1 := by
  obtain ⟨B, ρ, b, ρ', hl, er, e, k⟩ := h
  unfold bTru at e
  split at e
  · rename_i r ρ1 e1
    split at e
    · rename_i b' e2
      cases e
      exact ⟨B, ρ, r, ρ', hl, er, e1, fun v H1 lk st rr => ⟨b, truR_ok rr e2, k H1 lk st rr.er.left⟩⟩
    · cases e
  · cases e
end
/-- a bool -/
def asB : R → Option Bool
  | .v (.bool b) => some b
  | _ => none
def bVal (t : TD) : TB := fun ρ => match t ρ with
  | some (r, ρ1) => match asB r with
    | some b => some (b, ρ1)
    | none => none
  | none => none
theorem asB_some {r : R} {b : Bool} (h : asB r = some b) : r = .v (.bool b) := by
  unfold asB at h
  split at h
  · cases h; rfl
  · cases h
theorem bval_read {K : PySem.W.Frag} {t : TD} {σ : St} {H : Hp} {Q : Bool → Hp → Prop} (h : rdT K (bVal t) σ H Q) : rd K t σ H fun x H1 => ∃ k, x = .bl k ∧ Q k H1 := by
  obtain ⟨B, ρ, b, ρ', hl, er, e, k⟩ := h
  unfold bVal at e
  split at e
  · rename_i r ρ1 e1
    split at e
    · rename_i b' e2
      cases e
      obtain rfl := asB_some e2
      refine ⟨B, ρ, _, ρ', hl, er, e1, fun v H1 lk st rr => ⟨b, ?_, k H1 lk st rr.er.left⟩⟩
      have : looks ρ' [R.v (.bool b)] = some [.bool b] := by simp [looks, look]
      cases rr.vw this with
      | cons q _ => unfold Vw Rep at q; exact q
    · cases e
  · cases e
section
variable {X : Cx} {a b c e : Expr} {t u ta tb tc : TD} {f g : List D → Option R} {pos : Pos} {rest : List Expr}
theorem dt_tru (h : DE X e t) (he : ∀ whole, isTrue e X.env whole = (do let v ← whole; standAt e.pos; holding [v] (truthy v))) : DT X e (bTru t) :=
  pt_weak (pt_truth h he) fun _ _ _ h => tru_read h
theorem dt_cmp {op : CmpOp} (ho : OpR X (compareOp op) (r2 X.K f)) (ha : DE X a ta) (hb : DE X b tb) (hm : behindInMarks op b = false) : DT X (.Compare a [op] [b] pos) (bVal (dOp f (dCons ta (dCons tb dNil)))) :=
  pt_weak (pt_cmpR ho ha hb hm) fun σ H Q h => by
    have := bval_read h
    have h2 := two_read (op_read this)
    exact h2
/-- not -/
def bNot (t : TB) : TB := fun ρ => match t ρ with
  | some (b, ρ1) => some (!b, ρ1)
  | none => none
theorem dt_not {t : TB} (h : DT X a t) : DT X (.UnaryOp .Not a pos) (bNot t) := by
  refine pt_weak (pt_not h) fun σ H Q q => ?_
  obtain ⟨B, ρ, b, ρ', hl, er, e, k⟩ := q
  unfold bNot at e
  split at e
  · rename_i b' ρ1 e1
    cases e
    exact ⟨B, ρ, b', ρ', hl, er, e1, fun H1 lk st er1 => k H1 lk st er1⟩
  · cases e
def bAnd (t u : TB) : TB := fun ρ => match t ρ with
  | some (true, ρ1) => u ρ1
  | some (false, ρ1) => some (false, ρ1)
  | none => none
def bOr (t u : TB) : TB := fun ρ => match t ρ with
  | some (true, ρ1) => some (true, ρ1)
  | some (false, ρ1) => u ρ1
  | none => none
theorem band_read {K : PySem.W.Frag} {t u : TB} {σ : St} {H : Hp} {Q : Bool → Hp → Prop} (h : rdT K (bAnd t u) σ H Q) : tAnd (rdT K t) (rdT K u) σ H Q := by
  obtain ⟨B, ρ, b, ρ', hl, er, e, k⟩ := h
  unfold bAnd at e
  split at e
  · rename_i ρ1 e1
    refine ⟨B, ρ, true, ρ1, hl, er, e1, fun H1 lk st er1 => ?_⟩
    refine iteT ?_
    exact ⟨B, ρ1, b, ρ', lk.len.trans hl, er1, e, fun H2 lk2 st2 er2 => k H2 (lk.trans lk2) (st.trans st2) er2⟩
  · rename_i ρ1 e1
    cases e
    refine ⟨B, ρ, false, ρ', hl, er, e1, fun H1 lk st er1 => ?_⟩
    refine iteF ?_
    exact k H1 lk st er1
  · cases e
theorem bor_read {K : PySem.W.Frag} {t u : TB} {σ : St} {H : Hp} {Q : Bool → Hp → Prop} (h : rdT K (bOr t u) σ H Q) : tOr (rdT K t) (rdT K u) σ H Q := by
  obtain ⟨B, ρ, b, ρ', hl, er, e, k⟩ := h
  unfold bOr at e
  split at e
  · rename_i ρ1 e1
    cases e
    refine ⟨B, ρ, true, ρ', hl, er, e1, fun H1 lk st er1 => ?_⟩
    refine iteT ?_
    exact k H1 lk st er1
  · rename_i ρ1 e1
    refine ⟨B, ρ, false, ρ1, hl, er, e1, fun H1 lk st er1 => ?_⟩
    refine iteF ?_
    exact ⟨B, ρ1, b, ρ', lk.len.trans hl, er1, e, fun H2 lk2 st2 er2 => k H2 (lk.trans lk2) (st.trans st2) er2⟩
  · cases e
def DW (X : Cx) (e : Expr) (t : TB) : Prop := PW X e (rdT X.K t)
theorem DW.dt {t : TB} (h : DW X e t) : DT X e t := PW.pt h
theorem pw_weak {t t' : TT} (h : PW X e t) (w : ∀ σ H Q, t' σ H Q → t σ H Q) : PW X e t' := ⟨fun wh pins s σ H Q I q => h.run wh pins s σ H Q I (w σ H Q q)⟩
theorem dw_and1 {t : TB} (h : DT X a t) : DW X (.BoolOp .And [a] pos) t := pw_and1 h
theorem dw_or1 {t : TB} (h : DT X a t) : DW X (.BoolOp .Or [a] pos) t := pw_or1 h
theorem dw_and {t u : TB} (ha : DT X a t) (hb : DW X (.BoolOp .And (b :: rest) pos) u) : DW X (.BoolOp .And (a :: b :: rest) pos) (bAnd t u) := pw_weak (pw_and ha hb) fun _ _ _ h => band_read h
theorem dw_or {t u : TB} (ha : DT X a t) (hb : DW X (.BoolOp .Or (b :: rest) pos) u) : DW X (.BoolOp .Or (a :: b :: rest) pos) (bOr t u) := pw_weak (pw_or ha hb) fun _ _ _ h => bor_read h
/-! .. as values -/
def dAnd (t u : TD) : TD := fun ρ => match t ρ with
  | some (r, ρ1) => match truR ρ1 r with
    | some true => u ρ1
    | some false => some (r, ρ1)
    | none => none
  | none => none
def dOr (t u : TD) : TD := fun ρ => match t ρ with
  | some (r, ρ1) => match truR ρ1 r with
    | some true => some (r, ρ1)
    | some false => u ρ1
    | none => none
  | none => none
def dNot (t : TD) : TD := fun ρ => match t ρ with
  | some (r, ρ1) => match truR ρ1 r with
    | some b => some (.v (.bool (!b)), ρ1)
    | none => none
  | none => none
theorem rd_go {K : PySem.W.Frag} {u : TD} {σ : St} {H H1 : Hp} {Q : VK} {B : Addr → Prop} {ρ ρ1 ρ' : Rho} {r : R} (hl : ρ1.length = σ.length) (er1 : ER K H1 B (Z ρ1 σ)) (e : u ρ1 = some (r, ρ')) (lk : Lk ρ ρ1) (st : Stp (Z ρ σ) H (Z ρ1 σ) H1)
    (k : ∀ v H', Lk ρ ρ' → Stp (Z ρ σ) H (Z ρ' σ) H' → RSs K H H' B ρ' σ [r] [v] → Q v H') : rd K u σ H1 Q :=
  ⟨B, ρ1, r, ρ', hl, er1, e, fun v H2 lk2 st2 rr => k v H2 (lk.trans lk2) (st.trans st2) ⟨rr.len, rr.er, fun a z => by
    have := rr.fr a z
    cases q : H a with
    | none => rfl
    | some o => exact absurd this (st.trk a (by rw [q]; simp)), rr.bo⟩⟩
theorem de_one {op} (h : DE X a t) : DE X (.BoolOp op [a] pos) t := pe_one h
theorem de_and (ha : DE X a t) (hb : DE X (.BoolOp .And (b :: rest) pos) u) : DE X (.BoolOp .And (a :: b :: rest) pos) (dAnd t u) := by
  refine pe_weak (pe_andT ha hb) fun σ H Q q => ?_
  obtain ⟨B, ρ, r, ρ', hl, er, e, k⟩ := q
  unfold dAnd at e
  split at e
  · rename_i r1 ρ1 e1
    refine ⟨B, ρ, r1, ρ1, hl, er, e1, fun v H1 lk st rr => ?_⟩
    split at e
    · rename_i e2
      refine ⟨true, truR_ok rr e2, ?_⟩
      refine iteT ?_
      exact rd_go (lk.len.trans hl) rr.er.left e lk st k
    · rename_i e2
      cases e
      refine ⟨false, truR_ok rr e2, ?_⟩
      refine iteF ?_
      exact k v H1 lk st rr
    · cases e
  · cases e
theorem de_or (ha : DE X a t) (hb : DE X (.BoolOp .Or (b :: rest) pos) u) : DE X (.BoolOp .Or (a :: b :: rest) pos) (dOr t u) := by
  refine pe_weak (pe_orT ha hb) fun σ H Q q => ?_
  obtain ⟨B, ρ, r, ρ', hl, er, e, k⟩ := q
  unfold dOr at e
  split at e
  · rename_i r1 ρ1 e1
    refine ⟨B, ρ, r1, ρ1, hl, er, e1, fun v H1 lk st rr => ?_⟩
    split at e
    · rename_i e2
      cases e
      refine ⟨true, truR_ok rr e2, ?_⟩
      refine iteT ?_
      exact k v H1 lk st rr
    · rename_i e2
      refine ⟨false, truR_ok rr e2, ?_⟩
      refine iteF ?_
      exact rd_go (lk.len.trans hl) rr.er.left e lk st k
    · cases e
  · cases e
theorem de_not (ha : DE X a t) : DE X (.UnaryOp .Not a pos) (dNot t) := by
  refine pe_weak (pe_notT ha) fun σ H Q q => ?_
  obtain ⟨B, ρ, r, ρ', hl, er, e, k⟩ := q
  unfold dNot at e
  split at e
  · rename_i r1 ρ1 e1
    split at e
    · rename_i c e2
      cases e
      refine ⟨B, ρ, r1, ρ', hl, er, e1, fun v H1 lk st rr => ⟨c, truR_ok rr e2, k _ H1 lk st (rss_val rr.er.left rep_bl)⟩⟩
    · cases e
  · cases e
/-- a if c else b -/
def dIf (t : TB) (u w : TD) : TD := fun ρ => match t ρ with
  | some (true, ρ1) => u ρ1
  | some (false, ρ1) => w ρ1
  | none => none
theorem de_if {tt : TB} (hc : DT X c tt) (ha : DE X a t) (hb : DE X b u) : DE X (.IfExp c a b pos) (dIf tt t u) := by
  refine pe_weak (pe_ifExp hc ha hb) fun σ H Q q => ?_
  obtain ⟨B, ρ, r, ρ', hl, er, e, k⟩ := q
  unfold dIf at e
  split at e
  · rename_i ρ1 e1
    refine ⟨B, ρ, true, ρ1, hl, er, e1, fun H1 lk st er1 => ?_⟩
    refine iteT ?_
    exact rd_go (lk.len.trans hl) er1 e lk st k
  · rename_i ρ1 e1
    refine ⟨B, ρ, false, ρ1, hl, er, e1, fun H1 lk st er1 => ?_⟩
    refine iteF ?_
    exact rd_go (lk.len.trans hl) er1 e lk st k
  · cases e
end
end Dn

set_option Elab.async false
set_option linter.all false
set_option maxRecDepth 100000
set_option maxHeartbeats 2000000
namespace Dn
open PySem PySem.Spec PyProof.Rows L2

/-! ### values as the library's data -/
section
variable {K : PySem.W.Frag} {H : Hp} {A : Addr → Prop}
theorem dpBoth : ∀ n, (∀ d v, sizeOf d ≤ n → d.canLay0 = true → Rep K H A d v → Dp K H v d) ∧ (∀ ds vs, sizeOf ds ≤ n → PyData.canLayAll0 ds = true → RepA K H A ds vs → DpAll K H vs ds) := by
  intro n
  induction n with
  | zero =>
    refine ⟨fun d v hs => ?_, fun ds vs hs => ?_⟩
    · cases d <;> simp at hs <;> omega
    · cases ds <;> simp at hs <;> omega
  | succ n ih =>
    refine ⟨fun d v hs hc h => ?_, fun ds vs hs hc h => ?_⟩
    · cases d with
      | none => unfold Rep at h; subst h; exact .non
      | bool b => unfold Rep at h; subst h; exact .bl b
      | int i => unfold Rep at h; subst h; exact .int i
      | str x => unfold Rep at h; subst h; exact .str x
      | list ds =>
        unfold Rep at h
        obtain ⟨a, xs, rfl, hr, hx⟩ := h
        exact .lst hr.lv.sq (ih.2 ds xs (by simp at hs; omega) (by simpa [PyData.canLay0] using hc) hx)
      | tuple ds =>
        unfold Rep at h
        obtain ⟨a, xs, rfl, hr, hx⟩ := h
        exact .tup hr (ih.2 ds xs (by simp at hs; omega) (by simpa [PyData.canLay0] using hc) hx)
      | dict kvs => simp [PyData.canLay0] at hc
    · cases ds with
      | nil => unfold RepA at h; subst h; exact .nil
      | cons d ds =>
        unfold RepA at h
        obtain ⟨x, r, rfl, h1, h2⟩ := h
        simp only [PyData.canLayAll0, Bool.and_eq_true] at hc
        exact .cons (ih.1 d x (by simp at hs; omega) hc.1 h1) (ih.2 ds r (by simp at hs; omega) hc.2 h2)
theorem Vw.dp {d : D} {v : V} (h : Vw K H A d v) (hc : d.canLay0 = true) : Dp K H v d := by
  cases d with
  | list ds =>
    unfold Vw at h
    obtain ⟨a, xs, rfl, hr, hx⟩ := h
    exact .lst hr.sq ((dpBoth (sizeOf ds)).2 ds xs (Nat.le_refl _) (by simpa [PyData.canLay0] using hc) hx)
  | _ => exact (dpBoth (K := K) (H := H) (A := A) _).1 _ v (Nat.le_refl _) hc h
theorem vw1 {ds : List D} {v : V} (h : VwA K H A ds [v]) : ∃ d, ds = [d] ∧ Vw K H A d v := by
  cases h with
  | cons h t => cases t; exact ⟨_, rfl, h⟩
theorem vw2 {ds : List D} {v u : V} (h : VwA K H A ds [v, u]) : ∃ d e, ds = [d, e] ∧ Vw K H A d v ∧ Vw K H A e u := by
  cases h with
  | cons h t =>
    obtain ⟨e, rfl, h2⟩ := vw1 t
    exact ⟨_, _, rfl, h, h2⟩
theorem VwA.of1 {d : D} {vs : List V} (h : VwA K H A [d] vs) : ∃ v, vs = [v] ∧ Vw K H A d v := by
  cases h with
  | cons h t => cases t; exact ⟨_, rfl, h⟩
theorem VwA.of2 {d e : D} {vs : List V} (h : VwA K H A [d, e] vs) : ∃ v u, vs = [v, u] ∧ Vw K H A d v ∧ Vw K H A e u := by
  cases h with
  | cons h t =>
    obtain ⟨e, rfl, h2⟩ := t.of1
    exact ⟨_, _, rfl, h, h2⟩
theorem Vw.int {i : Int} {v : V} (h : Vw K H A (.int i) v) : v = .int i := by unfold Vw Rep at h; exact h
theorem Vw.bl {i : Bool} {v : V} (h : Vw K H A (.bool i) v) : v = .bl i := by unfold Vw Rep at h; exact h
theorem Vw.str {i : Str} {v : V} (h : Vw K H A (.str i) v) : v = .str i := by unfold Vw Rep at h; exact h
theorem Vw.non {v : V} (h : Vw K H A .none v) : v = .non := by unfold Vw Rep at h; exact h
theorem Vw.lst {ds : List D} {v : V} (h : Vw K H A (.list ds) v) : ∃ a xs, v = .ref a ∧ LV K H a xs ∧ RepA K H A ds xs := by unfold Vw at h; exact h
theorem Vw.tupRep {ds : List D} {v : V} (h : Vw K H A (.tuple ds) v) : Rep K H A (.tuple ds) v := by unfold Vw at h; exact h
theorem Vw.tup {ds : List D} {v : V} (h : Vw K H A (.tuple ds) v) : ∃ a xs, v = .ref a ∧ SqT K H a xs ∧ RepA K H A ds xs := by unfold Vw Rep at h; exact h
end

/-- two operands, by their views -/
theorem opR2 {X : Cx} {op : Value → Value → Sem Value} {f : List D → Option R}
    (h : ∀ (pins : List (Addr × Obj)) (s : Shared) (σ : St) (H : Hp) (v u : Value) (Q : VK) (A : Addr → Prop) (d e : D) (x y : V) (r : R), Inv X pins σ H s → RelV x v → RelV y u → (∀ b, A b → H b ≠ none) → Vw X.K H A d x → Vw X.K H A e y → f [d, e] = some r →
      (∀ w H', Same H H' → RN X.K H H' A r w → Q w H') → wpAny (model X.prog X.w) X.A (op v u) (EP X pins σ Q) X.xe s) : OpR X op (r2 X.K f) := by
  intro pins s σ H x y v u Q I rx ry ⟨A, ds, r, hA, hv, e, k⟩
  obtain ⟨d, e', rfl, h1, h2⟩ := vw2 hv
  exact h pins s σ H v u Q A d e' x y r I rx ry hA h1 h2 e k

/-! ### arithmetic -/
def mulOk (a b : Int) : Bool := decide (Builtin.Int.intBits a + Builtin.Int.intBits b ≤ 134217728)
def divOk (a b : Int) : Bool := b != 0 && !Builtin.divisionGoesByPylong a b
def pAdd : List D → Option R
  | [.int a, .int b] => some (.v (.int (a + b)))
  | [.tuple xs, .tuple ys] => if xs.length + ys.length ≤ 1000 then some (.v (.tuple (xs ++ ys))) else none
  | [.list xs, .list ys] => if xs.length + ys.length ≤ 1000 then some (.o (xs ++ ys)) else none
  | [.str x, .str y] => if x.length + y.length ≤ 1000 then some (.v (.str (x ++ y))) else none
  | _ => none
def pSub : List D → Option R
  | [.int a, .int b] => some (.v (.int (a - b)))
  | _ => none
def pMul : List D → Option R
  | [.int a, .int b] => if mulOk a b then some (.v (.int (a * b))) else none
  | [.list xs, .int k] => if decide (-1000 ≤ k) && decide (k ≤ 1000) && decide (xs.length * k.toNat ≤ 1000) then some (.o (List.replicate k.toNat xs).flatten) else none
  | [.tuple xs, .int k] => if k == 1 then some (.v (.tuple xs)) else if decide (2 ≤ k) && decide (k ≤ 1000) && decide (xs.length ≤ 1000) && !xs.isEmpty && decide (xs.length * k.toNat ≤ 1000) then some (.v (.tuple (List.replicate k.toNat xs).flatten)) else none
  | _ => none
def pDiv : List D → Option R
  | [.int a, .int b] => if divOk a b then some (.v (.int (a.fdiv b))) else none
  | _ => none
def pMod : List D → Option R
  | [.int a, .int b] => if b != 0 then some (.v (.int (a.fmod b))) else none
  | _ => none
def pPow : List D → Option R
  | [.int a, .int b] => if decide (0 ≤ b) && decide (b ≤ 1000) && decide (a.natAbs < 2 ^ 64) then some (.v (.int (a ^ b.toNat))) else none
  | _ => none
def pNeg : List D → Option R
  | [.int a] => some (.v (.int (-a)))
  | _ => none
section
variable {X : Cx}
theorem rn_int {K : PySem.W.Frag} {H H' : Hp} {A : Addr → Prop} {i : Int} : RN K H H' A (.v (.int i)) (.int i) := rep_int (K := K) (H := H') (A := A)
theorem rn_bl {K : PySem.W.Frag} {H H' : Hp} {A : Addr → Prop} {i : Bool} : RN K H H' A (.v (.bool i)) (.bl i) := rep_bl (K := K) (H := H') (A := A)
theorem rn_str {K : PySem.W.Frag} {H H' : Hp} {A : Addr → Prop} {i : Str} : RN K H H' A (.v (.str i)) (.str i) := rep_str (K := K) (H := H') (A := A)
/-- a list that is read, as its object -/
theorem lst_obj {pins : List (Addr × Obj)} {s : Shared} {σ : St} {H : Hp} {l : Addr} {xs : List V} (I : Inv X pins σ H s) (h : LV X.K H l xs) :
    ∃ (its : List Value) (n : Nat), Vals xs its ∧ xs.length = its.length ∧ xs.length ≤ sizeLine ∧ s.heap.get? l = some { cls := .type "list", data := .seq its.toArray n } := by
  rcases h with h | ⟨its, n, e, z, r⟩
  · have o : ObjOk X.prog X.w H s.heap l (.lst xs) := h.ok I.hok
    obtain ⟨z, its, n, r, e⟩ := o
    exact ⟨its, n, r, r.length, z, e⟩
  · exact ⟨its, n, r, r.length, z, I.kIn l _ e⟩
theorem o_add : OpR X (binaryOp .Add) (r2 X.K pAdd) := by
  refine opR2 fun pins s σ H v u Q A d e x y r I rx ry hA h1 h2 er k => ?_
  unfold pAdd at er
  split at er
  · rename_i a b z; cases z; cases er
    exact op_add pins s σ H x y v u Q I rx ry ⟨a, b, h1.int, h2.int, k _ H (.refl _) rn_int⟩
  · rename_i xs ys z; cases z
    split at er
    · rename_i hl
      cases er
      obtain ⟨p, vs, e1, hp, rp⟩ := h1.tup
      obtain ⟨q, us, e2, hq, rq⟩ := h2.tup
      have l1 := rp.len
      have l2 := rq.len
      refine op_catA pins s σ H x y v u Q I rx ry ⟨p, q, vs, us, e1, e2, hp, hq, lt1000 (by omega), fun z => ?_, fun z1 z2 => ?_, fun _ _ c nc => ?_⟩
      · have : xs = [] := by subst z; simpa using l1.symm
        subst this
        subst e2
        exact k _ H (.refl _) (by rw [List.nil_append]; exact h2.tupRep)
      · have : ys = [] := by subst z2; simpa using l2.symm
        subst this
        subst e1
        exact k _ H (.refl _) (by rw [List.append_nil]; exact h1.tupRep)
      · exact k _ _ (upd_same_of nc) (rn_tup nc (rp.app rq))
    · cases er
  · rename_i xs ys z; cases z
    split at er
    · rename_i hl
      cases er
      obtain ⟨p, vs, e1, hp, rp⟩ := h1.lst
      obtain ⟨q, us, e2, hq, rq⟩ := h2.lst
      have l1 := rp.len
      have l2 := rq.len
      subst e1 e2
      cases rx
      cases ry
      obtain ⟨its, n, r1, a1, z1, g1⟩ := lst_obj I hp
      obtain ⟨its2, n2, r2', a2, z2, g2⟩ := lst_obj I hq
      have hz : (vs ++ us).length ≤ sizeLine := by rw [List.length_append]; exact lt1000 (by omega)
      have ea : its.toArray ++ its2.toArray = (its ++ its2).toArray := by simp
      refine PySem.P.add_list g1 g2 ?_ (by rw [List.size_toArray, List.size_toArray, ← a1, ← a2]; exact lt1000 (by omega))
      rw [ea]
      exact ⟨.ref _, _, I.lnew (t' := s.toks) (r1.append r2') hz, rfl, k _ _ (upd_same_of I.fresh) (rn_lst I.fresh (rp.app rq))⟩
    · cases er
  · rename_i a b z; cases z
    split at er
    · rename_i hl
      cases er
      exact op_add_str pins s σ H x y v u Q I rx ry ⟨a, b, h1.str, h2.str, lt1000 hl, k _ H (.refl _) rn_str⟩
    · cases er
  · cases er
theorem o_sub : OpR X (binaryOp .Sub) (r2 X.K pSub) := by
  refine opR2 fun pins s σ H v u Q A d e x y r I rx ry hA h1 h2 er k => ?_
  unfold pSub at er
  split at er
  · rename_i a b z; cases z; cases er
    exact op_sub pins s σ H x y v u Q I rx ry ⟨a, b, h1.int, h2.int, k _ H (.refl _) rn_int⟩
  · cases er
open AutoSeq1 (wpAny_loadPart') in
theorem tuple_once (l : Addr) (items : Array Value) (n : Nat) (dd : Option Addr) (sl : Array (Option Value)) (u : Tok) :
    Meets (Builtin.«tuple.__mul__» ⟨[.ref l, .int 1 u], []⟩) (fun _ R s => s.heap.get? l = some { cls := .type "tuple", dict := dd, data := .seq items n, slots := sl } ∧ R (.ok (.ret (.ref l))) s) := by
  refine .of_wp fun prog w A R s ⟨hl, h⟩ => ?_
  obtain ⟨hp, g, d, tk, os⟩ := s
  have f1 := AutoSeq1.idx_int
  have c0 : (decide ((1 : Int) < -(2 ^ 63)) || decide ((1 : Int) ≥ 2 ^ 63)) = false := by decide
  have c1 : (items.isEmpty || (1 : Int) == 1) = true := by simp
  wp_walk using wpAny_loadPart' hl
  repeat (first
    | (refine wpAny_ite_false (decide_eq_false (by rw [c0]; exact Bool.false_ne_true)) ?_; wp_walk using wpAny_loadPart' hl)
    | (refine wpAny_ite_true (decide_eq_true c1) ?_; wp_walk using wpAny_loadPart' hl))
  exact ⟨_, rfl, h⟩
theorem o_mul : OpR X (binaryOp .Mult) (r2 X.K pMul) := by
  refine opR2 fun pins s σ H v u Q A d e x y r I rx ry hA h1 h2 er k => ?_
  unfold pMul at er
  split at er
  · rename_i a b z; cases z
    split at er
    · rename_i hm
      cases er
      refine op_mulX pins s σ H x y v u Q I rx ry ⟨a, b, h1.int, h2.int, ?_, k _ H (.refl _) rn_int⟩
      have := of_decide_eq_true hm
      unfold CMulX
      omega
    · cases er
  · rename_i xs j z; cases z
    split at er
    · rename_i hm
      cases er
      simp only [Bool.and_eq_true, decide_eq_true_eq] at hm
      obtain ⟨⟨m1, m2⟩, m3⟩ := hm
      obtain ⟨p, vs, e1, hp, rp⟩ := h1.lst
      have l1 := rp.len
      obtain ⟨its, n, r1, a1, z, g1⟩ := lst_obj I hp
      subst e1
      cases rx
      obtain ⟨t, rfl⟩ : ∃ t, u = Value.int j t := by have := h2.int; subst this; exact ry
      have hlen : its.toArray.size * j.toNat ≤ sizeLine := by rw [List.size_toArray, ← r1.length, l1]; exact lt1000 m3
      have hcap : ¬ its.toArray.size * j.toNat > (2 ^ 63 - 1) / 8 := by
        have : (sizeLine : Nat) ≤ (2 ^ 63 - 1) / 8 := by decide
        omega
      have hfit : ¬ (!Builtin.List.listFitsIndex j) = true := by
        rw [fitsIndex_both (by omega) (by omega)]; exact Bool.false_ne_true
      have hlong : ¬ Builtin.List.listTooLong (its.toArray.size * j.toNat) = true := by
        rw [notLongL hlen]; exact Bool.false_ne_true
      have hnew : List.foldl (fun x1 x2 => x1 ++ x2) #[] (List.replicate (if its.toArray.isEmpty = true then 0 else j.toNat) its.toArray) = (List.replicate j.toNat its).flatten.toArray := by
        rw [size_rep]
        cases its with
        | nil => simp
        | cons a r' => rw [if_neg (by simp)]
      refine wpAny_binaryOp_repeat_ref (T := "list") (U := "int") (by decide) ⟨_, g1, rfl⟩ (fun s' => typeIs_int s' j t) noFill_list_mul PySem.F.fills_int_mul PySem.F.slot_int_rmul repeat_list PySem.F.slot_int_index.lookup
        (call_meets PySem.F.slot_int_rmul (typeIs_int s j t) PySem.F.entry_int_rmul (PySem.F.args_int_rmul_2 _ _) (int___rmul___int_list j t p its.toArray n)
          ⟨g1, rfl, ⟨_, g1, rfl⟩, call_meets PySem.F.slot_list_mul ⟨_, g1, rfl⟩ PySem.F.entry_list_mul (PySem.F.args_list_mul_2 _ _) (AutoListH.list___mul___list_int_3 p its.toArray n j t hfit hcap hlong) ⟨g1, ?_⟩⟩)
      rw [hnew]
      have hz : (List.replicate j.toNat vs).flatten.length ≤ sizeLine := by rw [PyProof.Rows.lm_len_rep_flat, Nat.mul_comm, l1]; exact lt1000 m3
      exact ⟨.ref _, _, I.lnew (t' := s.toks) (r1.rep j.toNat) hz, rfl, k _ _ (upd_same_of I.fresh) (rn_lst I.fresh (rp.rep _))⟩
    · cases er
  · rename_i xs j z; cases z
    split at er
    · rename_i hj
      cases er
      obtain rfl : j = 1 := by simpa using hj
      obtain ⟨p, vs, rfl, hp, rp⟩ := h1.tup
      obtain rfl : v = Value.ref p := rx
      obtain ⟨t, rfl⟩ : ∃ t, u = Value.int 1 t := by have := h2.int; subst this; exact ry
      obtain ⟨its, r1, ⟨⟨cls, dd, data, sl⟩, ho, hc, n, hd⟩, _⟩ := I.tuple hp
      simp only at hc hd
      subst hc hd
      exact wpAny_binaryOp_repeat_ref (T := "tuple") (U := "int") (by decide) ⟨_, ho, rfl⟩ (fun s' => typeIs_int s' 1 t) noFill_tuple_mul F.fills_int_mul F.slot_int_rmul repeat_tuple F.slot_int_index.lookup
        (call_meets F.slot_int_rmul (typeIs_int s 1 t) F.entry_int_rmul (F.args_int_rmul_2 _ _) (int_rmul_tuple 1 t p its.toArray n dd sl)
          ⟨ho, rfl, ⟨_, ho, rfl⟩, call_meets F.slot_tuple_mul ⟨_, ho, rfl⟩ F.entry_tuple_mul (F.args_tuple_mul_2 _ _) (tuple_once p its.toArray n dd sl t) ⟨ho, .ref p, H, I, rfl, k _ H (.refl _) h1.tupRep⟩⟩)
    split at er
    · rename_i hm
      cases er
      simp only [Bool.and_eq_true, decide_eq_true_eq] at hm
      obtain ⟨⟨⟨⟨m1, m2⟩, m3⟩, m4⟩, m5⟩ := hm
      obtain ⟨p, vs, e1, hp, rp⟩ := h1.tup
      have l1 := rp.len
      refine op_repT pins s σ H x y v u Q I rx ry ⟨p, j, vs, e1, h2.int, hp, fun z => ?_, m1, m2, by omega, fun c nc => k _ _ (upd_same_of nc) (rn_tup nc (rp.rep _))⟩
      subst z
      have : xs = [] := by simpa using l1.symm
      subst this
      simp at m4
    · cases er
  · cases er
theorem o_div : OpR X (binaryOp .FloorDiv) (r2 X.K pDiv) := by
  refine opR2 fun pins s σ H v u Q A d e x y r I rx ry hA h1 h2 er k => ?_
  unfold pDiv at er
  split at er
  · rename_i a b z; cases z
    split at er
    · rename_i hm
      cases er
      simp only [divOk, Bool.and_eq_true, bne_iff_ne, ne_eq, Bool.not_eq_true'] at hm
      have e1 := h1.int
      have e2 := h2.int
      subst e1 e2
      obtain ⟨t, rfl⟩ := rx
      obtain ⟨t', rfl⟩ := ry
      exact floordiv_int hm.1 ⟨.int _, H, I.tok _, ⟨_, rfl⟩, k _ H (.refl _) rn_int⟩ (.inl hm.2)
    · cases er
  · cases er
theorem o_mod : OpR X (binaryOp .Mod) (r2 X.K pMod) := by
  refine opR2 fun pins s σ H v u Q A d e x y r I rx ry hA h1 h2 er k => ?_
  unfold pMod at er
  split at er
  · rename_i a b z; cases z
    split at er
    · rename_i hm
      cases er
      exact op_modN pins s σ H x y v u Q I rx ry ⟨a, b, h1.int, h2.int, by simpa using hm, k _ H (.refl _) rn_int⟩
    · cases er
  · cases er
theorem o_pow : OpR X (binaryOp .Pow) (r2 X.K pPow) := by
  refine opR2 fun pins s σ H v u Q A d e x y r I rx ry hA h1 h2 er k => ?_
  unfold pPow at er
  split at er
  · rename_i a b z; cases z
    split at er
    · rename_i hm
      cases er
      simp only [Bool.and_eq_true, decide_eq_true_eq] at hm
      exact op_pow pins s σ H x y v u Q I rx ry ⟨a, b, h1.int, h2.int, ⟨hm.1.1, by omega, hm.2⟩, k _ H (.refl _) rn_int⟩
    · cases er
  · cases er
theorem o_neg : UnR X (unaryOp .USub) (r1 X.K pNeg) := by
  intro pins s σ H x v Q I rx ⟨A, ds, r, hA, hv, er, k⟩
  unfold pNeg at er
  split at er
  · rename_i a
    cases er
    obtain ⟨w, ew, h1⟩ := hv.of1
    cases ew
    exact un_neg pins s σ H x v Q I rx ⟨a, h1.int, k _ H (.refl _) rn_int⟩
  · cases er

/-! ### comparisons -/
/-- a sequence beside an empty one -/
def emp2 : D → D → Bool
  | .tuple _, .tuple [] => true
  | .list _, .list [] => true
  | _, _ => false
def pEq : List D → Option R
  | [d, e] => if emp2 d e || SeqAt.shaped d && SeqAt.shaped e then some (.v (.bool (PyData.eqv d e))) else none
  | _ => none
def pNe : List D → Option R
  | [d, e] => if emp2 d e || SeqAt.shaped d && SeqAt.shaped e then some (.v (.bool (!PyData.eqv d e))) else none
  | _ => none
def pCmp (p : Int → Int → Bool) : List D → Option R
  | [.int a, .int b] => some (.v (.bool (p a b)))
  | _ => none
abbrev pLt := pCmp fun i j => decide (i < j)
abbrev pLe := pCmp fun i j => decide (i ≤ j)
abbrev pGt := pCmp fun i j => decide (j < i)
abbrev pGe := pCmp fun i j => decide (j ≤ i)
def isNone : D → Bool
  | .none => true
  | _ => false
def pIs : List D → Option R
  | [d, .none] => some (.v (.bool (isNone d)))
  | _ => none
def pIsNot : List D → Option R
  | [d, .none] => some (.v (.bool (!isNone d)))
  | _ => none
def pIn : List D → Option R
  | [d, .list ds] => if SeqAt.shaped d && SeqAt.shaped (.list ds) then some (.v (.bool (ds.any fun z => PyData.eqv z d))) else none
  | [d, .tuple ds] => if SeqAt.shaped d && SeqAt.shaped (.tuple ds) then some (.v (.bool (ds.any fun z => PyData.eqv z d))) else none
  | _ => none
def pNotIn : List D → Option R
  | [d, .list ds] => if SeqAt.shaped d && SeqAt.shaped (.list ds) then some (.v (.bool (!ds.any fun z => PyData.eqv z d))) else none
  | [d, .tuple ds] => if SeqAt.shaped d && SeqAt.shaped (.tuple ds) then some (.v (.bool (!ds.any fun z => PyData.eqv z d))) else none
  | _ => none
theorem Vw.reads {pins : List (Addr × Obj)} {s : Shared} {σ : St} {H : Hp} {A : Addr → Prop} {d : D} {x : V} {v : Value} (I : Inv X pins σ H s) (h : Vw X.K H A d x) (r : RelV x v) (hs : SeqAt.shaped d = true) : ∃ as, Reads s.heap v d as :=
  Dp.reads I d x v (h.dp (SeqAt.canLay_of_shaped hs)) r
theorem eqv_t0 (ds : List D) : PyData.eqv (.tuple ds) (.tuple []) = ds.isEmpty := by cases ds <;> simp [PyData.eqv, PyData.eqvAll]
theorem eqv_l0 (ds : List D) : PyData.eqv (.list ds) (.list []) = ds.isEmpty := by cases ds <;> simp [PyData.eqv, PyData.eqvAll]
theorem emp2_run {pins : List (Addr × Obj)} {s : Shared} {σ : St} {H : Hp} {A : Addr → Prop} {d e : D} {x y : V} {v u : Value} (hu : X.A.units < cLine) (I : Inv X pins σ H s) (rx : RelV x v) (ry : RelV y u) (h1 : Vw X.K H A d x) (h2 : Vw X.K H A e y) (he : emp2 d e = true) :
    ∃ a b, v = .ref a ∧ u = .ref b ∧ SeqAt.RcAt X.A s (.ref a) (.ref b) (PyData.eqv d e) ∧ SeqAt.RcNeAt X.A s (.ref a) (.ref b) (!PyData.eqv d e) := by
  cases d with
  | tuple ds => cases e with
    | tuple es => cases es with
      | nil =>
        obtain ⟨a, xs, rfl, h1, r1⟩ := h1.tup
        obtain ⟨b, ys, rfl, h2, r2⟩ := h2.tup
        obtain rfl : v = .ref a := rx
        obtain rfl : u = .ref b := ry
        obtain ⟨i1, v1, t1, _⟩ := I.tuple h1
        obtain ⟨i2, v2, t2, _⟩ := I.tuple h2
        have e2 : ys = [] := by unfold RepA at r2; exact r2
        subst e2
        cases v2
        have e3 : (i1.length == 0) = ds.isEmpty := by
          have := v1.length
          have := r1.len
          cases ds <;> cases i1 <;> simp_all
        refine ⟨a, b, rfl, rfl, ?_, ?_⟩
        · have z := SeqAt.RcAt.tuples (e := fun _ => true) t1 t2 hu (fun j _ q => absurd q (by simp))
          rw [eqv_t0, ← e3]
          simpa using z
        · have z := SeqAt.RcNeAt.tuples (e := fun _ => false) t1 t2 hu (fun j _ q => absurd q (by simp))
          rw [eqv_t0, ← e3]
          simpa using z
      | cons _ _ => cases he
    | _ => cases he
  | list ds => cases e with
    | list es => cases es with
      | nil =>
        obtain ⟨a, xs, rfl, h1, r1⟩ := h1.lst
        obtain ⟨b, ys, rfl, h2, r2⟩ := h2.lst
        obtain rfl : v = .ref a := rx
        obtain rfl : u = .ref b := ry
        obtain ⟨i1, v1, ⟨o1, n1, g1, c1, _, d1⟩, _⟩ := I.list h1.sq
        obtain ⟨i2, v2, ⟨o2, n2, g2, c2, _, d2⟩, _⟩ := I.list h2.sq
        have t1 : s.heap.IsList a i1.toArray := ⟨o1, g1, c1, n1, d1⟩
        have t2 : s.heap.IsList b i2.toArray := ⟨o2, g2, c2, n2, d2⟩
        have e2 : ys = [] := by unfold RepA at r2; exact r2
        subst e2
        cases v2
        have e3 : (decide (i1 = [])) = ds.isEmpty := by
          have := v1.length
          have := r1.len
          cases ds <;> cases i1 <;> simp_all
        refine ⟨a, b, rfl, rfl, ?_, ?_⟩
        · rw [eqv_l0, ← e3]
          cases i1 with
          | nil => simpa using SeqAt.RcAt.lists (e := fun _ => true) t1 t2 rfl hu (fun j _ q => absurd q (by simp))
          | cons w ws => exact SeqAt.RcAt.lists_lengths t1 t2 (by simp) hu
        · rw [eqv_l0, ← e3]
          cases i1 with
          | nil => simpa using SeqAt.RcNeAt.lists (e := fun _ => false) t1 t2 rfl hu (fun j _ q => absurd q (by simp))
          | cons w ws => exact SeqAt.RcNeAt.lists_lengths t1 t2 (by simp) hu
      | cons _ _ => cases he
    | _ => cases he
  | _ => cases e <;> cases he
theorem o_eq (hu : X.A.units + 65 < cLine) : OpR X (compareOp .Eq) (r2 X.K pEq) := by
  refine opR2 fun pins s σ H v u Q A d e x y r I rx ry hA h1 h2 er k => ?_
  simp only [pEq] at er
  split at er
  · rename_i hm
    cases er
    simp only [Bool.or_eq_true, Bool.and_eq_true] at hm
    rcases hm with hm | hm
    · obtain ⟨a, b, rfl, rfl, z, _⟩ := emp2_run (by omega) I rx ry h1 h2 hm
      exact z X.prog X.w _ _ ⟨.bl _, H, I, rfl, k _ H (.refl _) rn_bl⟩
    obtain ⟨as, r1⟩ := h1.reads I rx hm.1
    obtain ⟨bs, r2⟩ := h2.reads I ry hm.2
    exact SeqAt.compareEq_shaped r1 r2 hm.1 hm.2 (by omega) ⟨.bl _, H, I, rfl, k _ H (.refl _) rn_bl⟩
  · cases er
theorem o_ne (hu : X.A.units + 65 < cLine) : OpR X (compareOp .NotEq) (r2 X.K pNe) := by
  refine opR2 fun pins s σ H v u Q A d e x y r I rx ry hA h1 h2 er k => ?_
  simp only [pNe] at er
  split at er
  · rename_i hm
    cases er
    simp only [Bool.or_eq_true, Bool.and_eq_true] at hm
    rcases hm with hm | hm
    · obtain ⟨a, b, rfl, rfl, _, z⟩ := emp2_run (by omega) I rx ry h1 h2 hm
      exact z X.prog X.w _ _ ⟨.bl _, H, I, rfl, k _ H (.refl _) rn_bl⟩
    obtain ⟨as, r1⟩ := h1.reads I rx hm.1
    obtain ⟨bs, r2⟩ := h2.reads I ry hm.2
    exact SeqAt.compareNe_shaped r1 r2 hm.1 hm.2 (by omega) ⟨.bl _, H, I, rfl, k _ H (.refl _) rn_bl⟩
  · cases er
theorem o_cmp {op : CmpOp} {p : Int → Int → Bool} (rule : OpR X (compareOp op) (rI0 fun i j => .bl (p i j))) : OpR X (compareOp op) (r2 X.K (pCmp p)) := by
  refine opR2 fun pins s σ H v u Q A d e x y r I rx ry hA h1 h2 er k => ?_
  unfold pCmp at er
  split at er
  · rename_i a b z; cases z; cases er
    exact rule pins s σ H x y v u Q I rx ry ⟨a, b, h1.int, h2.int, k _ H (.refl _) rn_bl⟩
  · cases er
theorem o_lt : OpR X (compareOp .Lt) (r2 X.K pLt) := o_cmp op_lt
theorem o_le : OpR X (compareOp .LtE) (r2 X.K pLe) := o_cmp op_le
theorem o_gt : OpR X (compareOp .Gt) (r2 X.K pGt) := o_cmp op_gt
theorem o_ge : OpR X (compareOp .GtE) (r2 X.K pGe) := o_cmp op_ge
theorem vw_none {K : PySem.W.Frag} {H : Hp} {A : Addr → Prop} {d : D} {x : V} (h : Vw K H A d x) : decide (x = .non) = isNone d := by
  cases d with
  | none => rw [h.non]; rfl
  | bool b => rw [h.bl]; rfl
  | int b => rw [h.int]; rfl
  | str b => rw [h.str]; rfl
  | list b => obtain ⟨a, _, e, _⟩ := h.lst; rw [e]; rfl
  | tuple b => obtain ⟨a, _, e, _⟩ := h.tup; rw [e]; rfl
  | dict b => unfold Vw Rep at h; obtain ⟨a, _, e, _⟩ := h; rw [e]; rfl
theorem o_is : OpR X (compareOp .Is) (r2 X.K pIs) := by
  refine opR2 fun pins s σ H v u Q A d e x y r I rx ry hA h1 h2 er k => ?_
  unfold pIs at er
  split at er
  · rename_i d z; cases z; cases er
    exact op_isN pins s σ H x y v u Q I rx ry ⟨h2.non, by rw [vw_none h1]; exact k _ H (.refl _) rn_bl⟩
  · cases er
theorem o_isnot : OpR X (compareOp .IsNot) (r2 X.K pIsNot) := by
  refine opR2 fun pins s σ H v u Q A d e x y r I rx ry hA h1 h2 er k => ?_
  unfold pIsNot at er
  split at er
  · rename_i d z; cases z; cases er
    exact op_notN pins s σ H x y v u Q I rx ry ⟨h2.non, by rw [vw_none h1]; exact k _ H (.refl _) rn_bl⟩
  · cases er
theorem lay_list {ds : List D} (h : SeqAt.shaped (.list ds) = true) : PyData.canLayAll0 ds = true := by
  have := SeqAt.canLay_of_shaped h
  simpa [PyData.canLay0] using this
theorem lay_tuple {ds : List D} (h : SeqAt.shaped (.tuple ds) = true) : PyData.canLayAll0 ds = true := by
  have := SeqAt.canLay_of_shaped h
  simpa [PyData.canLay0] using this
theorem in_room {ds : List D} {d : D} (h : SeqAt.shaped d = true) (hu : X.A.units + 65 < cLine) : X.A.units + 1 + min (PyData.depthAll ds) d.depth < cLine := by
  have h1 := SeqAt.depth_of_shaped h
  have h2 : min (PyData.depthAll ds) d.depth ≤ d.depth := Nat.min_le_right _ _
  omega
theorem o_in (hu : X.A.units + 65 < cLine) : OpR X (compareOp .In) (r2 X.K pIn) := by
  refine opR2 fun pins s σ H v u Q A d e x y r I rx ry hA h1 h2 er k => ?_
  unfold pIn at er
  split at er
  · rename_i d ds z; cases z
    split at er
    · rename_i hm
      cases er
      simp only [Bool.and_eq_true] at hm
      obtain ⟨as, r1⟩ := h1.reads I rx hm.1
      obtain ⟨bs, r2⟩ := h2.reads I ry hm.2
      exact SeqAt.in_list_reads r2 r1 (lay_list hm.2) (SeqAt.canLay_of_shaped hm.1) (in_room hm.1 hu) ⟨.bl _, H, I, rfl, k _ H (.refl _) rn_bl⟩
    · cases er
  · rename_i d ds z; cases z
    split at er
    · rename_i hm
      cases er
      simp only [Bool.and_eq_true] at hm
      obtain ⟨as, r1⟩ := h1.reads I rx hm.1
      obtain ⟨bs, r2⟩ := h2.reads I ry hm.2
      exact SeqAt.in_tuple_reads r2 r1 (lay_tuple hm.2) (SeqAt.canLay_of_shaped hm.1) (in_room hm.1 hu) ⟨.bl _, H, I, rfl, k _ H (.refl _) rn_bl⟩
    · cases er
  · cases er
theorem o_notin (hu : X.A.units + 65 < cLine) : OpR X (compareOp .NotIn) (r2 X.K pNotIn) := by
  refine opR2 fun pins s σ H v u Q A d e x y r I rx ry hA h1 h2 er k => ?_
  unfold pNotIn at er
  split at er
  · rename_i d ds z; cases z
    split at er
    · rename_i hm
      cases er
      simp only [Bool.and_eq_true] at hm
      obtain ⟨as, r1⟩ := h1.reads I rx hm.1
      obtain ⟨bs, r2⟩ := h2.reads I ry hm.2
      exact SeqAt.notIn_list_reads r2 r1 (lay_list hm.2) (SeqAt.canLay_of_shaped hm.1) (in_room hm.1 hu) ⟨.bl _, H, I, rfl, k _ H (.refl _) rn_bl⟩
    · cases er
  · rename_i d ds z; cases z
    split at er
    · rename_i hm
      cases er
      simp only [Bool.and_eq_true] at hm
      obtain ⟨as, r1⟩ := h1.reads I rx hm.1
      obtain ⟨bs, r2⟩ := h2.reads I ry hm.2
      exact SeqAt.notIn_tuple_reads r2 r1 (lay_tuple hm.2) (SeqAt.canLay_of_shaped hm.1) (in_room hm.1 hu) ⟨.bl _, H, I, rfl, k _ H (.refl _) rn_bl⟩
    · cases er
  · cases er

/-! ### items, slices -/
def pIx : List D → Option R
  | [.list ds, .int i] => (atI ds i).map .v
  | [.tuple ds, .int i] => (atI ds i).map .v
  | _ => none
theorem atI_rep {K : PySem.W.Frag} {H : Hp} {A : Addr → Prop} {ds : List D} {vs : List V} {i : Int} {d : D} (r : RepA K H A ds vs) (e : atI ds i = some d) : ∃ v, atI vs i = some v ∧ Rep K H A d v := by
  unfold atI at e ⊢
  rw [← r.len] at e
  cases q : ixN vs.length i with
  | none => rw [q] at e; cases e
  | some j =>
    rw [q] at e
    exact r.get e
theorem o_ix : IxR X (r2 X.K pIx) := by
  intro value slice pins s σ H x y v u Q I rx ry ⟨A, ds, r, hA, hv, er, k⟩ hsub
  unfold pIx at er
  split at er
  · rename_i ds i
    obtain ⟨w1, w2, ew, h1, h2⟩ := hv.of2
    cases ew
    obtain ⟨d, e1, e2⟩ := Option.map_eq_some_iff.mp er
    subst e2
    obtain ⟨p, vs, e3, hp, rp⟩ := h1.lst
    obtain ⟨w, e4, rw'⟩ := atI_rep rp e1
    exact ix_list value slice pins s σ H x y v u Q I rx ry ⟨p, vs, i, w, e3, h2.int, hp.sq, e4, k _ H (.refl _) rw'⟩ hsub
  · rename_i ds i
    obtain ⟨w1, w2, ew, h1, h2⟩ := hv.of2
    cases ew
    obtain ⟨d, e1, e2⟩ := Option.map_eq_some_iff.mp er
    subst e2
    obtain ⟨p, vs, e3, hp, rp⟩ := h1.tup
    obtain ⟨w, e4, rw'⟩ := atI_rep rp e1
    exact ix_tup value slice pins s σ H x y v u Q I rx ry ⟨p, vs, i, w, e3, h2.int, hp, e4, k _ H (.refl _) rw'⟩ hsub
  · cases er
/-- the items from lo up to hi -/
def cutD {α : Type} (xs : List α) (lo hi : Option Int) : List α := (xs.drop (HT.sIx xs.length 0 lo)).take (HT.sIx xs.length xs.length hi - HT.sIx xs.length 0 lo)
def pCut (d : D) (lo hi : Option Int) : Option R := match d with
  | .list ds => some (.o (cutD ds lo hi))
  | .tuple ds => some (.v (.tuple (cutD ds lo hi)))
  | _ => none
theorem cutD_rep {K : PySem.W.Frag} {H : Hp} {A : Addr → Prop} {ds : List D} {vs : List V} {lo hi : Option Int} (r : RepA K H A ds vs) : RepA K H A (cutD ds lo hi) (cutV vs lo hi) := by
  unfold cutD cutV
  rw [r.len]
  exact (r.drop _).take _
theorem cutD_whole {α : Type} {xs : List α} {lo hi : Option Int} (h : HT.sIx xs.length 0 lo = 0 ∧ HT.sIx xs.length xs.length hi = xs.length) : cutD xs lo hi = xs := by
  unfold cutD
  rw [h.1, h.2]
  simp
def rCut (K : PySem.W.Frag) : V → Option Int → Option Int → Hp → VK → Prop := fun x lo hi H Q => ∃ A d r, (∀ b, A b → H b ≠ none) ∧ Vw K H A d x ∧ pCut d lo hi = some r ∧ ∀ w H', Same H H' → RN K H H' A r w → Q w H'
theorem o_cut : SlR X (rCut X.K) := by
  intro pins s σ H x v vl vu lo hi sl Q I rx hs pl pu ⟨A, d, r, hA, h1, er, k⟩
  unfold pCut at er
  split at er
  · rename_i ds
    cases er
    obtain ⟨p, vs, e3, hp, rp⟩ := h1.lst
    exact sl_list pins s σ H x v vl vu lo hi sl Q I rx hs pl pu ⟨p, vs, e3, hp.sq, fun c nc => k _ _ (upd_same_of nc) (rn_lst nc (cutD_rep rp))⟩
  · rename_i ds
    cases er
    obtain ⟨p, vs, e3, hp, rp⟩ := h1.tup
    refine sl_tupA pins s σ H x v vl vu lo hi sl Q I rx hs pl pu ⟨p, vs, e3, hp, fun hw => ?_, fun _ c nc => k _ _ (upd_same_of nc) (rn_tup nc (cutD_rep rp))⟩
    subst e3
    rw [rp.len] at hw
    refine k _ H (.refl _) ?_
    rw [cutD_whole hw]
    exact h1
  · cases er

/-! ### functions -/
def intsOf : List D → Option (List Int)
  | [] => some []
  | .int i :: ds => match intsOf ds with
    | some is => some (i :: is)
    | none => none
  | _ => none
theorem ints_some : ∀ {ds : List D} {is : List Int}, intsOf ds = some is → ds = is.map PyData.int
  | [], is, h => by simp only [intsOf] at h; cases h; rfl
  | .int i :: ds, is, h => by
    simp only [intsOf] at h
    split at h
    · rename_i js e
      cases h
      rw [ints_some e]; rfl
    · cases h
  | .none :: _, _, h => by simp [intsOf] at h
  | .bool _ :: _, _, h => by simp [intsOf] at h
  | .str _ :: _, _, h => by simp [intsOf] at h
  | .list _ :: _, _, h => by simp [intsOf] at h
  | .tuple _ :: _, _, h => by simp [intsOf] at h
  | .dict _ :: _, _, h => by simp [intsOf] at h
def boolsOf : List D → Option (List Bool)
  | [] => some []
  | .bool i :: ds => match boolsOf ds with
    | some is => some (i :: is)
    | none => none
  | _ => none
theorem bools_some : ∀ {ds : List D} {is : List Bool}, boolsOf ds = some is → ds = is.map PyData.bool
  | [], is, h => by simp only [boolsOf] at h; cases h; rfl
  | .bool i :: ds, is, h => by
    simp only [boolsOf] at h
    split at h
    · rename_i js e
      cases h
      rw [bools_some e]; rfl
    · cases h
  | .none :: _, _, h => by simp [boolsOf] at h
  | .int _ :: _, _, h => by simp [boolsOf] at h
  | .str _ :: _, _, h => by simp [boolsOf] at h
  | .list _ :: _, _, h => by simp [boolsOf] at h
  | .tuple _ :: _, _, h => by simp [boolsOf] at h
  | .dict _ :: _, _, h => by simp [boolsOf] at h
def pLen : List D → Option R
  | [.list ds] => some (.v (.int ds.length))
  | [.tuple ds] => some (.v (.int ds.length))
  | [.str x] => if x.length ≤ 1000 then some (.v (.int x.length)) else none
  | _ => none
theorem c_len : CallR X (.builtin "len") (rN X.K pLen) := by
  intro pins s σ H xs us Q I rx ⟨A, ds, r, hA, hv, er, k⟩
  unfold pLen at er
  split at er
  · cases er
    obtain ⟨w, rfl, h⟩ := hv.of1
    obtain ⟨p, vs, rfl, hp, rp⟩ := h.lst
    exact call_len pins s σ H _ us Q I rx ⟨_, vs.length, rfl, .inl ⟨vs, hp.sq, rfl⟩, by rw [rp.len]; exact k _ H (.refl _) rn_int⟩
  · cases er
    obtain ⟨w, rfl, h⟩ := hv.of1
    obtain ⟨p, vs, rfl, hp, rp⟩ := h.tup
    exact call_len pins s σ H _ us Q I rx ⟨_, vs.length, rfl, .inr ⟨vs, hp, rfl⟩, by rw [rp.len]; exact k _ H (.refl _) rn_int⟩
  · split at er
    · rename_i hx
      cases er
      obtain ⟨w, rfl, h⟩ := hv.of1
      have e := h.str
      subst e
      exact call_len pins s σ H _ us Q I rx ⟨_, _, rfl, ⟨lt1000 hx, rfl⟩, k _ H (.refl _) rn_int⟩
    · cases er
  · cases er
def pTuple : List D → Option R
  | [.list ds] => some (.v (.tuple ds))
  | [.tuple ds] => some (.v (.tuple ds))
  | _ => none
theorem c_tuple : CallR X (.type "tuple") (rN X.K pTuple) := by
  intro pins s σ H xs us Q I rx ⟨A, ds, r, hA, hv, er, k⟩
  unfold pTuple at er
  split at er
  · cases er
    obtain ⟨w, rfl, h⟩ := hv.of1
    obtain ⟨p, vs, rfl, hp, rp⟩ := h.lst
    exact call_tuple_of pins s σ H _ us Q I rx ⟨p, vs, rfl, .inl ⟨hp.sq, fun c nc => k _ _ (upd_same_of nc) (rn_tup nc rp)⟩⟩
  · cases er
    obtain ⟨w, rfl, h⟩ := hv.of1
    obtain ⟨p, vs, e, hp, rp⟩ := h.tup
    subst e
    exact call_tuple_of pins s σ H _ us Q I rx ⟨p, vs, rfl, .inr ⟨hp, k _ H (.refl _) h⟩⟩
  · cases er
def pList : List D → Option R
  | [.list ds] => some (.o ds)
  | [.tuple ds] => some (.o ds)
  | _ => none
theorem c_list : CallR X (.type "list") (rN X.K pList) := by
  intro pins s σ H xs us Q I rx ⟨A, ds, r, hA, hv, er, k⟩
  unfold pList at er
  split at er
  · cases er
    obtain ⟨w, rfl, h⟩ := hv.of1
    obtain ⟨p, vs, rfl, hp, rp⟩ := h.lst
    exact call_list_of pins s σ H _ us Q I rx ⟨p, vs, rfl, .inl hp.sq, fun c nc => k _ _ (upd_same_of nc) (rn_lst nc rp)⟩
  · cases er
    obtain ⟨w, rfl, h⟩ := hv.of1
    obtain ⟨p, vs, e, hp, rp⟩ := h.tup
    subst e
    exact call_list_of pins s σ H _ us Q I rx ⟨p, vs, rfl, .inr hp, fun c nc => k _ _ (upd_same_of nc) (rn_lst nc rp)⟩
  · cases er
def pInt : List D → Option R
  | [.int i] => some (.v (.int i))
  | [.bool b] => some (.v (.int (if b then 1 else 0)))
  | _ => none
theorem c_int : CallR X (.type "int") (rN X.K pInt) := by
  intro pins s σ H xs us Q I rx ⟨A, ds, r, hA, hv, er, k⟩
  unfold pInt at er
  split at er
  · cases er
    obtain ⟨w, rfl, h⟩ := hv.of1
    rw [h.int] at rx
    exact call_int1 pins s σ H _ us Q I rx (.inl ⟨_, rfl, k _ H (.refl _) rn_int⟩)
  · cases er
    obtain ⟨w, rfl, h⟩ := hv.of1
    rw [h.bl] at rx
    exact call_int1 pins s σ H _ us Q I rx (.inr ⟨_, rfl, k _ H (.refl _) rn_int⟩)
  · cases er
def pAbs : List D → Option R
  | [.int i] => some (.v (.int (if i < 0 then -i else i)))
  | _ => none
theorem c_abs : CallR X (.builtin "abs") (rN X.K pAbs) := by
  intro pins s σ H xs us Q I rx ⟨A, ds, r, hA, hv, er, k⟩
  unfold pAbs at er
  split at er
  · cases er
    obtain ⟨w, rfl, h⟩ := hv.of1
    rw [h.int] at rx
    exact call_abs pins s σ H _ us Q I rx ⟨_, rfl, k _ H (.refl _) rn_int⟩
  · cases er
def pSum : List D → Option R
  | [.list ds] => match intsOf ds with
    | some is => some (.v (.int is.sum))
    | none => none
  | _ => none
theorem c_sum (hc : X.calm = true) : CallR X (.builtin "sum") (rN X.K pSum) := by
  intro pins s σ H xs us Q I rx ⟨A, ds, r, hA, hv, er, k⟩
  unfold pSum at er
  split at er
  · split at er
    · rename_i ds is e
      cases er
      have e := ints_some e
      subst e
      obtain ⟨w, rfl, h⟩ := hv.of1
      obtain ⟨p, vs, rfl, hp, rp⟩ := h.lst
      have e := rp.ints
      subst e
      exact cr_sum hc pins s σ H _ us Q I rx ⟨p, is, rfl, hp.sq, k _ H (.refl _) rn_int⟩
    · cases er
  · cases er
def pDivmod : List D → Option R
  | [.int a, .int b] => if decide (0 < b) && !Builtin.divisionGoesByPylong a b then some (.v (.tuple [.int (a / b), .int (a % b)])) else none
  | _ => none
theorem c_divmod : CallR X (.builtin "divmod") (rN X.K pDivmod) := by
  intro pins s σ H xs us Q I rx ⟨A, ds, r, hA, hv, er, k⟩
  unfold pDivmod at er
  split at er
  · split at er
    · rename_i a b hm
      cases er
      simp only [Bool.and_eq_true, decide_eq_true_eq, Bool.not_eq_true'] at hm
      obtain ⟨w, w2, rfl, h, h2⟩ := hv.of2
      rw [h.int, h2.int] at rx
      exact call_divmodW pins s σ H _ us Q I rx ⟨a, b, rfl, hm, fun c nc => k _ _ (upd_same_of nc) (rn_tup nc (.cons rep_int (.cons rep_int .nil)))⟩
    · cases er
  · cases er
def pGcd : List D → Option R
  | [.int a, .int b] => some (.v (.int (Nat.gcd a.natAbs b.natAbs : Nat)))
  | _ => none
theorem c_gcd : CallR X (.builtin "math.gcd") (rN X.K pGcd) := by
  intro pins s σ H xs us Q I rx ⟨A, ds, r, hA, hv, er, k⟩
  unfold pGcd at er
  split at er
  · cases er
    obtain ⟨w, w2, rfl, h, h2⟩ := hv.of2
    rw [h.int, h2.int] at rx
    exact cr_gcd pins s σ H _ us Q I rx ⟨_, _, rfl, k _ H (.refl _) rn_int⟩
  · cases er
def pMax : List D → Option R
  | [.int a, .int b] => some (.v (.int (if b > a then b else a)))
  | _ => none
theorem c_max (hc : X.calm = true) : CallR X (.builtin "max") (rN X.K pMax) := by
  intro pins s σ H xs us Q I rx ⟨A, ds, r, hA, hv, er, k⟩
  unfold pMax at er
  split at er
  · cases er
    obtain ⟨w, w2, rfl, h, h2⟩ := hv.of2
    rw [h.int, h2.int] at rx
    exact call_max2 hc pins s σ H _ us Q I rx ⟨_, _, rfl, k _ H (.refl _) rn_int⟩
  · cases er
def pMin : List D → Option R
  | [.int a, .int b] => some (.v (.int (if b < a then b else a)))
  | _ => none
theorem c_min (hc : X.calm = true) : CallR X (.builtin "min") (rN X.K pMin) := by
  intro pins s σ H xs us Q I rx ⟨A, ds, r, hA, hv, er, k⟩
  unfold pMin at er
  split at er
  · cases er
    obtain ⟨w, w2, rfl, h, h2⟩ := hv.of2
    rw [h.int, h2.int] at rx
    exact call_min2 hc pins s σ H _ us Q I rx ⟨_, _, rfl, k _ H (.refl _) rn_int⟩
  · cases er
def pAll : List D → Option R
  | [.list ds] => match boolsOf ds with
    | some bs => some (.v (.bool (bs.all id)))
    | none => none
  | _ => none
def pAny : List D → Option R
  | [.list ds] => match boolsOf ds with
    | some bs => some (.v (.bool (bs.any id)))
    | none => none
  | _ => none
theorem c_all (hc : X.calm = true) : CallR X (.builtin "all") (rN X.K pAll) := by
  intro pins s σ H xs us Q I rx ⟨A, ds, r, hA, hv, er, k⟩
  unfold pAll at er
  split at er
  · split at er
    · rename_i ds is e
      cases er
      have e := bools_some e
      subst e
      obtain ⟨w, rfl, h⟩ := hv.of1
      obtain ⟨p, vs, rfl, hp, rp⟩ := h.lst
      have e := rp.bools
      subst e
      exact cr_all hc pins s σ H _ us Q I rx ⟨p, is, rfl, hp.sq, k _ H (.refl _) rn_bl⟩
    · cases er
  · cases er
theorem c_any (hc : X.calm = true) : CallR X (.builtin "any") (rN X.K pAny) := by
  intro pins s σ H xs us Q I rx ⟨A, ds, r, hA, hv, er, k⟩
  unfold pAny at er
  split at er
  · split at er
    · rename_i ds is e
      cases er
      have e := bools_some e
      subst e
      obtain ⟨w, rfl, h⟩ := hv.of1
      obtain ⟨p, vs, rfl, hp, rp⟩ := h.lst
      have e := rp.bools
      subst e
      exact cr_any hc pins s σ H _ us Q I rx ⟨p, is, rfl, hp.sq, k _ H (.refl _) rn_bl⟩
    · cases er
  · cases er
/-- sorted, of intsOf -/
def sortI (is : List Int) : List Int := is.mergeSort fun a b => decide (a ≤ b)
theorem sortI_uniq {is ns : List Int} (p : ns.Perm is) (s : ns.Pairwise (· ≤ ·)) : ns = sortI is := by
  have h1 : (sortI is).Perm is := List.mergeSort_perm _ _
  have h2 : (sortI is).Pairwise (· ≤ ·) := by
    have := List.pairwise_mergeSort (le := fun a b : Int => decide (a ≤ b)) (fun a b c => by simp; omega) (fun a b => by simp; omega) is
    exact this.imp fun h => by simpa using h
  exact (p.trans h1.symm).eq_of_pairwise (fun a b _ _ h h' => by omega) s h2
def pSorted : List D → Option R
  | [.list ds] => match intsOf ds with
    | some is => some (.o ((sortI is).map PyData.int))
    | none => none
  | _ => none
theorem c_sorted : CallR X (.builtin "sorted") (rN X.K pSorted) := by
  intro pins s σ H xs us Q I rx ⟨A, ds, r, hA, hv, er, k⟩
  unfold pSorted at er
  split at er
  · split at er
    · rename_i ds is e
      cases er
      have e := ints_some e
      subst e
      obtain ⟨w, rfl, h⟩ := hv.of1
      obtain ⟨p, vs, rfl, hp, rp⟩ := h.lst
      have e := rp.ints
      subst e
      refine cr_sortedI pins s σ H _ us Q I rx ⟨p, is, rfl, hp.sq, fun ns q pm pw nq => ?_⟩
      rw [sortI_uniq pm pw]
      exact k _ _ (upd_same_of nq) (rn_lst nq (.of_ints _))
    · cases er
  · cases er
/-- repr -/
def showOk (d : D) : Bool := d.showable && SeqAt.shaped d && decide (d.shown.length ≤ 100000) && !d.hasDict
def pRepr : List D → Option R
  | [d] => if showOk d then some (.v (.str d.shown)) else none
  | _ => none
theorem c_repr (hg : X.A.guards = some []) (hu : X.A.units + 70 < cLine) : CallR X (.builtin "repr") (rN X.K pRepr) := by
  intro pins s σ H xs us Q I rx ⟨A, ds, r, hA, hv, er, k⟩
  unfold pRepr at er
  split at er
  · rename_i d
    split at er
    · rename_i hm
      cases er
      simp only [showOk, Bool.and_eq_true, decide_eq_true_eq, Bool.not_eq_true'] at hm
      obtain ⟨⟨⟨m1, m2⟩, m3⟩, m4⟩ := hm
      obtain ⟨w, rfl, h⟩ := hv.of1
      obtain ⟨u, rfl, ru⟩ := vals1 rx
      have sz : d.shown.length ≤ sizeLine := Nat.le_trans m3 (by decide)
      cases d with
      | none =>
        have e := h.non
        subst e
        cases (show u = Value.none from ru)
        exact PySem.P.repr_of_none ⟨.str _, H, I.tok _, ⟨_, rfl⟩, k _ H (.refl _) rn_str⟩
      | bool b =>
        have e := h.bl
        subst e
        cases (show u = Value.bool b from ru)
        exact PySem.P.repr_of_bool ⟨.str _, H, I.tok _, ⟨_, rfl⟩, k _ H (.refl _) (by cases b <;> exact rn_str)⟩
      | int i =>
        have e := h.int
        subst e
        obtain ⟨t, rfl⟩ := (show ∃ t, u = Value.int i t from ru)
        exact PySem.P.repr_of_int (by simpa [PyData.showable] using m1) ⟨.str _, H, I.tok _, ⟨_, rfl⟩, k _ H (.refl _) (by simp only [PyData.shown]; exact rn_str)⟩
      | str x =>
        have e := h.str
        subst e
        obtain ⟨t, rfl⟩ := (show ∃ t, u = Value.str x t from ru)
        exact PySem.P.repr_of_str ⟨.str _, H, I.tok _, ⟨_, rfl⟩, k _ H (.refl _) (by simp only [PyData.shown]; exact rn_str)⟩ (by simpa [PyData.shown] using sz)
      | list ds =>
        obtain ⟨as, rr⟩ := h.reads I ru m2
        obtain ⟨p, vs, e, _⟩ := h.lst
        subst e
        cases ru
        refine repr_of_reads' rr m1 (fun z => by rw [m4] at z; cases z) hg (by have := SeqAt.depth_of_shaped m2; omega) (fun _ _ q => q) (fun h' u tk hk => ?_) sz
        exact ⟨.str _, H, I.kept (t' := tk) hk, ⟨_, rfl⟩, k _ H (.refl _) rn_str⟩
      | tuple ds =>
        obtain ⟨as, rr⟩ := h.reads I ru m2
        obtain ⟨p, vs, e, _⟩ := h.tup
        subst e
        cases ru
        refine repr_of_reads' rr m1 (fun z => by rw [m4] at z; cases z) hg (by have := SeqAt.depth_of_shaped m2; omega) (fun _ _ q => q) (fun h' u tk hk => ?_) sz
        exact ⟨.str _, H, I.kept (t' := tk) hk, ⟨_, rfl⟩, k _ H (.refl _) rn_str⟩
      | dict kvs => simp [PyData.hasDict] at m4
    · cases er
  · cases er
/-- str, of an int or a text -/
def pStr : List D → Option R
  | [.int i] => if i.natAbs.log2 < 1920 then some (.v (.str (toString i))) else none
  | _ => none
theorem c_str : CallR X (.type "str") (rN X.K pStr) := by
  intro pins s σ H xs us Q I rx ⟨A, ds, r, hA, hv, er, k⟩
  unfold pStr at er
  split at er
  · split at er
    · rename_i i hm
      cases er
      obtain ⟨w, rfl, h⟩ := hv.of1
      rw [h.int] at rx
      exact call_str_int pins s σ H _ us Q I rx ⟨i, rfl, hm, k _ H (.refl _) rn_str⟩
    · cases er
  · cases er
end
end Dn

set_option Elab.async false
set_option linter.all false
set_option maxRecDepth 100000
set_option maxHeartbeats 2000000
namespace Dn
open PySem PySem.Spec PyProof.Rows L2

/-! ### slices, chains, isinstance -/
section
variable {X : Cx} {a b c e : Expr} {t ta tb tc tl th : TD} {pos p2 p1 p0 : Pos}
/-- a slice's bound: an int -/
def asI : R → Option Int
  | .v (.int i) => some i
  | _ => none
theorem asI_some {r : R} {i : Int} (h : asI r = some i) : r = .v (.int i) := by
  unfold asI at h
  split at h
  · cases h; rfl
  · cases h
abbrev TI1 := Rho → Option (Option Int × Rho)
def iNo : TI1 := fun ρ => some (none, ρ)
def iOf (t : TD) : TI1 := fun ρ => match t ρ with
  | some (r, ρ1) => match asI r with
    | some i => some (some i, ρ1)
    | none => none
  | none => none
def rdO (K : PySem.W.Frag) (t : TI1) : TO := fun σ H Q => ∃ B ρ o ρ', ρ.length = σ.length ∧ ER K H B (Z ρ σ) ∧ t ρ = some (o, ρ') ∧
  ∀ H', Lk ρ ρ' → Stp (Z ρ σ) H (Z ρ' σ) H' → ER K H' B (Z ρ' σ) → Q o H'
def DO (X : Cx) (e : Option Expr) (t : TI1) : Prop := PO X e (rdO X.K t)
theorem po_weak {e : Option Expr} {t t' : TO} (h : PO X e t) (w : ∀ σ H Q, t' σ H Q → t σ H Q) : PO X e t' := ⟨fun pins s σ H Q I q => h.run pins s σ H Q I (w σ H Q q)⟩
theorem do_none : DO X none iNo := po_weak po_none fun σ H Q q => by
  obtain ⟨B, ρ, o, ρ', hl, er, e, k⟩ := q
  cases e
  exact k H (.refl _) .refl er
theorem do_some (h : DE X e t) : DO X (some e) (iOf t) := po_weak (po_some h) fun σ H Q q => by
  obtain ⟨B, ρ, o, ρ', hl, er, e, k⟩ := q
  unfold iOf at e
  split at e
  · rename_i r ρ1 e1
    split at e
    · rename_i i e2
      cases e
      obtain rfl := asI_some e2
      refine ⟨B, ρ, _, ρ', hl, er, e1, fun v H1 lk st rr => ⟨i, ?_, k H1 lk st rr.er.left⟩⟩
      have : looks ρ' [R.v (.int i)] = some [.int i] := by simp [looks, look]
      cases rr.vw this with
      | cons q _ => exact q.int
    · cases e
  · cases e
/-- t[lo:hi] -/
def dCut (t : TD) (lo hi : TI1) : TD := fun ρ => match t ρ with
  | some (r, ρ1) => match lo ρ1 with
    | some (l, ρ2) => match hi ρ2 with
      | some (u, ρ3) => match look ρ3 r with
        | some d => match pCut d l u with
          | some q => some (q, ρ3)
          | none => none
        | none => none
      | none => none
    | none => none
  | none => none
theorem de_cut {lo hi : Option Expr} {l u : TI1} (h : DE X e t) (hl : DO X lo l) (hu : DO X hi u) : DE X (.Subscript e (.Slice lo hi none p2) pos) (dCut t l u) := by
  refine pe_weak (pe_slice o_cut h hl hu) fun σ H Q q => ?_
  obtain ⟨B, ρ, r, ρ', hlen, er, e, k⟩ := q
  unfold dCut at e
  split at e
  · rename_i r1 ρ1 e1
    split at e
    · rename_i l' ρ2 e2
      split at e
      · rename_i u' ρ3 e3
        split at e
        · rename_i d e4
          split at e
          · rename_i q' e5
            cases e
            refine ⟨B, ρ, r1, ρ1, hlen, er, e1, fun v H1 lk st rr => ?_⟩
            refine ⟨AO B (tz [r1] [v]), ρ1, l', ρ2, lk.len.trans hlen, rr.er.aside, e2, fun H2 lk2 st2 er2 => ?_⟩
            refine ⟨AO B (tz [r1] [v]), ρ2, u', ρ', (lk2.len.trans lk.len).trans hlen, er2, e3, fun H3 lk3 st3 er3 => ?_⟩
            have st23 := st2.trans st3
            have er4 : ER X.K H3 B (Z ρ' σ ++ (tz [r1] [v] ++ [])) := rr.er.back st23 (by simpa using er3) (fun a z => absurd z own_nil)
            rw [List.append_nil] at er4
            have rr4 : RSs X.K H H3 B ρ' σ [r1] [v] := ⟨rr.len, er4, rr.fr, rr.bo⟩
            have hv := rr4.vw (ds := [d]) (by simp [looks, e4])
            obtain ⟨w, ew, hw⟩ := hv.of1
            cases ew
            have st4 := st.trans st23
            have er5 := er4.left
            refine ⟨AO B (Z ρ' σ), d, r, fun b z => ?_, hw, e5, fun w H4 sm rn => k w H4 ((lk.trans lk2).trans lk3) (st4.trans (.same sm)) (RN.rss er5 sm st4.trk rn)⟩
            rcases z with z | z
            · exact er5.trk b z
            · obtain ⟨vs, q⟩ := er5.lst z
              rw [q]; simp
          · cases e
        · cases e
      · cases e
    · cases e
  · cases e
/-! ### xs[::-1] of a list or a tuple -/
theorem back_places (n : Nat) : Builtin.Slice.slicePlaces ((n : Int) - 1) (-1) (-1) = n := by
  unfold Builtin.Slice.slicePlaces
  rw [if_neg (by omega)]
  by_cases hn : (n : Int) - 1 > -1
  · rw [if_pos hn]
    have : ((n : Int) - 1 - -1 - 1) / (- -1) = (n : Int) - 1 := by
      have e : (- -1 : Int) = 1 := by decide
      rw [e, Int.ediv_one]; omega
    rw [this]; omega
  · rw [if_neg hn]; omega
theorem fm_congr {f g : Nat → Option Value} : ∀ {l : List Nat}, (∀ m ∈ l, f m = g m) → l.filterMap f = l.filterMap g
  | [], _ => rfl
  | a :: l, h => by rw [List.filterMap_cons, List.filterMap_cons, h a List.mem_cons_self, fm_congr fun m q => h m (List.mem_cons_of_mem _ q)]
theorem back_pick (xs : Array Value) : ((List.range xs.size).filterMap fun (m : Nat) => xs[((xs.size : Int) - 1 + (m : Int) * (-1)).toNat]?).toArray = xs.toList.reverse.toArray := by
  refine congrArg List.toArray ?_
  have e1 : ∀ ys : List Value, ((List.range ys.length).filterMap fun (m : Nat) => ys[((ys.length : Int) - 1 + (m : Int) * (-1)).toNat]?) = ys.reverse := by
    intro ys
    have e2 : ((List.range ys.length).filterMap fun (m : Nat) => ys[((ys.length : Int) - 1 + (m : Int) * (-1)).toNat]?) = (List.range ys.length).filterMap fun m => ys.reverse[m]? := by
      refine fm_congr fun m hm => ?_
      have hm' := List.mem_range.mp hm
      have e3 : ((ys.length : Int) - 1 + (m : Int) * (-1)).toNat = ys.length - 1 - m := by omega
      rw [e3, List.getElem?_reverse hm']
    rw [e2]
    have e4 : ∀ zs : List Value, ((List.range zs.length).filterMap fun m => zs[m]?) = zs := by
      intro zs
      apply List.ext_getElem?
      intro i
      induction zs generalizing i with
      | nil => simp
      | cons z zs ih =>
        rw [List.length_cons, List.range_succ_eq_map, List.filterMap_cons]
        simp only [List.getElem?_cons_zero, List.filterMap_map]
        cases i with
        | zero => simp
        | succ i =>
          have := ih i
          rw [List.getElem?_cons_succ, List.getElem?_cons_succ, ← this]
          rfl
    have := e4 ys.reverse
    rw [List.length_reverse] at this
    exact this
  have := e1 xs.toList
  simpa using this
theorem back_parts {prog : Program} {w : World} {A : Around} {E : Value → Shared → Prop} {s : Shared} {sl : Addr} {vl vu vs : Value} {n : Nat} {Q : Int × Int × Nat → Shared → Prop} (hs : s.heap.IsSliceOf sl vl vu vs)
    (pl : IsPart vl none) (pu : IsPart vu none) (ps : IsPart vs (some (-1))) (h : Q ((n : Int) - 1, -1, n) s) : wpAny (model prog w) A (Builtin.Slice.sliceApplied (.ref sl) (pure (n : Int))) Q E s := by
  obtain ⟨o, ho, hc, hd⟩ := id hs
  unfold Builtin.Slice.sliceApplied Builtin.Slice.sliceFields
  refine wpAny_bind (wpAny_bind (wpAny_field ho hd (x := vl) rfl (wpAny_bind (wpAny_field ho hd (x := vu) rfl (wpAny_bind (wpAny_field ho hd (x := vs) rfl (wpAny_pure ?_)))))))
  refine wpAny_bind (HT.slicePart_ ps ?_)
  show wpAny _ _ (if ((-1 : Int) == 0) = true then _ else _) _ _ s
  rw [if_neg (by decide)]
  refine wpAny_bind (HT.slicePart_ pl (wpAny_bind (HT.slicePart_ pu (wpAny_bind (wpAny_pure ?_)))))
  have e : Builtin.Slice.sliceAdjust none none (-1) (n : Int) = ((n : Int) - 1, -1) := rfl
  show wpAny _ _ (match Builtin.Slice.sliceAdjust none none (-1) (n : Int) with | (lo, hi) => pure (lo, (-1 : Int), Builtin.Slice.slicePlaces lo hi (-1))) _ _ s
  rw [e]
  show wpAny _ _ (pure ((n : Int) - 1, (-1 : Int), Builtin.Slice.slicePlaces ((n : Int) - 1) (-1) (-1))) _ _ s
  rw [back_places]
  exact wpAny_pure h
theorem back_tuple {prog : Program} {w : World} {A : Around} {E : Value → Shared → Prop} {s : Shared} {t sl : Addr} {items : Array Value} {vl vu vs : Value} {Q : Value → Shared → Prop} (ht : IsTup s.heap t items) (hs : s.heap.IsSliceOf sl vl vu vs)
    (pl : IsPart vl none) (pu : IsPart vu none) (ps : IsPart vs (some (-1)))
    (h : Q (.ref s.heap.objs.size) { s with heap := s.heap.push { cls := .type "tuple", data := .seq items.toList.reverse.toArray } })
    (hsz : items.size ≤ sizeLine) : wpAny (model prog w) A (getItem (.ref t) (.ref sl)) Q E s := by
  have room : sizeOk (.seq items.toList.reverse.toArray) := by
    show items.toList.reverse.toArray.size ≤ sizeLine
    simpa using hsz
  obtain ⟨o, ho, hc, hd⟩ := id hs
  have kind : s.TypeIs (.ref sl) "slice" := ⟨o, ho, hc⟩
  unfold getItem
  try with_reducible refine wpAny_holding ?_
  first | refine wpAny_bind (wpAny_pure ?_) | skip
  refine wpAny_bind (wpAny_sequenceKey ht.typeIs (by decide) ?_)
  refine wpAny_bind (wpAny_callSpecial?_slot (name := Str.ofString "__getitem__") ht.typeIs PyProof.Rows.slot_tuple_getitem (wpAny_call_entry PyProof.Rows.slot_tuple_getitem ht.typeIs entry_tuple_getitem ?_ (args_tuple_getitem _ _)))
  show wpAny _ _ (Builtin.Tuple.tupleItemsOf (.ref t) >>= _) _ _ s
  refine wpAny_bind (tupleItemsOf_ ht (wpAny_bind (wpAny_typeOf kind ?_)))
  rw [if_pos (by decide)]
  refine wpAny_bind (back_parts hs pl pu ps ?_)
  show wpAny _ _ (if (((items.size : Int) - 1 == 0 && (-1 : Int) == 1 && items.size == items.size) = true) then _ else _) _ _ s
  rw [if_neg (by simp), back_pick]
  first
    | exact wpAny_bind (m := Builtin.Tuple.tupleExact _) (wpAny_newObj_type (wpAny_pure ⟨_, rfl, wpAny_pure h⟩) room)
    | exact wpAny_bind (m := Builtin.Tuple.tupleExact _) (wpAny_newObj_type (wpAny_bind (wpAny_pure (wpAny_pure ⟨_, rfl, wpAny_pure h⟩))) room)
    | exact wpAny_bind (wpAny_bind (m := Builtin.Tuple.tupleExact _) (wpAny_newObj_type (wpAny_pure (wpAny_pure ⟨_, rfl, wpAny_pure h⟩)) room))
    | exact wpAny_bind (wpAny_bind (m := Builtin.Tuple.tupleExact _) (wpAny_newObj_type (wpAny_pure ⟨_, rfl, wpAny_pure h⟩) room))
def tBack (K : PySem.W.Frag) (te : TE) : TE := fun σ H Q => te σ H fun x H1 => ∃ a xs, x = .ref a ∧ ((SqL K H1 a xs ∧ ∀ p, H1 p = none → Q (.ref p) (upd H1 p (.lst xs.reverse))) ∨ (SqT K H1 a xs ∧ ∀ p, H1 p = none → Q (.ref p) (upd H1 p (.tup xs.reverse))))
theorem pe_back {X : Cx} {e : Expr} {te : TE} {k : Nat} {p1 p2 p3 pos : Pos} (he : PE X e te) : PE X (.Subscript e (.Slice none none (some (.UnaryOp .USub (.Constant (.int 1) k p1) p2)) p3) pos) (tBack X.K te) := by
  refine ⟨fun pins s σ H Q I h => ?_⟩
  refine Subscript_ (thn (he.run pins s σ H _ I h) fun v s1 ⟨x, H1, I1, r1, q1⟩ => ?_)
  obtain ⟨a, xs, rfl, q⟩ := q1
  cases r1
  have step : PO X (some (.UnaryOp .USub (.Constant (.int 1) k p1) p2)) (tPart (tUn (rU fun i => .int (-i)) (tC (.int 1)))) := po_some (pe_un un_neg pe_int)
  refine wpAny_Slice (thn (po_none.run pins s1 σ H1 (fun o H' => o = none ∧ H' = H1) I1 ⟨rfl, rfl⟩) fun vl s2 ⟨l, H2, I2, pl, el, e2⟩ => ?_)
  subst el e2
  refine thn (po_none.run pins s2 σ H2 (fun o H' => o = none ∧ H' = H2) I2 ⟨rfl, rfl⟩) fun vu s3 ⟨u, H3, I3, pu, eu, e3⟩ => ?_
  subst eu e3
  refine thn (step.run pins s3 σ H3 (fun o H' => o = some (-1) ∧ H' = H3) I3 ⟨1, rfl, -1, rfl, rfl, rfl⟩) fun vs s4 ⟨o, H4, I4, ps, eo, e4⟩ => ?_
  subst eo e4
  have I5 : Inv X pins σ H4 { s4 with heap := s4.heap.push { cls := .type "slice", data := .fields #[vl, vu, vs] } } := I4.kept (t' := s4.toks) fun b ob q => Heap.get?_push_of_some _ q
  show wpAny (model X.prog X.w) X.A (subscriptTail e (.Slice none none (some (.UnaryOp .USub (.Constant (.int 1) k p1) p2)) p3) (.ref a) (.ref s4.heap.objs.size)) (EP X pins σ Q) X.xe { s4 with heap := s4.heap.push { cls := .type "slice", data := .fields #[vl, vu, vs] } }
  rcases q with ⟨hx, q⟩ | ⟨hx, q⟩
  · obtain ⟨its, r, ht, hz⟩ := I5.list hx
    have hlen := r.length
    refine tail_any (ops := [.ref a, .ref s4.heap.objs.size]) ht.isList.typeIs (PySem.slot_list_getitem.lookup) ?_ (by with_unfolding_all rfl)
    refine wpAny_getItem_list_slice ht.isList (Heap.IsSliceOf.new _ vl vu vs) pl pu ps (by decide) ?_ (by rw [List.size_toArray]; omega)
    rw [PySem.W.krv_pick]
    refine ⟨.ref _, _, I5.laid (t' := s4.toks) (o := .lst xs.reverse) (fun b ob q => Heap.get?_push_of_some _ q) (Nat.le_refl _) ⟨by rw [List.length_reverse]; exact hz, _, 0, r.reverse, Heap.get?_push_size _ rfl⟩, rfl, q _ (I5.hok.fresh (Nat.le_refl _))⟩
  · obtain ⟨its, r, ht, hz⟩ := I5.tuple hx
    have hlen := r.length
    refine tail_any (ops := [.ref a, .ref s4.heap.objs.size]) ht.typeIs (PyProof.Rows.slot_tuple_getitem.lookup) ?_ (by with_unfolding_all rfl)
    refine back_tuple ht (Heap.IsSliceOf.new _ vl vu vs) pl pu ps ?_ (by rw [List.size_toArray]; omega)
    refine ⟨.ref _, _, I5.laid (t' := s4.toks) (o := .tup xs.reverse) (fun b ob q => Heap.get?_push_of_some _ q) (Nat.le_refl _) ⟨by rw [List.length_reverse]; exact hz, _, r.reverse, _, Heap.get?_push_size _ rfl, rfl, _, rfl⟩, rfl, q _ (I5.hok.fresh (Nat.le_refl _))⟩
def pRev : List D → Option R
  | [.list ds] => some (.o ds.reverse)
  | [.tuple ds] => some (.v (.tuple ds.reverse))
  | _ => none
theorem de_rev {k : Nat} (h : DE X e t) : DE X (.Subscript e (.Slice none none (some (.UnaryOp .USub (.Constant (.int 1) k p1) p2)) p0) pos) (dOp pRev (dCons t dNil)) := by
  refine pe_weak (pe_back h) fun σ H Q q => ?_
  have q1 := one_read (op_read q)
  obtain ⟨B, ρ, r, ρ', hlen, er, e, k⟩ := q1
  refine ⟨B, ρ, r, ρ', hlen, er, e, fun v H1 lk st rr => ?_⟩
  obtain ⟨A, ds, r', hA, hv, er', k'⟩ := k v H1 lk st rr
  unfold pRev at er'
  split at er'
  · cases er'
    obtain ⟨w, ew, h1⟩ := hv.of1
    cases ew
    obtain ⟨a, xs, ea, hr, hx⟩ := h1.lst
    exact ⟨a, xs, ea, .inl ⟨hr.sq, fun c nc => k' _ _ (upd_same_of nc) (rn_lst nc hx.rev)⟩⟩
  · cases er'
    obtain ⟨w, ew, h1⟩ := hv.of1
    cases ew
    obtain ⟨a, xs, ea, hr, hx⟩ := h1.tup
    exact ⟨a, xs, ea, .inr ⟨hr, fun c nc => k' _ _ (upd_same_of nc) (rn_tup nc hx.rev)⟩⟩
  · cases er'

/-- a < b < c, of ints -/
def dChain (p q : Int → Int → Bool) (ta tb tc : TD) : TD := fun ρ => match ta ρ with
  | some (ra, ρ1) => match asI ra with
    | some i => match tb ρ1 with
      | some (rb, ρ2) => match asI rb with
        | some j => match p i j with
          | true => match tc ρ2 with
            | some (rc, ρ3) => match asI rc with
              | some l => some (.v (.bool (q j l)), ρ3)
              | none => none
            | none => none
          | false => some (.v (.bool false), ρ2)
        | none => none
      | none => none
    | none => none
  | none => none
theorem RSs.int {K : PySem.W.Frag} {H H' : Hp} {B : Addr → Prop} {ρ : Rho} {σ : St} {i : Int} {v : V} (rr : RSs K H H' B ρ σ [.v (.int i)] [v]) : v = .int i := by
  have : looks ρ [R.v (.int i)] = some [.int i] := by simp [looks, look]
  cases rr.vw this with
  | cons q _ => exact q.int
theorem chain_read {K : PySem.W.Frag} {p q : Int → Int → Bool} {σ : St} {H : Hp} {Q : VK} (h : rd K (dChain p q ta tb tc) σ H Q) :
    tChain (rI0 fun i j => .bl (p i j)) (rI0 fun i j => .bl (q i j)) (rd K ta) (rd K tb) (rd K tc) σ H Q := by
  obtain ⟨B, ρ, r, ρ', hlen, er, e, k⟩ := h
  unfold dChain at e
  split at e
  · rename_i ra ρ1 e1
    split at e
    · rename_i i ei
      obtain rfl := asI_some ei
      split at e
      · rename_i rb ρ2 e2
        split at e
        · rename_i j ej
          obtain rfl := asI_some ej
          refine ⟨B, ρ, _, ρ1, hlen, er, e1, fun v H1 lk st rr => ?_⟩
          refine ⟨B, ρ1, _, ρ2, lk.len.trans hlen, rr.er.left, e2, fun u H2 lk2 st2 rr2 => ?_⟩
          have lk12 := lk.trans lk2
          have st12 := st.trans st2
          refine ⟨i, j, rr.int, rr2.int, p i j, rfl, ?_⟩
          split at e
          · rename_i hp
            refine (if_pos hp).mpr ?_
            split at e
            · rename_i rc ρ3 e3
              split at e
              · rename_i l el
                obtain rfl := asI_some el
                cases e
                refine ⟨B, ρ2, _, ρ', (lk2.len.trans lk.len).trans hlen, rr2.er.left, e3, fun w H3 lk3 st3 rr3 => ?_⟩
                exact ⟨j, l, rr2.int, rr3.int, k _ H3 (lk12.trans lk3) (st12.trans st3) (rss_val rr3.er.left rep_bl)⟩
              · cases e
            · cases e
          · rename_i hp
            cases e
            refine (if_neg (by rw [hp]; exact Bool.false_ne_true)).mpr ?_
            exact k _ H2 lk12 st12 (rss_val rr2.er.left rep_bl)
        · cases e
      · cases e
    · cases e
  · cases e
theorem de_chain {op op' : CmpOp} {p q : Int → Int → Bool} (ho : OpR X (compareOp op) (rI0 fun i j => .bl (p i j))) (ho' : OpR X (compareOp op') (rI0 fun i j => .bl (q i j))) (ha : DE X a ta) (hb : DE X b tb) (hc : DE X c tc) (hm : lastMarks [op, op'] [b, c] = false) :
    DE X (.Compare a [op, op'] [b, c] pos) (dChain p q ta tb tc) := pe_weak (pe_chain ho ho' ha hb hc hm) fun _ _ _ h => chain_read h
theorem dt_chain {op op' : CmpOp} {p q : Int → Int → Bool} (ho : OpR X (compareOp op) (rI0 fun i j => .bl (p i j))) (ho' : OpR X (compareOp op') (rI0 fun i j => .bl (q i j))) (ha : DE X a ta) (hb : DE X b tb) (hc : DE X c tc) (hm : lastMarks [op, op'] [b, c] = false) :
    DT X (.Compare a [op, op'] [b, c] pos) (bVal (dChain p q ta tb tc)) := pt_weak (pt_chain ho ho' ha hb hc hm) fun _ _ _ h => by
    have h1 := chain_read (bval_read h)
    exact h1

/-- what isinstance says of a value and a built-in type -/
def tyName : D → String
  | .none => "NoneType"
  | .bool _ => "bool"
  | .int _ => "int"
  | .str _ => "str"
  | .list _ => "list"
  | .tuple _ => "tuple"
  | .dict _ => "dict"
def isTyN (T n : String) : Bool := n == T || (T == "int" && n == "bool")
def isTy (T : String) (d : D) : Bool := isTyN T (tyName d)
def tyNames : List String := ["NoneType", "bool", "int", "str", "list", "tuple", "dict"]
theorem ty_mem (d : D) : tyName d ∈ tyNames := by cases d <;> simp [tyName, tyNames]
def okTy (T : String) : Bool := T == "int" || T == "bool" || T == "str" || T == "list" || T == "tuple" || T == "dict"
def pIsi (T : String) : List D → Option R
  | [d] => some (.v (.bool (isTy T d)))
  | _ => none
theorem kit_all {K : PySem.W.Frag} {T : String} (h : okTy T = true) (d : D) : PySem.W.kitOne K (.type (tyName d)) (.type T) = some (isTy T d) := by
  have hT : T = "int" ∨ T = "bool" ∨ T = "str" ∨ T = "list" ∨ T = "tuple" ∨ T = "dict" := by simpa [okTy, or_assoc] using h
  refine kit_ty ?_
  have key : ∀ n ∈ tyNames, kitB n T = some (isTyN T n) := by
    rcases hT with rfl | rfl | rfl | rfl | rfl | rfl <;> decide +kernel
  exact key _ (ty_mem d)
theorem Vw.ty {K : PySem.W.Frag} {H : Hp} {A : Addr → Prop} {d : D} {v : V} (h : Vw K H A d v) : TyX K H v (.type (tyName d)) := by
  cases d with
  | none => rw [h.non]; exact .base .non
  | bool b => rw [h.bl]; exact .base (.bl b)
  | int i => rw [h.int]; exact .base (.int i)
  | str i => rw [h.str]; exact .base (.str i)
  | list ds =>
    obtain ⟨a, xs, rfl, hr, _⟩ := h.lst
    rcases hr with (hr | ⟨o, hr⟩) | ⟨its, n, hk, _⟩
    · exact .base (.lst hr)
    · exact .base (.frz hr)
    · exact .kList hk rfl
  | tuple ds =>
    obtain ⟨a, xs, rfl, hr, _⟩ := h.tup
    rcases hr with (hr | ⟨o, hr⟩) | ⟨o, its, n, hk, hc, _⟩
    · exact .base (.tup hr)
    · exact .fTuple hr
    · exact .kTuple hk hc
  | dict ds =>
    unfold Vw Rep at h
    obtain ⟨a, kvs, rfl, _, hr⟩ := h
    exact .base (.dK hr)
theorem bltn_ty {x : Str} {T : String} {q : Pos} (hg : Gl X x) (hm : X.mg x = none) (hv : bootBuiltins x = some (.type T)) (hn : x ≠ "__name__") (hd : (x == ("__debug__" : Str)) = false) : PE X (.Name x q) (tC (.ty T)) :=
  pe_bltn hg hm hv rfl hn hd
theorem de_isi {x : Str} {T : String} {q : Pos} (hT : okTy T = true) (hgi : Gl X "isinstance") (hmi : X.mg "isinstance" = none) (hg : Gl X x) (hm : X.mg x = none) (hv : bootBuiltins x = some (.type T)) (hn : x ≠ "__name__") (hd : (x == ("__debug__" : Str)) = false)
    (h : DE X e t) (he : starEach (e :: [.Name x q]) X.env = (false, eval e X.env) :: starEach [.Name x q] X.env) : DE X (.Call (.Name "isinstance" p1) [e, .Name x q] [] pos) (dOp (pIsi T) (dCons t dNil)) := by
  have hvi : bootBuiltins "isinstance" = some (.builtin "isinstance") := by decide +kernel
  refine pe_weak (pe_callB call_isi hgi hmi hvi (pa_cons h (pa_cons (bltn_ty hg hm hv hn hd) pa_nil) he) (by decide) (by decide) he rfl) fun σ H Q z => ?_
  have q1 := one_read (op_read z)
  obtain ⟨B, ρ, r, ρ', hlen, er, e, k⟩ := q1
  refine ⟨B, ρ, r, ρ', hlen, er, e, fun v H1 lk st rr => ?_⟩
  obtain ⟨A, ds, r', hA, hv', er', k'⟩ := k v H1 lk st rr
  unfold pIsi at er'
  split at er'
  · rename_i d
    cases er'
    obtain ⟨w, ew, h1⟩ := hv'.of1
    cases ew
    exact ⟨v, .ty T, _, .type T, isTy T d, rfl, .ty T, h1.ty, kit_all hT d, k' _ H1 (.refl _) rn_bl⟩
  · cases er'
/-- list(range(..)), tuple(range(..)) -/
def rgD (a b : Int) : List D := (List.range (b - a).toNat).map fun i => PyData.int (a + (i : Nat))
theorem rg_rep {K : PySem.W.Frag} {H : Hp} {A : Addr → Prop} (a b : Int) : RepA K H A (rgD a b) (rgV a b) := by
  have h1 : rgD a b = ((List.range (b - a).toNat).map fun i => (a + (i : Nat) : Int)).map PyData.int := by unfold rgD; rw [List.map_map]; rfl
  have h2 : rgV a b = ((List.range (b - a).toNat).map fun i => (a + (i : Nat) : Int)).map V.int := by unfold rgV; rw [List.map_map]; rfl
  rw [h1, h2]
  exact .of_ints _
def rgOk (a b : Int) : Bool := decide (-1000000 ≤ a) && decide (a ≤ 1000000) && decide (-1000000 ≤ b) && decide (b ≤ 1000000) && decide ((b - a).toNat ≤ 1000)
theorem rgOk_ok {a b : Int} (h : rgOk a b = true) : RgOk a b := by
  simp only [rgOk, Bool.and_eq_true, decide_eq_true_eq] at h
  refine ⟨by omega, by omega, by omega, by omega, ?_⟩
  have := h.2
  omega
def pListRg1 : List D → Option R
  | [.int b] => if rgOk 0 b then some (.o (rgD 0 b)) else none
  | _ => none
theorem de_listRg1 {q q2 : Pos} (hc : X.calm = true) (hgl : Gl X "list") (hml : X.mg "list" = none) (hgr : Gl X "range") (hmr : X.mg "range" = none) (h : DE X e t)
    (he : starEach [e] X.env = (false, eval e X.env) :: starEach [] X.env) : DE X (.Call (.Name "list" q) [.Call (.Name "range" p1) [e] [] q2] [] pos) (dOp pListRg1 (dCons t dNil)) := by
  refine pe_weak (pe_listRg hc hgl hml (prg_1 hgr hmr h he)) fun σ H Q z => ?_
  have q1 := one_read (op_read z)
  obtain ⟨B, ρ, r, ρ', hlen, er, e, k⟩ := q1
  refine ⟨B, ρ, r, ρ', hlen, er, e, fun v H1 lk st rr => ?_⟩
  obtain ⟨A, ds, r', hA, hv', er', k'⟩ := k v H1 lk st rr
  unfold pListRg1 at er'
  split at er'
  · split at er'
    · rename_i b hb
      cases er'
      obtain ⟨w, ew, h1⟩ := hv'.of1
      cases ew
      exact ⟨b, h1.int, rgOk_ok hb, fun c nc => k' _ _ (upd_same_of nc) (rn_lst nc (rg_rep _ _))⟩
    · cases er'
  · cases er'
end

/-! ### defs -/
/-- a def's promise where nothing is under way that prints -/
structure FnG (P : Program) (w : World) (K : PySem.W.Frag) (mg : Str → Option Value) (base : Heap) (CX : CXT) (k : Nat) (f : Addr) (fd : FuncData) (ps : List Str) (sp : Sp) : Prop where
  len : ∀ vs H Q E, sp vs H Q E → vs.length = ps.length
  run : ∀ (A : Around) (outer : List Env) (s : Shared) (H : Hp) (args : Args) (us : List Value) (vs : List V) (Q : VK) (E : XK), Room k A → A.guards = some [] → Env0 P w K mg base A outer s H →
    BindsTo s fd args (ps.zip us) → Vals vs us → sp vs H Q E → codeAny (model P w) A (.call (.ref f) args) (CR CX outer P w H s Q E) s
section
variable {X : Cx} {CX : CXT} {k : Nat} {f : Addr} {fd : FuncData} {ps ks : List Str} {sp : Sp} {E : XK} {x : Str} {p pos : Pos} {e : Expr} {es : List Expr} {kws : List Keyword} {t tk : TA} {ds : List Value}
theorem FnG.mono {P w K mg base} {j : Nat} (F : FnG P w K mg base CX j f fd ps sp) (h : j ≤ k) : FnG P w K mg base CX k f fd ps sp :=
  ⟨F.len, fun A outer s H args us vs Q E hr hg => F.run A outer s H args us vs Q E (hr.mono h) hg⟩
theorem FnG.imp {P w K mg base} {sp' : Sp} (F : FnG P w K mg base CX k f fd ps sp) (h : ∀ vs H Q E, sp' vs H Q E → sp vs H Q E) : FnG P w K mg base CX k f fd ps sp' :=
  ⟨fun vs H Q E q => F.len vs H Q E (h _ _ _ _ q), fun A outer s H args us vs Q E hr hg he hb hv hs => F.run A outer s H args us vs Q E hr hg he hb hv (h _ _ _ _ hs)⟩
/-- behind the callee -/
theorem after_call {pins : List (Addr × Obj)} {σ : St} {H : Hp} {s : Shared} {Q : VK} (hx : Passes CX X E) (I : Inv X pins σ H s) {code : Code} (h : codeAny (model X.prog X.w) X.A code (CR CX X.stack X.prog X.w H s Q E) s) :
    codeAny (model X.prog X.w) X.A code (fun r s' => match r with | .ok (.ret u) => EP X pins σ Q u s' | .ok _ => False | .error e => X.xe e s') s := by
  refine codeAny_mono h fun r s' hq => ?_
  match r, hq with
  | .error e, hq => exact hx pins σ H s e s' I hq
  | .ok (.ret u), hq => exact I.after hq
theorem call_done {pins : List (Addr × Obj)} {σ : St} {Q : VK} {s : Shared} {v : Value} {us : List Value} {kw : List (Str × Value)} (h : codeAny (model X.prog X.w) X.A (.call v ⟨us, kw⟩) (fun r s' => match r with | .ok (.ret u) => EP X pins σ Q u s' | .ok _ => False | .error e => X.xe e s') s) :
    wpAny (model X.prog X.w) X.A (call v us kw) (EP X pins σ Q) X.xe s := by
  refine wpAny_call (codeAny_mono h fun r s' hq => ?_)
  match r, hq with
  | .error e, hq => exact hq
  | .ok (.ret u), hq => exact hq
theorem pe_callG (F : FnG X.prog X.w X.K X.mg X.base CX k f fd ps sp) (hr : Room k X.A) (hG : X.A.guards = some []) (hg : Gl X x) (hm : X.mg x = some (.ref f)) (hk : PySem.W.keepIn X.K (.ref f) = true) (hb : Binds X.K fd ps []) (hx : Passes CX X E)
    (ha : PA X (e :: es) t) (hdb : (x == ("__debug__" : Str)) = false) (he : starEach (e :: es) X.env = (false, eval e X.env) :: starEach es X.env) (hpl : (backTo pos (starEach es X.env)).any (·.1) = false) :
    PE X (.Call (.Name x p) (e :: es) [] pos) (tCall sp [] E t) := by
  refine ⟨fun pins s σ H Q I h => wpAny_Call_Name_kw (ld_glob I hg hm ?_ hdb)⟩
  refine PySem.W.callWith_K (h₀ := X.base) I.ok.mod.kin hk (thn (ha.run pos pins s σ H _ I h) fun us s1 ⟨vs, H1, I1, r, q⟩ => ⟨I1.kIn, ?_⟩) he hpl
  have q : sp vs H1 Q E := by simpa using q
  have hl : us.length = ps.length := r.length.symm.trans (F.len _ _ _ _ q)
  have bt : BindsTo s1 fd ⟨us, []⟩ (ps.zip us) := by simpa using hb s1 us I1.kIn (by simpa using hl)
  exact call_done (after_call hx I1 (F.run X.A X.stack s1 H1 _ us vs Q E hr hG I1.env0 bt r q))
theorem pe_callG0 (F : FnG X.prog X.w X.K X.mg X.base CX k f fd ps sp) (hr : Room k X.A) (hG : X.A.guards = some []) (hg : Gl X x) (hm : X.mg x = some (.ref f)) (hk : PySem.W.keepIn X.K (.ref f) = true) (hb : Binds X.K fd ps []) (hx : Passes CX X E)
    (hdb : (x == ("__debug__" : Str)) = false) : PE X (.Call (.Name x p) [] [] pos) (tCall sp [] E tNil) := by
  refine ⟨fun pins s σ H Q I h => wpAny_Call_Name_kw (ld_glob I hg hm (PySem.W.callWith_K0 I.kIn hk ?_) hdb)⟩
  have q : sp [] H Q E := h
  have hl := F.len _ _ _ _ q
  have bt : BindsTo s fd ⟨[], []⟩ (ps.zip []) := by simpa using hb s [] I.kIn (by simpa using hl)
  exact call_done (after_call hx I (F.run X.A X.stack s H _ [] [] Q E hr hG I.env0 bt .nil q))
/-- keywords alone: f(k = v, ..); g puts their values into the parameters' order -/
structure KOrd (K : PySem.W.Frag) (fd : FuncData) (ps ks : List Str) (ix : List Nat) : Prop where
  to : ∀ (s : Shared) (ws : List Value), K.In s.heap → ws.length = ks.length → BindsTo s fd ⟨[], ks.zip ws⟩ (ps.zip (ix.filterMap fun i => ws[i]?))
def reord {α : Type} (ix : List Nat) (ws : List α) : List α := ix.filterMap fun i => ws[i]?
theorem reord_vals {vs : List V} {us : List Value} (r : Vals vs us) : ∀ ix : List Nat, Vals (reord ix vs) (reord ix us)
  | [] => .nil
  | i :: ix => by
    unfold reord
    rw [List.filterMap_cons, List.filterMap_cons]
    cases e : vs[i]? with
    | none => rw [r.none_of e]; exact reord_vals r ix
    | some v =>
      obtain ⟨u, e2, r2⟩ := r.get e
      rw [e2]
      exact .cons r2 (reord_vals r ix)
def tCallKw (sp : Sp) (ix : List Nat) (n : Nat) (E : XK) (t : TA) : TE := fun σ H Q => t σ H fun vs H1 => vs.length = n ∧ sp (reord ix vs) H1 Q E
theorem pe_callKw {ix : List Nat} (F : FnG X.prog X.w X.K X.mg X.base CX k f fd ps sp) (hr : Room k X.A) (hG : X.A.guards = some []) (hg : Gl X x) (hm : X.mg x = some (.ref f)) (hk : PySem.W.keepIn X.K (.ref f) = true) (hb : KOrd X.K fd ps ks ix) (hx : Passes CX X E)
    (hkw : PK X kws t) (hall : (backToKw pos (keywordEach kws X.env)).all (·.1.isSome) = true) (hks : (backToKw pos (keywordEach kws X.env)).filterMap (·.1) = ks) (hdb : (x == ("__debug__" : Str)) = false)
    (hpl : ((backTo pos (starEach [] X.env)).any (·.1) || (backToKw pos (keywordEach kws X.env)).any (·.1.isNone)) = false) :
    PE X (.Call (.Name x p) [] kws pos) (tCallKw sp ix ks.length E t) := by
  refine ⟨fun pins s σ H Q I h => wpAny_Call_Name_kw (ld_glob I hg hm (PySem.W.callWith_KW0 (h₀ := X.base) I.ok.mod.kin hk hall ?_ hpl) hdb)⟩
  refine thn (hkw.run pos pins s σ H _ I h) fun ws s2 ⟨zs, H2, I2, rz, hn, q⟩ => ⟨I2.kIn, ?_⟩
  rw [hks]
  have hl : ws.length = ks.length := rz.length.symm.trans hn
  have r2 := reord_vals rz ix
  exact call_done (after_call hx I2 (F.run X.A X.stack s2 H2 _ (reord ix ws) (reord ix zs) Q E hr hG I2.env0 (hb.to s2 ws I2.kIn hl) r2 q))
end

/-! ### promises by functions on values -/
/-- a def of n parameters whose value is F of theirs -/
def spP (K : PySem.W.Frag) (n : Nat) (F : List D → Option R) : Sp := fun vs H Q _ => ∃ (B : Addr → Prop) (ds : List D) (r : R), vs.length = n ∧ (∀ b, B b → H b ≠ none) ∧ RepA K H B ds vs ∧ F ds = some r ∧ ∀ w H', Same H H' → RN K H H' B r w → Q w H'
def frO (r : R) (w : V) (b : Addr) : Prop := (∃ xs, r = .o xs) ∧ w = .ref b
/-- .. whose first parameter is a list that it may change -/
def spV (K : PySem.W.Frag) (n : Nat) (F : List D → List D → Option (R × List D)) : Sp := fun vs H Q _ => ∃ (B : Addr → Prop) (a : Addr) (us ws : List V) (xs ds : List D) (r : R) (xs' : List D), vs = .ref a :: ws ∧ ws.length + 1 = n ∧ H a = some (.lst us) ∧ ¬ B a ∧ (∀ b, B b → H b ≠ none) ∧
  RepA K H (fun b => B b ∨ b = a) xs us ∧ RepA K H (fun b => B b ∨ b = a) ds ws ∧ F xs ds = some (r, xs') ∧
  ∀ w H' us', (∀ b o, H b = some o → b ≠ a → H' b = some o) → H' a = some (.lst us') → RepA K H' (fun b => (B b ∨ b = a) ∨ frO r w b) xs' us' → RN K H H' (fun b => B b ∨ b = a) r w → Q w H'
def dCall (F : List D → Option R) (ts : TDs) : TD := fun ρ => match ts ρ with
  | some (rs, ρ1) => match frz rs ρ1 with
    | some (ds, ρ2) => match F ds with
      | some r => some (r, ρ2)
      | none => none
    | none => none
  | none => none
theorem call_read {K : PySem.W.Frag} {F : List D → Option R} {ts : TDs} {n : Nat} {σ : St} {H : Hp} {Q : VK} {E : XK} (hn : ∀ ds r, F ds = some r → ds.length = n) (h : rd K (dCall F ts) σ H Q) : rds K ts σ H fun vs H1 => spP K n F vs H1 Q E := by
  obtain ⟨B, ρ, r, ρ', hl, er, e, k⟩ := h
  unfold dCall at e
  split at e
  · rename_i rs ρ1 e1
    split at e
    · rename_i ds ρ2 e2
      split at e
      · rename_i r' e3
        cases e
        refine ⟨B, ρ, rs, ρ1, hl, er, e1, fun vs H1 lk st rr => ?_⟩
        obtain ⟨h1, h2, h3, h4⟩ := frz_ok (lk.len.trans hl) e2 rr
        have st2 : Stp (Z ρ σ) H (Z ρ' σ) H1 := st.trans (stp_own h4)
        refine ⟨AO B (Z ρ' σ), ds, r, by rw [h2.len]; exact hn _ _ e3, fun b z => ?_, h2, e3, fun w H2 sm rn => k w H2 (lk.trans h3) (st2.trans (.same sm)) (RN.rss h1 sm st2.trk rn)⟩
        rcases z with z | z
        · exact h1.trk b z
        · obtain ⟨xs, q⟩ := h1.lst z
          rw [q]; simp
      · cases e
    · cases e
  · cases e
/-- an own list is changed, and a result comes -/
theorem er_callV {K : PySem.W.Frag} {H H' : Hp} {B : Addr → Prop} {E : Ent} {p : Bool} {xs xs' : List D} {a : Addr} {us' : List V} {r : R} {w : V} (er : ER K H B ((some (.own p xs), some (.ref a)) :: E)) (hH : ∀ b o, H b = some o → b ≠ a → H' b = some o)
    (ha : H' a = some (.lst us')) (hx : RepA K H' (fun b => AO B ((some (.own p xs), some (.ref a)) :: E) b ∨ frO r w b) xs' us') (rn : RN K H H' (AO B ((some (.own p xs), some (.ref a)) :: E)) r w) :
    ER K H' B (((some (.own p xs'), some (.ref a)) :: E) ++ [(sl r, some w)]) ∧ ∀ b, Own [(sl r, some w)] b → H b = none := by
  have hOw : ∀ b, Own [(sl r, some w)] b → frO r w b ∧ H b = none := fun b z => by
    rcases own_cons.mp z with ⟨q, ys, z⟩ | z
    · have z1 := congrArg Prod.fst z
      have z2 := congrArg Prod.snd z
      simp only at z1 z2
      cases r with
      | v d => cases z1
      | o zs =>
        obtain ⟨c, vs, e, h1, _⟩ := rn
        cases z2
        cases e
        exact ⟨⟨⟨zs, rfl⟩, rfl⟩, h1⟩
      | b i => cases z1
    · exact (own_nil z).elim
  have hA : ∀ b, AO B (((some (.own p xs'), some (.ref a)) :: E) ++ [(sl r, some w)]) b → AO B ((some (.own p xs), some (.ref a)) :: E) b ∨ frO r w b := fun b z => by
    rcases z with z | z
    · exact .inl (.inl z)
    · rcases own_app.mp z with z | z
      · rcases own_cons.mp z with ⟨q, ys, z⟩ | z
        · cases z
          exact .inl (.inr (own_cons.mpr (.inl ⟨p, xs, rfl⟩)))
        · exact .inl (.inr (own_cons.mpr (.inr z)))
      · exact .inr (hOw b z).1
  have hfr : ∀ b, frO r w b → H b = none := fun b ⟨⟨zs, e1⟩, e2⟩ => by
    subst e1 e2
    obtain ⟨c, vs, e, h1, _⟩ := rn
    cases e
    exact h1
  have hA2 : ∀ b, H b ≠ none → AO B (((some (.own p xs'), some (.ref a)) :: E) ++ [(sl r, some w)]) b → AO B ((some (.own p xs), some (.ref a)) :: E) b := fun b t z => (hA b z).elim id fun z => absurd (hfr b z) t
  have hl : ∃ vs, H a = some (.lst vs) := er.lst (own_cons.mpr (.inl ⟨p, xs, rfl⟩))
  have hW : ∀ b, b = a → AO B ((some (.own p xs), some (.ref a)) :: E) b ∧ ∃ zs, H b = some (.lst zs) := fun b z => by
    subst z
    exact ⟨.inr (own_cons.mpr (.inl ⟨p, xs, rfl⟩)), hl⟩
  have nd := List.pairwise_cons.mp er.nd
  have rin : ∀ x, (sl r, some w) = x → (∀ d v, x = (some (.val d), v) → ∃ u, v = some u ∧ Rep K H' (AO B (((some (.own p xs'), some (.ref a)) :: E) ++ [(sl r, some w)])) d u) := fun x ex d v e => by
    subst ex
    cases r with
    | v d0 =>
      cases e
      refine ⟨w, rfl, Rep.mono (show Rep K H' _ _ w from rn) fun b z => (hA b z).elim id fun z => ?_⟩
      obtain ⟨⟨_, z⟩, _⟩ := z
      cases z
    | o zs => cases e
    | b i => cases e
  refine ⟨⟨fun d v m => ?_, fun q ys v m => ?_, ?_, fun b z => ?_⟩, fun b z => (hOw b z).2⟩
  · rcases List.mem_append.mp m with m | m
    · rcases List.mem_cons.mp m with m | m
      · cases m
      · obtain ⟨u, e, rp⟩ := er.val d v (List.mem_cons_of_mem _ m)
        exact ⟨u, e, rp.stp (W := fun b => b = a) hH hW hA2⟩
    · exact rin _ (List.mem_singleton.mp m).symm d v rfl
  · rcases List.mem_append.mp m with m | m
    · rcases List.mem_cons.mp m with m | m1
      · cases m
        exact ⟨a, us', rfl, ha, hx.mono hA, er.notB (own_cons.mpr (.inl ⟨p, xs, rfl⟩))⟩
      · obtain ⟨c, vs, e, hc, rp, nb⟩ := er.own q ys v (List.mem_cons_of_mem _ m1)
        refine ⟨c, vs, e, hH c _ hc fun z => ?_, rp.stp (W := fun b => b = a) hH hW hA2, nb⟩
        subst z
        subst e
        exact nd.1 _ m1 c ⟨p, xs, rfl⟩ ⟨q, ys, rfl⟩
    · have m := (List.mem_singleton.mp m).symm
      cases r with
      | v d0 => cases m
      | b i => cases m
      | o zs =>
        cases m
        obtain ⟨c, vs, e, h1, h2, h3⟩ := rn
        subst e
        refine ⟨c, vs, rfl, h2, h3.mono fun b z => (hA b z).elim .inl fun z => .inr (V.ref.inj z.2).symm, fun z => er.trk c z h1⟩
  · refine List.pairwise_append.mpr ⟨List.pairwise_cons.mpr ⟨fun q hq b ⟨_, _, z⟩ iq => ?_, nd.2⟩, List.pairwise_singleton _ _, fun x hx' y hy b ix iy => ?_⟩
    · cases z
      exact nd.1 q hq _ ⟨p, xs, rfl⟩ iq
    · obtain rfl := List.mem_singleton.mp hy
      have hb := (hOw b (own_cons.mpr (.inl iy))).2
      have : Own ((some (.own p xs), some (.ref a)) :: E) b := by
        rcases List.mem_cons.mp hx' with z | z
        · subst z
          obtain ⟨_, _, z⟩ := ix
          cases z
          exact own_cons.mpr (.inl ⟨p, xs, rfl⟩)
        · exact own_cons.mpr (.inr (own_iff.mpr ⟨x, z, ix⟩))
      obtain ⟨vs, q⟩ := er.lst this
      rw [hb] at q; cases q
  · have h1 := er.trk b z
    cases q : H b with
    | none => exact absurd q h1
    | some o =>
      by_cases hb : b = a
      · subst hb; rw [ha]; simp
      · rw [hH b o q hb]; simp
def dCallV (F : List D → List D → Option (R × List D)) (ts : TDs) : TD := fun ρ => match ts ρ with
  | some (.b i :: rs, ρ1) => match frz rs ρ1 with
    | some (ds, ρ2) => match ρ2[i]? with
      | some (some (.own p xs)) => match F xs ds with
        | some (r, xs') => some (r, ρ2.set i (some (.own p xs')))
        | none => none
      | _ => none
    | none => none
  | some (.o xs :: rs, ρ1) => match frz rs ρ1 with
    | some (ds, ρ2) => match F xs ds with
      | some (r, _) => some (r, ρ2)
      | none => none
    | none => none
  | _ => none
theorem RSs.tailB {K : PySem.W.Frag} {H H' : Hp} {B : Addr → Prop} {ρ : Rho} {σ : St} {r : R} {rs : List R} {v : V} {vs : List V} (h : RSs K H H' B ρ σ (r :: rs) (v :: vs)) : RSs K H H' B ρ σ rs vs := by
  have er : ER K H' B (Z ρ σ ++ ((sl r, some v) :: tz rs vs)) := h.er
  refine ⟨by have := h.len; simpa using this, er.sub (List.Sublist.append_left (List.sublist_cons_self _ _) _), fun a z => h.fr a (own_cons.mpr (.inr z)), fun k i z => ?_⟩
  obtain ⟨w, h1, h2⟩ := h.bo (k + 1) i (by simpa using z)
  exact ⟨w, by simpa using h1, h2⟩
theorem callV_read {K : PySem.W.Frag} {F : List D → List D → Option (R × List D)} {ts : TDs} {n : Nat} {σ : St} {H : Hp} {Q : VK} {E : XK} (hn : ∀ xs ds r, F xs ds = some r → ds.length + 1 = n) (h : rd K (dCallV F ts) σ H Q) :
    rds K ts σ H fun vs H1 => spV K n F vs H1 Q E := by
  obtain ⟨B, ρ, r, ρ', hl, er, e, k⟩ := h
  unfold dCallV at e
  split at e
  · rename_i i rs ρ1 e1
    split at e
    · rename_i ds ρ2 e2
      split at e
      · rename_i p xs e3
        split at e
        · rename_i r' xs' e4
          cases e
          refine ⟨B, ρ, _, ρ1, hl, er, e1, fun vs H1 lk st rr => ?_⟩
          obtain ⟨v, ws, rfl⟩ : ∃ v ws, vs = v :: ws := by
            cases vs with
            | nil => have := rr.len; simp at this
            | cons v ws => exact ⟨v, ws, rfl⟩
          obtain ⟨w0, ew, ei⟩ := rr.bo 0 i (by simp)
          have ew : v = w0 := by simpa using ew
          subst ew
          obtain ⟨h1, h2, h3, h4⟩ := frz_ok (lk.len.trans hl) e2 rr.tailB
          have hl2 : ρ2.length = σ.length := h3.len.trans (lk.len.trans hl)
          obtain ⟨a, us, ea, hus, rus, nb⟩ := h1.own p xs _ (mem_Z e3 ei)
          cases ea
          have g : (Z ρ2 σ)[i]? = some (some (.own p xs), some (.ref a)) := by simp [Z, List.getElem?_zip_eq_some, e3, ei]
          have oa : Own (Z ρ2 σ) a := ⟨p, xs, List.mem_of_getElem? g⟩
          have st2 : Stp (Z ρ σ) H (Z ρ2 σ) H1 := st.trans (stp_own h4)
          refine ⟨fun b => B b ∨ (Own (Z ρ2 σ) b ∧ b ≠ a), a, us, ws, xs, ds, r, xs', rfl, by rw [h2.len]; exact hn _ _ _ e4, hus, fun z => ?_, fun b z => ?_, rus.mono fun b z => ?_, h2.mono fun b z => ?_, e4, fun w H2 us' k1 k2 k3 rn => ?_⟩
          · rcases z with z | z
            · exact nb z
            · exact z.2 rfl
          · rcases z with z | z
            · exact h1.trk b z
            · obtain ⟨xs, q⟩ := h1.lst z.1
              rw [q]; simp
          · rcases z with (z | z) | z
            · exact .inl z
            · exact .inr z.1
            · subst z; exact .inr oa
          · rcases z with (z | z) | z
            · exact .inl z
            · exact .inr z.1
            · subst z; exact .inr oa
          · have hset := set_perm (y := (some (Slot.own p xs'), some (V.ref a))) g
            have er1 := h1.perm hset.2
            have hao : ∀ b, AO B ((some (Slot.own p xs), some (V.ref a)) :: (Z ρ2 σ).eraseIdx i) b → (B b ∨ (Own (Z ρ2 σ) b ∧ b ≠ a)) ∨ b = a := fun b z => by
              by_cases hb : b = a
              · exact .inr hb
              · rcases z with z | z
                · exact .inl (.inl z)
                · exact .inl (.inr ⟨(own_perm hset.2).mpr z, hb⟩)
            obtain ⟨er2, fr2⟩ := er_callV er1 k1 k2 (k3.mono fun b z => z.elim (fun z => .inl (hao b z)) .inr) (by
              cases r with
              | v d => exact Rep.mono rn hao
              | o zs =>
                obtain ⟨c, vs, e, q1, q2, q3⟩ := rn
                exact ⟨c, vs, e, q1, q2, q3.mono fun b z => z.elim (fun z => .inl (hao b z)) .inr⟩
              | b i => exact rn.elim)
            have er3 : ER K H2 B (Z (ρ2.set i (some (.own p xs'))) σ ++ [(sl r, some w)]) := by
              rw [Z_set ei hl2]
              exact er2.perm (List.Perm.append_right _ hset.1.symm)
            have hi : i < ρ2.length := (List.getElem?_eq_some_iff.mp e3).1
            have st3 : Stp (Z ρ2 σ) H1 (Z (ρ2.set i (some (.own p xs'))) σ) H2 := by
              rw [Z_set ei hl2]
              refine ⟨fun b o q nb' => k1 b o q fun z => nb' (by subst z; exact oa), fun b t z => ?_, fun b t => ?_⟩
              · rcases own_cons.mp ((own_perm hset.1).mp z) with ⟨_, _, z⟩ | z
                · cases z; exact oa
                · exact (own_perm hset.2).mpr (own_cons.mpr (.inr z))
              · cases q : H1 b with
                | none => exact absurd q t
                | some o =>
                  by_cases hb : b = a
                  · subst hb; rw [k2]; simp
                  · rw [k1 b o q hb]; simp
            refine k w H2 ((lk.trans h3).trans ⟨by simp, fun j ys z => ?_⟩) (st2.trans st3) ⟨rfl, er3, fun b z => ?_, fun m j z => ?_⟩
            · by_cases hj : i = j
              · subst hj
                rw [e3] at z; cases z
                exact ⟨xs', by simp [hi]⟩
              · exact ⟨ys, by rw [List.getElem?_set_ne hj]; exact z⟩
            · have := fr2 b z
              cases q : H b with
              | none => rfl
              | some o => exact absurd this (st2.trk b (by rw [q]; simp))
            · cases m with
              | zero =>
                have z : r = .b j := by simpa using z
                subst z
                exact rn.elim
              | succ m => simp at z
        · cases e
      · cases e
    · cases e
  · rename_i xs rs ρ1 e1
    split at e
    · rename_i ds ρ2 e2
      split at e
      · rename_i r' xs' e4
        cases e
        refine ⟨B, ρ, _, ρ1, hl, er, e1, fun vs H1 lk st rr => ?_⟩
        obtain ⟨v, ws, rfl⟩ : ∃ v ws, vs = v :: ws := by
          cases vs with
          | nil => have := rr.len; simp at this
          | cons v ws => exact ⟨v, ws, rfl⟩
        have hl1 := lk.len.trans hl
        -- the fresh list stands aside, barred
        have ere : ER K H1 B (Z ρ1 σ ++ ((some (.own false xs), some v) :: tz rs ws)) := rr.er
        obtain ⟨a, us, ea, hus, rus, nb⟩ := ere.own false xs _ (List.mem_append_right _ List.mem_cons_self)
        cases ea
        have ha0 : H a = none := rr.fr a (own_cons.mpr (.inl ⟨false, xs, rfl⟩))
        have erp : ER K H1 B ((Z ρ1 σ ++ tz rs ws) ++ [(some (.own false xs), some (.ref a))]) := ere.perm (by
          rw [List.append_assoc]
          exact List.Perm.append_left _ (List.perm_append_comm (l₁ := [(some (Slot.own false xs), some (V.ref a))])))
        have erA := erp.aside
        have rrT : RSs K H H1 (AO B [(some (.own false xs), some (.ref a))]) ρ1 σ rs ws := ⟨rr.tailB.len, erA, rr.tailB.fr, rr.tailB.bo⟩
        obtain ⟨h1, h2, h3, h4⟩ := frz_ok hl1 e2 rrT
        have st2 : Stp (Z ρ σ) H (Z ρ' σ) H1 := st.trans (stp_own h4)
        have hown1 : ∀ b, Own [(some (Slot.own false xs), some (V.ref a))] b → b = a := fun b z => by
          rcases own_cons.mp z with ⟨_, _, z⟩ | z
          · cases z; rfl
          · exact (own_nil z).elim
        have oa1 : Own [(some (Slot.own false xs), some (V.ref a))] a := own_cons.mpr (.inl ⟨false, xs, rfl⟩)
        have naO : ¬ Own (Z ρ' σ) a := fun z => h1.notB z (.inr oa1)
        -- the environment and the fresh list together
        have er1 : ER K H1 B (Z ρ' σ ++ ([(some (.own false xs), some (.ref a))] ++ [])) := by
          have e0 : ER K H1 B (Z ρ1 σ ++ [(some (.own false xs), some (.ref a))]) := erp.sub (by
            rw [List.append_assoc]
            exact List.Sublist.append_left (List.sublist_append_right _ _) _)
          exact e0.back (stp_own h4) (by simpa using h1) (fun b z => absurd z own_nil)
        rw [List.append_nil] at er1
        have er2 : ER K H1 B ((some (.own false xs), some (.ref a)) :: Z ρ' σ) := er1.perm (List.perm_append_comm (l₂ := [(some (Slot.own false xs), some (V.ref a))]))
        obtain ⟨a', us2, ea, hus2, rus2, nb2⟩ := er2.own false xs _ List.mem_cons_self
        cases ea
        rw [hus] at hus2
        cases hus2
        have hao : ∀ b, AO B ((some (Slot.own false xs), some (V.ref a)) :: Z ρ' σ) b → (B b ∨ Own (Z ρ' σ) b) ∨ b = a := fun b z => by
          rcases z with z | z
          · exact .inl (.inl z)
          · rcases own_cons.mp z with ⟨_, _, z⟩ | z
            · cases z; exact .inr rfl
            · exact .inl (.inr z)
        have hoa : ∀ b, (B b ∨ Own (Z ρ' σ) b) ∨ b = a → AO B ((some (Slot.own false xs), some (V.ref a)) :: Z ρ' σ) b := fun b z => by
          rcases z with (z | z) | z
          · exact .inl z
          · exact .inr (own_cons.mpr (.inr z))
          · subst z; exact .inr (own_cons.mpr (.inl ⟨false, xs, rfl⟩))
        refine ⟨fun b => B b ∨ Own (Z ρ' σ) b, a, us, ws, xs, ds, r, xs', rfl, by rw [h2.len]; exact hn _ _ _ e4, hus, fun z => ?_, fun b z => ?_, rus2.mono hoa, h2.mono fun b z => ?_, e4, fun w H2 us' k1 k2 k3 rn => ?_⟩
        · rcases z with z | z
          · exact nb z
          · exact naO z
        · rcases z with z | z
          · exact h1.trk b (.inl z)
          · obtain ⟨xs, q⟩ := h1.lst z
            rw [q]; simp
        · rcases z with (z | z) | z
          · exact .inl (.inl z)
          · exact .inr z
          · subst z; exact .inl (.inr oa1)
        · obtain ⟨er3, fr3⟩ := er_callV er2 k1 k2 (k3.mono fun b z => z.elim (fun z => .inl (hao b z)) .inr) (by
            cases r with
            | v d => exact Rep.mono rn hao
            | o zs =>
              obtain ⟨c, vs, e, q1, q2, q3⟩ := rn
              exact ⟨c, vs, e, q1, q2, q3.mono fun b z => z.elim (fun z => .inl (hao b z)) .inr⟩
            | b i => exact rn.elim)
          have er4 : ER K H2 B (Z ρ' σ ++ [(sl r, some w)]) := er3.sub (List.sublist_cons_self _ _)
          have st3 : Stp (Z ρ' σ) H1 (Z ρ' σ) H2 ∨ True := .inr trivial
          have st4 : Stp (Z ρ σ) H (Z ρ' σ) H2 := by
            refine ⟨fun b o q nb' => k1 b o (st2.keep b o q nb') fun z => ?_, fun b t z => st2.own b t z, fun b t => ?_⟩
            · subst z; rw [ha0] at q; cases q
            · have t1 := st2.trk b t
              cases q : H1 b with
              | none => exact absurd q t1
              | some o =>
                by_cases hb : b = a
                · subst hb; rw [k2]; simp
                · rw [k1 b o q hb]; simp
          refine k w H2 (lk.trans h3) st4 ⟨rfl, er4, fun b z => ?_, fun m j z => ?_⟩
          · have := fr3 b z
            cases q : H b with
            | none => rfl
            | some o => exact absurd this (st2.trk b (by rw [q]; simp))
          · cases m with
            | zero =>
              have z : r = .b j := by simpa using z
              subst z
              exact rn.elim
            | succ m => simp at z
      · cases e
    · cases e
  · cases e
section
variable {X : Cx} {k n : Nat} {f : Addr} {fd : FuncData} {ps ks : List Str} {x : Str} {p pos : Pos} {e : Expr} {es : List Expr} {kws : List Keyword} {ts : TDs} {F : List D → Option R} {G : List D → List D → Option (R × List D)}
theorem de_call (hF : FnG X.prog X.w X.K X.mg X.base CX0 k f fd ps (spP X.K n F)) (hn : ∀ ds r, F ds = some r → ds.length = n) (hr : Room k X.A) (hG : X.A.guards = some []) (hg : Gl X x) (hm : X.mg x = some (.ref f)) (hk : PySem.W.keepIn X.K (.ref f) = true) (hb : Binds X.K fd ps [])
    (ha : DA X (e :: es) ts) (hdb : (x == ("__debug__" : Str)) = false) (he : starEach (e :: es) X.env = (false, eval e X.env) :: starEach es X.env) (hpl : (backTo pos (starEach es X.env)).any (·.1) = false) : DE X (.Call (.Name x p) (e :: es) [] pos) (dCall F ts) :=
  pe_weak (pe_callG (E := E0) hF hr hG hg hm hk hb pass0 ha hdb he hpl) fun σ H Q h => by
    have := call_read (E := E0) hn h
    simpa [tCall] using this
theorem de_callV (hF : FnG X.prog X.w X.K X.mg X.base CX0 k f fd ps (spV X.K n G)) (hn : ∀ xs ds r, G xs ds = some r → ds.length + 1 = n) (hr : Room k X.A) (hG : X.A.guards = some []) (hg : Gl X x) (hm : X.mg x = some (.ref f)) (hk : PySem.W.keepIn X.K (.ref f) = true) (hb : Binds X.K fd ps [])
    (ha : DA X (e :: es) ts) (hdb : (x == ("__debug__" : Str)) = false) (he : starEach (e :: es) X.env = (false, eval e X.env) :: starEach es X.env) (hpl : (backTo pos (starEach es X.env)).any (·.1) = false) : DE X (.Call (.Name x p) (e :: es) [] pos) (dCallV G ts) :=
  pe_weak (pe_callG (E := E0) hF hr hG hg hm hk hb pass0 ha hdb he hpl) fun σ H Q h => by
    have := callV_read (E := E0) hn h
    simpa [tCall] using this
/-- by keywords alone -/
def DK (X : Cx) (kws : List Keyword) (t : TDs) : Prop := PK X kws (rds X.K t)
theorem pk_weak {t t' : TA} (h : PK X kws t) (w : ∀ σ H Q, t' σ H Q → t σ H Q) : PK X kws t' := ⟨fun pos pins s σ H Q I q => h.run pos pins s σ H Q I (w σ H Q q)⟩
theorem dk_nil : DK X [] dNil := pk_weak pk_nil fun _ _ _ h => nil_read h
theorem dk_cons {nm : Option Str} {kpos : Pos} {t : TD} (h : DE X e t) (hs : DK X kws ts) : DK X (⟨nm, e, kpos⟩ :: kws) (dCons t ts) := pk_weak (pk_cons h hs) fun _ _ _ h => cons_read h
def dCallK (F : List D → Option R) (m : Nat) (ix : List Nat) (ts : TDs) : TD := dCall (fun ds => if ds.length = m then F (reord ix ds) else none) ts
theorem reord_rep {K : PySem.W.Frag} {H : Hp} {A : Addr → Prop} {ds : List D} {vs : List V} (r : RepA K H A ds vs) : ∀ ix : List Nat, RepA K H A (reord ix ds) (reord ix vs)
  | [] => .nil
  | i :: ix => by
    unfold reord
    rw [List.filterMap_cons, List.filterMap_cons]
    cases e : ds[i]? with
    | none =>
      have : vs[i]? = none := by rw [List.getElem?_eq_none_iff] at e ⊢; rw [r.len]; exact e
      rw [this]; exact reord_rep r ix
    | some v =>
      obtain ⟨u, e2, r2⟩ := r.get e
      rw [e2]
      exact .cons r2 (reord_rep r ix)
theorem de_callK {ix : List Nat} (hF : FnG X.prog X.w X.K X.mg X.base CX0 k f fd ps (spP X.K n F)) (hn : ∀ ds r, F ds = some r → ds.length = n) (hr : Room k X.A) (hG : X.A.guards = some []) (hg : Gl X x) (hm : X.mg x = some (.ref f)) (hk : PySem.W.keepIn X.K (.ref f) = true) (hb : KOrd X.K fd ps ks ix)
    (ha : DK X kws ts) (hall : (backToKw pos (keywordEach kws X.env)).all (·.1.isSome) = true) (hks : (backToKw pos (keywordEach kws X.env)).filterMap (·.1) = ks) (hdb : (x == ("__debug__" : Str)) = false)
    (hpl : ((backTo pos (starEach [] X.env)).any (·.1) || (backToKw pos (keywordEach kws X.env)).any (·.1.isNone)) = false) : DE X (.Call (.Name x p) [] kws pos) (dCallK F ks.length ix ts) :=
  pe_weak (pe_callKw (E := E0) hF hr hG hg hm hk hb pass0 ha hall hks hdb hpl) fun σ H Q h => by
    have hn' : ∀ ds r, (if ds.length = ks.length then F (reord ix ds) else none) = some r → ds.length = ks.length := fun ds r q => by
      split at q
      · assumption
      · cases q
    have q := call_read (E := E0) hn' h
    obtain ⟨B, ρ, rs, ρ', hl, er, e1, kk⟩ := q
    refine ⟨B, ρ, rs, ρ', hl, er, e1, fun vs H1 lk st rr => ?_⟩
    obtain ⟨B2, ds, r, h1, h2, h3, h4, h5⟩ := kk vs H1 lk st rr
    have hd : ds.length = ks.length := by rw [← h3.len]; exact h1
    have h4 := (if_pos hd).symm.trans h4
    refine ⟨h1, B2, reord ix ds, r, ?_, h2, reord_rep h3 ix, h4, h5⟩
    rw [(reord_rep h3 ix).len]
    exact hn _ _ h4
end
end Dn

set_option Elab.async false
set_option linter.all false
set_option maxRecDepth 100000
set_option maxHeartbeats 2000000
namespace Dn
open PySem PySem.Spec PyProof.Rows L2

/-! ### results made fast: lists of slots frozen, new lists kept -/
def res : List R → Rho → Option (List R × Rho)
  | [], ρ => some ([], ρ)
  | .v d :: rs, ρ => match res rs ρ with
    | some (qs, ρ') => some (.v d :: qs, ρ')
    | none => none
  | .o xs :: rs, ρ => match res rs ρ with
    | some (qs, ρ') => some (.o xs :: qs, ρ')
    | none => none
  | .b i :: rs, ρ => match ρ[i]? with
    | some (some (.own false xs)) => match res rs (ρ.set i (some (.val (.list xs)))) with
      | some (qs, ρ') => some (.v (.list xs) :: qs, ρ')
      | none => none
    | some (some (.val d)) => match res rs ρ with
      | some (qs, ρ') => some (.v d :: qs, ρ')
      | none => none
    | _ => none
def fast : R → Bool
  | .b _ => false
  | _ => true
section
variable {K : PySem.W.Frag} {H H0 H' : Hp} {B : Addr → Prop} {E : Ent}
/-- a value twice -/
theorem ER.dup {d : D} {v : V} (h : ER K H B E) (r : Rep K H (AO B E) d v) : ER K H B ((some (.val d), some v) :: E) := by
  have hm : ∀ b, AO B ((some (Slot.val d), some v) :: E) b → AO B E b := fun b z => z.elim .inl fun z => (own_cons.mp z).elim (fun ⟨_, _, z⟩ => by cases z) .inr
  refine ⟨fun d' u m => ?_, fun p xs u m => ?_, List.pairwise_cons.mpr ⟨fun q _ a ⟨_, _, z⟩ => (by cases z), h.nd⟩, h.trk⟩
  · rcases List.mem_cons.mp m with m | m
    · cases m
      exact ⟨v, rfl, r.mono hm⟩
    · obtain ⟨w, e, q⟩ := h.val d' u m
      exact ⟨w, e, q.mono hm⟩
  · rcases List.mem_cons.mp m with m | m
    · cases m
    · obtain ⟨a, vs, e, hl, q, nb⟩ := h.own p xs u m
      exact ⟨a, vs, e, hl, q.mono hm, nb⟩
/-- an entry that holds nothing -/
theorem ER.blank {v : Option V} (h : ER K H B E) : ER K H B ((none, v) :: E) := by
  have hm : ∀ b, AO B (((none : Option Slot), v) :: E) b → AO B E b := fun b z => z.elim .inl fun z => (own_cons.mp z).elim (fun ⟨_, _, z⟩ => by cases z) .inr
  refine ⟨fun d' u m => ?_, fun p xs u m => ?_, List.pairwise_cons.mpr ⟨fun q _ a ⟨_, _, z⟩ => (by cases z), h.nd⟩, h.trk⟩
  · rcases List.mem_cons.mp m with m | m
    · cases m
    · obtain ⟨w, e, q⟩ := h.val d' u m
      exact ⟨w, e, q.mono hm⟩
  · rcases List.mem_cons.mp m with m | m
    · cases m
    · obtain ⟨a, vs, e, hl, q, nb⟩ := h.own p xs u m
      exact ⟨a, vs, e, hl, q.mono hm, nb⟩
end
theorem own_valcons {d : D} {v : Option V} {E : Ent} {a : Addr} (z : Own ((some (.val d), v) :: E) a) : Own E a := (own_cons.mp z).elim (fun ⟨_, _, z⟩ => by cases z) id
section
variable {K : PySem.W.Frag} {H H0 H' : Hp}
theorem res_ok {σ : St} : ∀ {B : Addr → Prop} {rs qs : List R} {vs : List V} {ρ ρ' : Rho}, ρ.length = σ.length → res rs ρ = some (qs, ρ') → ER K H B (Z ρ σ ++ tz rs vs) → rs.length = vs.length → (∀ (k i : Nat), rs[k]? = some (.b i) → ∃ v, vs[k]? = some v ∧ σ[i]? = some (some v)) →
    ER K H B (Z ρ' σ ++ tz qs vs) ∧ Lk ρ ρ' ∧ (∀ a, Own (Z ρ' σ) a → Own (Z ρ σ) a) ∧ qs.length = vs.length ∧ (qs.all fast = true) ∧ (∀ a, Own (tz qs vs) a → Own (tz rs vs) a) := by
  intro B rs
  induction rs generalizing B with
  | nil =>
    intro qs vs ρ ρ' hl e er hv bo
    simp only [res] at e
    cases e
    exact ⟨er, .refl _, fun _ z => z, hv, rfl, fun _ z => z⟩
  | cons r rs ih =>
    intro qs vs ρ ρ' hl e er hv bo
    obtain ⟨v, vs, rfl⟩ : ∃ v ws, vs = v :: ws := by
      cases vs with
      | nil => simp at hv
      | cons v ws => exact ⟨v, ws, rfl⟩
    have bo' : ∀ (k i : Nat), rs[k]? = some (.b i) → ∃ w, vs[k]? = some w ∧ σ[i]? = some (some w) := fun k i z => by
      obtain ⟨w, h1, h2⟩ := bo (k + 1) i (by simpa using z)
      exact ⟨w, by simpa using h1, h2⟩
    have hv' : rs.length = vs.length := by simpa using hv
    have er0 : ER K H B (Z ρ σ ++ ((sl r, some v) :: tz rs vs)) := er
    have erh : ER K H B (((sl r, some v) :: (Z ρ σ ++ tz rs vs))) := er0.perm List.perm_middle
    have erT : ER K H B (Z ρ σ ++ tz rs vs) := erh.sub (List.sublist_cons_self _ _)
    -- the head's own entry put aside
    have aside : ER K H (AO B [(sl r, some v)]) (Z ρ σ ++ tz rs vs) := (erh.perm (List.perm_append_comm (l₁ := [(sl r, some v)]))).aside
    cases r with
    | v d =>
      simp only [res] at e
      split at e
      · rename_i qs' ρ1 e1
        cases e
        obtain ⟨h1, h2, h3, h4, h5, h6⟩ := ih hl e1 erT hv' bo'
        obtain ⟨u, e5, rp⟩ := er0.val d _ (List.mem_append_right _ List.mem_cons_self)
        cases e5
        refine ⟨(h1.dup (rp.mono fun b z => ?_)).perm List.perm_middle.symm, h2, h3, by simp [h4], by simp [fast, h5], fun a z => ?_⟩
        · rcases z with z | z
          · exact .inl z
          · rcases own_app.mp z with z | z
            · exact .inr (own_app.mpr (.inl (h3 b z)))
            · exact .inr (own_app.mpr (.inr (own_cons.mpr (.inr (h6 b z)))))
        · exact own_cons.mpr (.inr (h6 a (own_valcons z)))
      · cases e
    | o xs =>
      simp only [res] at e
      split at e
      · rename_i qs' ρ1 e1
        cases e
        obtain ⟨h1, h2, h3, h4, h5, h6⟩ := ih (B := AO B [(sl (R.o xs), some v)]) hl e1 aside hv' bo'
        have st : Stp (Z ρ σ ++ tz rs vs) H (Z ρ' σ ++ tz qs' vs) H := stp_own fun a z => (own_app.mp z).elim (fun z => own_app.mpr (.inl (h3 a z))) fun z => own_app.mpr (.inr (h6 a z))
        have back := (erh.perm (List.perm_append_comm (l₁ := [(sl (R.o xs), some v)]))).back (F := []) st (by simpa using h1) (fun a z => absurd z own_nil)
        rw [List.append_nil, List.append_assoc] at back
        refine ⟨back.perm (List.Perm.append_left _ (List.perm_append_comm (l₂ := [(sl (R.o xs), some v)]))), h2, h3, by simp [h4], by simp [fast, h5], fun a z => ?_⟩
        rcases own_cons.mp z with z | z
        · exact own_cons.mpr (.inl z)
        · exact own_cons.mpr (.inr (h6 a z))
      · cases e
    | b i =>
      simp only [res] at e
      obtain ⟨w, ew, ei⟩ := bo 0 i (by simp)
      have ew : v = w := by simpa using ew
      subst ew
      split at e
      · rename_i xs e1
        split at e
        · rename_i qs' ρ1 e2
          cases e
          obtain ⟨er3, hO⟩ := freeze_er hl e1 erT
          have hl3 : (ρ.set i (some (.val (.list xs)))).length = σ.length := by simpa using hl
          obtain ⟨h1, h2, h3, h4, h5, h6⟩ := ih hl3 e2 er3 hv' bo'
          have mem : (some (Slot.val (.list xs)), some v) ∈ Z (ρ.set i (some (.val (.list xs)))) σ ++ tz rs vs := by
            refine List.mem_append_left _ (mem_Z (i := i) ?_ ei)
            have hi : i < ρ.length := (List.getElem?_eq_some_iff.mp e1).1
            simp [hi]
          obtain ⟨u, e5, rp⟩ := er3.val _ _ mem
          cases e5
          refine ⟨(h1.dup (rp.mono fun b z => ?_)).perm List.perm_middle.symm, ⟨by rw [h2.len]; simp, fun j ys z => h2.pin j ys ?_⟩, fun a z => hO a (h3 a z), by simp [h4], by simp [fast, h5], fun a z => own_cons.mpr (.inr (h6 a (own_valcons z)))⟩
          · rcases z with z | z
            · exact .inl z
            · rcases own_app.mp z with z | z
              · exact .inr (own_app.mpr (.inl (h3 b z)))
              · exact .inr (own_app.mpr (.inr (h6 b z)))
          · have hij : i ≠ j := fun e => by subst e; rw [e1] at z; cases z
            rw [List.getElem?_set_ne hij]; exact z
        · cases e
      · rename_i d e1
        split at e
        · rename_i qs' ρ1 e2
          cases e
          obtain ⟨h1, h2, h3, h4, h5, h6⟩ := ih hl e2 erT hv' bo'
          obtain ⟨u, e5, rp⟩ := erT.val d _ (List.mem_append_left _ (mem_Z e1 ei))
          cases e5
          refine ⟨(h1.dup (rp.mono fun b z => ?_)).perm List.perm_middle.symm, h2, h3, by simp [h4], by simp [fast, h5], fun a z => own_cons.mpr (.inr (h6 a (own_valcons z)))⟩
          rcases z with z | z
          · exact .inl z
          · rcases own_app.mp z with z | z
            · exact .inr (own_app.mpr (.inl (h3 b z)))
            · exact .inr (own_app.mpr (.inr (h6 b z)))
        · cases e
      · cases e
end

/-! ### targets -/
structure LkS (ρ ρ' : Rho) (σ σ' : St) : Prop where
  len : ρ'.length = ρ.length
  slen : σ'.length = σ.length
  pin : ∀ (i : Nat) (xs : List D), ρ[i]? = some (some (.own true xs)) → (∃ xs', ρ'[i]? = some (some (.own true xs'))) ∧ σ'[i]? = σ[i]?
theorem LkS.refl (ρ : Rho) (σ : St) : LkS ρ ρ σ σ := ⟨rfl, rfl, fun _ xs h => ⟨⟨xs, h⟩, rfl⟩⟩
theorem LkS.trans {a b c : Rho} {x y z : St} (p : LkS a b x y) (q : LkS b c y z) : LkS a c x z := ⟨q.len.trans p.len, q.slen.trans p.slen, fun i xs h => by
  obtain ⟨⟨ys, h1⟩, h2⟩ := p.pin i xs h
  obtain ⟨h3, h4⟩ := q.pin i ys h1
  exact ⟨h3, h4.trans h2⟩⟩
theorem Lk.s {a b : Rho} (p : Lk a b) (σ : St) : LkS a b σ σ := ⟨p.len, rfl, fun i xs h => ⟨p.pin i xs h, rfl⟩⟩
abbrev TGD := R → Rho → Option Rho
abbrev TGDs := List R → Rho → Option Rho
def Off (js : List Nat) (σ σ' : St) : Prop := ∀ j : Nat, j ∉ js → σ'[j]? = σ[j]?
def rdG (K : PySem.W.Frag) (js : List Nat) (g : TGD) : TG := fun v σ H Q => ∃ B ρ r ρ', ρ.length = σ.length ∧ ER K H B (Z ρ σ ++ tz [r] [v]) ∧ fast r = true ∧ g r ρ = some ρ' ∧
  ∀ σ' H', LkS ρ ρ' σ σ' → Stp (Z ρ σ ++ tz [r] [v]) H (Z ρ' σ') H' → ER K H' B (Z ρ' σ') → Off js σ σ' → Q σ' H'
def rdGs (K : PySem.W.Frag) (js : List Nat) (g : TGDs) : TGs := fun vs σ H Q => ∃ B ρ rs ρ', ρ.length = σ.length ∧ ER K H B (Z ρ σ ++ tz rs vs) ∧ rs.length = vs.length ∧ rs.all fast = true ∧ g rs ρ = some ρ' ∧
  ∀ σ' H', LkS ρ ρ' σ σ' → Stp (Z ρ σ ++ tz rs vs) H (Z ρ' σ') H' → ER K H' B (Z ρ' σ') → Off js σ σ' → Q σ' H'
def DG (X : Cx) (e : Expr) (js : List Nat) (g : TGD) : Prop := PG X e (rdG X.K js g)
def DGs (X : Cx) (es : List Expr) (js : List Nat) (g : TGDs) : Prop := PGs X es (rdGs X.K js g)
theorem pg_weak {X : Cx} {e : Expr} {t t' : TG} (h : PG X e t) (w : ∀ v σ H Q, t' v σ H Q → t v σ H Q) : PG X e t' := ⟨fun pins s σ H v u Q I r q => h.run pins s σ H v u Q I r (w v σ H Q q)⟩
theorem pgs_weak {X : Cx} {e : List Expr} {t t' : TGs} (h : PGs X e t) (w : ∀ v σ H Q, t' v σ H Q → t v σ H Q) : PGs X e t' := ⟨fun pins s σ H v u Q I r q => h.run pins s σ H v u Q I r (w v σ H Q q)⟩
def gNo : TGD := fun _ _ => none
theorem dg_no {X : Cx} {e : Expr} {js : List Nat} : DG X e js gNo := ⟨fun _ _ _ _ _ _ _ _ _ ⟨_, _, _, _, _, _, _, h, _⟩ => by cases h⟩
def isPin : Option (Option Slot) → Bool
  | some (some (.own true _)) => true
  | _ => false
/-- a name -/
def tName (i : Nat) : TGD := fun r ρ => if isPin ρ[i]? || !decide (i < ρ.length) then none else match r with
  | .v d => some (ρ.set i (some (.val d)))
  | .o xs => some (ρ.set i (some (.own false xs)))
  | .b _ => none
theorem tName_some {i : Nat} {r : R} {ρ ρ' : Rho} (h : tName i r ρ = some ρ') : isPin ρ[i]? = false ∧ i < ρ.length ∧ ρ' = ρ.set i (sl r) := by
  unfold tName at h
  split at h
  · cases h
  · rename_i hp
    simp only [Bool.not_eq_true, Bool.or_eq_false_iff, Bool.not_eq_false', decide_eq_true_eq] at hp
    cases r with
    | v d => cases h; exact ⟨hp.1, hp.2, rfl⟩
    | o xs => cases h; exact ⟨hp.1, hp.2, rfl⟩
    | b j => cases h
section
variable {K : PySem.W.Frag} {H : Hp} {B : Addr → Prop}
theorem put_er {ρ : Rho} {σ : St} {i : Nat} {s : Option Slot} {v : V} {T : Ent} (hl : ρ.length = σ.length) (hi : i < ρ.length) (er : ER K H B (Z ρ σ ++ ((s, some v) :: T))) :
    ER K H B (Z (ρ.set i s) (σ.set i (some v)) ++ T) ∧ ∀ a, Own (Z (ρ.set i s) (σ.set i (some v)) ++ T) a → Own (Z ρ σ ++ ((s, some v) :: T)) a := by
  have hi2 : i < σ.length := by omega
  obtain ⟨x, gx⟩ : ∃ x, (Z ρ σ)[i]? = some x := ⟨_, List.getElem?_eq_getElem (by simp [Z, List.length_zip]; omega)⟩
  have p := set_perm (y := (s, some v)) gx
  rw [Z_set2 hi2 hl]
  have sub : ((s, some v) :: (Z ρ σ).eraseIdx i ++ T).Sublist ((s, some v) :: (x :: (Z ρ σ).eraseIdx i) ++ T) := by
    refine List.Sublist.append_right ?_ _
    exact List.Sublist.cons_cons _ (List.sublist_cons_self _ _)
  have perm1 : (Z ρ σ ++ ((s, some v) :: T)).Perm ((s, some v) :: (x :: (Z ρ σ).eraseIdx i) ++ T) := by
    refine List.perm_middle.trans ?_
    exact List.Perm.cons _ (List.Perm.append_right T p.2)
  have perm2 : ((Z ρ σ).set i (s, some v) ++ T).Perm ((s, some v) :: (Z ρ σ).eraseIdx i ++ T) := List.Perm.append_right T p.1
  refine ⟨((er.perm perm1).sub sub).perm perm2.symm, fun a z => ?_⟩
  obtain ⟨b, xs, m⟩ := (own_perm perm2).mp z
  exact (own_perm perm1).mpr ⟨b, xs, sub.mem m⟩
end
theorem lks_put {ρ : Rho} {σ : St} {i : Nat} {s : Option Slot} {v : Option V} (hp : isPin ρ[i]? = false) : LkS ρ (ρ.set i s) σ (σ.set i v) := by
  refine ⟨by simp, by simp, fun j xs h => ?_⟩
  have hij : i ≠ j := fun e => by subst e; rw [h] at hp; cases hp
  exact ⟨⟨xs, by rw [List.getElem?_set_ne hij]; exact h⟩, by rw [List.getElem?_set_ne hij]⟩
section
variable {X : Cx} {pos : Pos}
theorem dg_name {i : Nat} {x : Str} (hN : X.N.Nodup) (hi : X.N[i]? = some x) (hx : Loc X.env.scope x) (hf : X.fn x = true ∨ X.env.scope.names.lookup x = some .local) : DG X (.Name x pos) [i] (tName i) := by
  refine pg_weak (pg_name hN hi hx hf) fun v σ H Q q => ?_
  obtain ⟨B, ρ, r, ρ', hl, er, hfa, e, k⟩ := q
  obtain ⟨h1, h2, h3⟩ := tName_some e
  subst h3
  have er : ER X.K H B (Z ρ σ ++ ((sl r, some v) :: [])) := er
  obtain ⟨e1, e2⟩ := put_er hl h2 er
  rw [List.append_nil] at e1 e2
  exact k _ H (lks_put h1) (stp_own e2) e1 fun j hj => List.getElem?_set_ne fun z => hj (by simp [z])
def gsNil : TGDs := fun rs ρ => match rs with
  | [] => some ρ
  | _ => none
def gsCons (g : TGD) (gs : TGDs) : TGDs := fun rs ρ => match rs with
  | r :: rs => match g r ρ with
    | some ρ1 => gs rs ρ1
    | none => none
  | [] => none
theorem dgs_nil : DGs X [] [] gsNil := by
  refine pgs_weak pgs_nil fun v σ H Q q => ?_
  obtain ⟨B, ρ, rs, ρ', hl, er, hlen, hfa, e, k⟩ := q
  unfold gsNil at e
  split at e
  · cases e
    have : v = [] := List.length_eq_zero_iff.mp hlen.symm
    subst this
    have er : ER X.K H B (Z ρ σ) := er.left
    exact ⟨rfl, k σ H (.refl _ _) (stp_own fun a z => own_app.mpr (.inl z)) er fun _ _ => rfl⟩
  · cases e
theorem gcons_read {K : PySem.W.Frag} {g : TGD} {gs : TGDs} {js ks : List Nat} {vs : List V} {σ : St} {H : Hp} {Q : St → Hp → Prop} (q : rdGs K (js ++ ks) (gsCons g gs) vs σ H Q) : gCons (rdG K js g) (rdGs K ks gs) vs σ H Q := by
  obtain ⟨B, ρ, rs, ρ', hl, er, hlen, hfa, e, k⟩ := q
  unfold gsCons at e
  split at e
  · rename_i r rs
    split at e
    · rename_i ρ1 e1
      obtain ⟨v, vs, rfl⟩ : ∃ v ws, vs = v :: ws := by
        cases vs with
        | nil => simp at hlen
        | cons v ws => exact ⟨v, ws, rfl⟩
      have er0 : ER K H B ((Z ρ σ ++ tz [r] [v]) ++ tz rs vs) := by rw [List.append_assoc]; exact er
      have hfa' : fast r = true ∧ rs.all fast = true := by simpa using hfa
      refine ⟨v, vs, rfl, AO B (tz rs vs), ρ, r, ρ1, hl, er0.aside, hfa'.1, e1, fun σ1 H1 lk st er1 of1 => ?_⟩
      have er2 := er0.back (F := []) st (by simpa using er1) (fun a z => absurd z own_nil)
      rw [List.append_nil] at er2
      have st2 := stp_app (F := []) er0 st (by simpa using er1) (fun a z => absurd z own_nil)
      rw [List.append_nil, List.append_assoc] at st2
      refine ⟨B, ρ1, rs, ρ', (lk.len.trans hl).trans lk.slen.symm, er2, by simpa using hlen, hfa'.2, e, fun σ2 H2 lk2 st3 er3 of2 => ?_⟩
      exact k σ2 H2 (lk.trans lk2) (st2.trans st3) er3 fun j hj => by
        rw [List.mem_append, not_or] at hj
        exact (of2 j hj.2).trans (of1 j hj.1)
    · cases e
  · cases e
theorem dgs_cons {e : Expr} {es : List Expr} {g : TGD} {gs : TGDs} {js ks : List Nat} (h : DG X e js g) (hs : DGs X es ks gs) (he : (assignEach (e :: es) X.env).map (·.2) = assign e X.env :: (assignEach es X.env).map (·.2)) : DGs X (e :: es) (js ++ ks) (gsCons g gs) :=
  pgs_weak (pgs_cons h hs he) fun _ _ _ _ q => gcons_read q
/-- (a, b, ..) = a tuple -/
def gTupD (n : Nat) (gs : TGDs) : TGD := fun r ρ => match r with
  | .v (.tuple ds) => if ds.length = n then gs (ds.map .v) ρ else none
  | _ => none
theorem tz_vals {K : PySem.W.Frag} {H : Hp} {B : Addr → Prop} {E : Ent} : ∀ {ds : List D} {vs : List V}, ER K H B E → RepA K H (AO B E) ds vs → ER K H B (E ++ tz (ds.map .v) vs) ∧ ∀ a, ¬ Own (tz (ds.map R.v) vs) a
  | [], vs, er, r => by
    have : vs = [] := by unfold RepA at r; exact r
    subst this
    exact ⟨by simpa [tz] using er, fun a z => own_nil z⟩
  | d :: ds, vs, er, r => by
    unfold RepA at r
    obtain ⟨v, ws, rfl, h1, h2⟩ := r
    obtain ⟨q1, q2⟩ := tz_vals er h2
    refine ⟨(q1.dup (h1.mono fun b z => z.elim .inl fun z => (own_app.mp z).elim .inr fun z => (q2 b z).elim)).perm List.perm_middle.symm, fun a z => q2 a (own_valcons z)⟩
theorem dg_tup {es : List Expr} {k n : Nat} {gs : TGDs} {js : List Nat} (hc : X.calm = true) (h : DGs X es js gs) (hn : (assignEach es X.env).length = n) (hst : (assignEach es X.env).findIdx? (·.1) = none) : DG X (.Tuple es k pos) js (gTupD n gs) := by
  refine pg_weak (pg_tup hc h hn hst) fun v σ H Q q => ?_
  obtain ⟨B, ρ, r, ρ', hl, er, hfa, e, kk⟩ := q
  unfold gTupD at e
  split at e
  · rename_i ds
    split at e
    · rename_i hlen
      have er0 := er.left
      obtain ⟨u, eu, rp⟩ := er.val (.tuple ds) _ (List.mem_append_right _ List.mem_cons_self)
      cases eu
      unfold Rep at rp
      obtain ⟨a, xs, rfl, hs, rp⟩ := rp
      obtain ⟨q1, q2⟩ := tz_vals er0 (rp.mono fun b z => z.elim .inl fun z => .inr (own_app.mpr (.inl z)))
      refine ⟨a, xs, rfl, hs, by rw [rp.len]; exact hlen, B, ρ, ds.map .v, ρ', hl, q1, by simp [rp.len], ?_, e, fun σ' H' lk st er' off => kk σ' H' lk ?_ er' off⟩
      · simp [List.all_eq_true, fast]
      · refine ⟨fun b o q nb => st.keep b o q fun z => nb ?_, fun b t z => ?_, st.trk⟩
        · exact (own_app.mp z).elim (fun z => own_app.mpr (.inl z)) fun z => (q2 b z).elim
        · exact (own_app.mp (st.own b t z)).elim (fun z => own_app.mpr (.inl z)) fun z => (q2 b z).elim
    · cases e
  · cases e
end
/-! ### a list is changed in its slot -/
section
variable {K : PySem.W.Frag} {H : Hp} {B : Addr → Prop}
theorem er_mut {E : Ent} {p : Bool} {xs xs' : List D} {a : Addr} {us' : List V} (er : ER K H B ((some (.own p xs), some (.ref a)) :: E)) (hx : RepA K H (AO B ((some (.own p xs), some (.ref a)) :: E)) xs' us') :
    ER K (upd H a (.lst us')) B ((some (.own p xs'), some (.ref a)) :: E) := by
  have oa : Own ((some (.own p xs), some (.ref a)) :: E) a := own_cons.mpr (.inl ⟨p, xs, rfl⟩)
  have hH : ∀ b o, H b = some o → b ≠ a → (upd H a (.lst us')) b = some o := fun b o q n => by rw [upd_ne n]; exact q
  have hx' : RepA K (upd H a (.lst us')) (fun b => AO B ((some (.own p xs), some (.ref a)) :: E) b ∨ frO (.v .none) .non b) xs' us' :=
    hx.stp (W := fun b => b = a) hH (fun b z => by subst z; exact ⟨.inr oa, er.lst oa⟩) fun b _ z => z.elim id fun ⟨⟨_, z⟩, _⟩ => by cases z
  have := (er_callV (r := .v .none) (w := .non) er hH upd_same hx' (rep_non (K := K) (H := upd H a (.lst us')) (A := AO B ((some (.own p xs), some (.ref a)) :: E)))).1
  exact this.sub (List.sublist_append_left _ _)
theorem mut_slot {ρ : Rho} {σ : St} {i : Nat} {p : Bool} {xs xs' : List D} {a : Addr} {us' : List V} (hl : ρ.length = σ.length) (e : ρ[i]? = some (some (.own p xs))) (ei : σ[i]? = some (some (.ref a))) (er : ER K H B (Z ρ σ)) (hx : RepA K H (AO B (Z ρ σ)) xs' us') :
    ER K (upd H a (.lst us')) B (Z (ρ.set i (some (.own p xs'))) σ) ∧ Stp (Z ρ σ) H (Z (ρ.set i (some (.own p xs'))) σ) (upd H a (.lst us')) ∧ Lk ρ (ρ.set i (some (.own p xs'))) := by
  have g : (Z ρ σ)[i]? = some (some (.own p xs), some (.ref a)) := by simp [Z, List.getElem?_zip_eq_some, e, ei]
  have hset := set_perm (y := (some (Slot.own p xs'), some (V.ref a))) g
  have hao : ∀ b, AO B ((some (Slot.own p xs), some (V.ref a)) :: (Z ρ σ).eraseIdx i) b → AO B (Z ρ σ) b := fun b z => z.elim .inl fun z => .inr ((own_perm hset.2).mpr z)
  have oa : Own (Z ρ σ) a := ⟨p, xs, List.mem_of_getElem? g⟩
  have hi : i < ρ.length := (List.getElem?_eq_some_iff.mp e).1
  rw [Z_set ei hl]
  refine ⟨(er_mut (er.perm hset.2) (hx.mono hao)).perm hset.1.symm, ⟨fun b o q nb => ?_, fun b t z => ?_, fun b t => ?_⟩, ⟨by simp, fun j ys z => ?_⟩⟩
  · rw [upd_ne (fun z => nb (by subst z; exact oa))]; exact q
  · rcases own_cons.mp ((own_perm hset.1).mp z) with ⟨_, _, z⟩ | z
    · cases z; exact oa
    · exact (own_perm hset.2).mpr (own_cons.mpr (.inr z))
  · by_cases hb : b = a
    · subst hb; rw [upd_same]; simp
    · rw [upd_ne hb]; exact t
  · by_cases hj : i = j
    · subst hj
      rw [e] at z; cases z
      exact ⟨xs', by simp [hi]⟩
    · exact ⟨ys, by rw [List.getElem?_set_ne hj]; exact z⟩
end
/-- the value that r is, frozen -/
def valOf : R → Option D
  | .v d => some d
  | .o xs => some (.list xs)
  | .b _ => none
def ownAt (ρ : Rho) (i : Nat) : Option (Bool × List D) := match ρ[i]? with
  | some (some (.own p xs)) => some (p, xs)
  | _ => none
theorem ownAt_some {ρ : Rho} {i : Nat} {p : Bool} {xs : List D} (h : ownAt ρ i = some (p, xs)) : ρ[i]? = some (some (.own p xs)) := by
  unfold ownAt at h
  split at h
  · rename_i q ys e
    cases h
    exact e
  · cases h
/-- a fast result's temporary as a plain value -/
theorem loose_tmp {K : PySem.W.Frag} {H : Hp} {B : Addr → Prop} {E : Ent} {r : R} {d : D} {v : V} (h : ER K H B (E ++ tz [r] [v])) (e : valOf r = some d) : ER K H B (E ++ [(some (.val d), some v)]) := by
  cases r with
  | v d0 =>
    have : d0 = d := by simpa [valOf] using e
    subst this
    exact h
  | o xs =>
    have : PyData.list xs = d := by simpa [valOf] using e
    subst this
    have h1 : ER K H B ((some (.own false xs), some v) :: E) := h.perm (List.perm_append_comm (l₂ := [(some (Slot.own false xs), some v)]))
    exact h1.loose.perm (List.perm_append_comm (l₁ := [(some (Slot.val (.list xs)), some v)]))
  | b j => cases e
/-- xs[i] = .., xs a name that owns a list -/
def tSub (i : Nat) (t : TD) : TGD := fun r ρ => match valOf r with
  | some d => match ownAt ρ i with
    | some _ => match t ρ with
      | some (ri, ρ1) => match asI ri with
        | some j => match ownAt ρ1 i with
          | some (p, xs) => match ixN xs.length j with
            | some k => some (ρ1.set i (some (.own p (xs.set k d))))
            | none => none
          | none => none
        | none => none
      | none => none
    | none => none
  | none => none
theorem tSub_some {i : Nat} {t : TD} {r : R} {ρ ρ' : Rho} (h : tSub i t r ρ = some ρ') : ∃ d q j ρ1 p xs k, valOf r = some d ∧ ownAt ρ i = some q ∧ t ρ = some (.v (.int j), ρ1) ∧ ownAt ρ1 i = some (p, xs) ∧ ixN xs.length j = some k ∧ ρ' = ρ1.set i (some (.own p (xs.set k d))) := by
  unfold tSub at h
  split at h
  · rename_i d e0
    split at h
    · rename_i q eq
      split at h
      · rename_i ri ρ1 e1
        split at h
        · rename_i j ej
          obtain rfl := asI_some ej
          split at h
          · rename_i p xs e2
            split at h
            · rename_i k ek
              cases h
              exact ⟨d, q, j, ρ1, p, xs, k, e0, eq, e1, e2, ek, rfl⟩
            · cases h
          · cases h
        · cases h
      · cases h
    · cases h
  · cases h
section
variable {X : Cx} {pos : Pos}
theorem dg_sub {o ix : Expr} {i : Nat} {t : TD} (ho : PE X o (tVar i)) (hi : DE X ix t) (ha : ∀ v, assign (.Subscript o ix pos) X.env v = (do
      let ov ← holding [v] (eval o X.env)
      let iv ← holding [v, ov] (eval ix X.env)
      standAt pos
      holding [v, ov, iv] (setItem ov iv v)
      release [v, ov, iv] [])) : DG X (.Subscript o ix pos) [] (tSub i t) := by
  refine pg_weak (pg_sub ho hi set_list ha) fun v σ H Q q => ?_
  obtain ⟨B, ρ, r, ρ', hl, er, hfa, e, k⟩ := q
  obtain ⟨d, q, j, ρ1, p, xs, kk, e0, eq, e1, e2, e3, e4⟩ := tSub_some e
  subst e4
  have eq := ownAt_some eq
  have e2 := ownAt_some e2
  obtain ⟨w, hw, mw⟩ := zget hl eq
  obtain ⟨a, us0, ea, _⟩ := er.own _ _ _ (List.mem_append_left _ mw)
  subst ea
  have hno : ∀ b, ¬ Own [(some (Slot.val d), some v)] b := fun b z => own_nil (own_valcons z)
  have er1 := loose_tmp er e0
  refine ⟨.ref a, hw, AO B [(some (.val d), some v)], ρ, _, ρ1, hl, er1.aside, e1, fun vi H1 lk st rr => ?_⟩
  have hl1 : ρ1.length = σ.length := lk.len.trans hl
  have er2 := er1.back st rr.er rr.fr
  obtain ⟨a2, us, ea, hus, rus, nb⟩ := er2.own _ _ _ (List.mem_append_left _ (mem_Z e2 hw))
  cases ea
  obtain ⟨u, eu, rd'⟩ := er2.val d _ (List.mem_append_right _ List.mem_cons_self)
  cases eu
  have hm : ∀ b, AO B (Z ρ1 σ) b → AO B (Z ρ1 σ ++ ([(some (.val d), some v)] ++ tz [.v (.int j)] [vi])) b := fun b z => z.elim .inl fun z => .inr (own_app.mpr (.inl z))
  obtain ⟨m1, m2, m3⟩ := mut_slot hl1 e2 hw er2.left ((rus.mono hm).setAt kk (rd'.mono hm))
  refine ⟨a, us, j, kk, rfl, rr.int, hus, by rw [rus.len]; exact e3, ?_⟩
  refine k σ _ ((lk.trans m3).s σ) ?_ m1 fun _ _ => rfl
  have st2 : Stp (Z ρ σ) H (Z (ρ1.set i (some (.own p (xs.set kk d)))) σ) (upd H1 a (.lst (us.set kk v))) := st.trans m2
  refine ⟨fun b o q nb' => st2.keep b o q fun z => nb' (own_app.mpr (.inl z)), fun b t z => own_app.mpr (.inl (st2.own b t z)), st2.trk⟩
end
end Dn

set_option Elab.async false
set_option linter.all false
set_option maxRecDepth 100000
set_option maxHeartbeats 2000000
namespace Dn
open PySem PySem.Spec PyProof.Rows L2 RZ

/-! ### what is walked -/
abbrev TSr := Rho → Option (List D × Rho)
/-- all that was tracked and not owned stands -/
def Stay (ρ : Rho) (σ : St) (H : Hp) : Hp → Prop := fun H' => ∀ b o, H b = some o → ¬ Own (Z ρ σ) b → H' b = some o
def SrcOk (K : PySem.W.Frag) (ρ : Rho) (σ : St) (H : Hp) (B : Addr → Prop) (J : It) (its : List D) : Prop := ∃ Y, Walk J its.length (Stay ρ σ H) Y ∧
  ∀ i H1 x H2, i < its.length → Stay ρ σ H H1 → Y i H1 x H2 → Same H1 H2 ∧ ∃ d, its[i]? = some d ∧ ∀ A' : Addr → Prop, (∀ b, H b ≠ none → A' b → AO B (Z ρ σ) b) → Rep K H2 A' d x
def rdI (K : PySem.W.Frag) (ts : TSr) : TI := fun σ H R => ∃ B ρ its ρ', ρ.length = σ.length ∧ ER K H B (Z ρ σ) ∧ ts ρ = some (its, ρ') ∧
  ∀ J H1, Lk ρ ρ' → Stp (Z ρ σ) H (Z ρ' σ) H1 → ER K H1 B (Z ρ' σ) → SrcOk K ρ' σ H1 B J its → R J H1
def DI (X : Cx) (tg e : Expr) (ts : TSr) : Prop := PI X tg e (rdI X.K ts)
theorem pi_weak {X : Cx} {tg e : Expr} {t t' : TI} (h : PI X tg e t) (w : ∀ σ H R, t' σ H R → t σ H R) : PI X tg e t' := ⟨fun pins s σ H R I q => h.run pins s σ H R I (w σ H R q)⟩
def sNo : TSr := fun _ => none
theorem di_no {X : Cx} {tg e : Expr} : DI X tg e sNo := ⟨fun _ _ _ _ _ _ ⟨_, _, _, _, _, _, h, _⟩ => by cases h⟩
/-- a list or a tuple -/
def iSeq (K : PySem.W.Frag) (tl : TE) : TI := fun σ H R => tl σ H fun x H1 => ∃ a, x = .ref a ∧ ((∃ xs, SqL K H1 a xs ∧ R (Itl K a) H1) ∨ ∃ xs, SqT K H1 a xs ∧ R (Itt K a) H1)
section
variable {X : Cx} {tg l : Expr}
theorem pi_seq {tl : TE} (hl : PE X l tl) : PI X tg l (iSeq X.K tl) := by
  constructor
  intro pins s σ H R I h
  refine thn (hl.run pins s σ H _ I h) fun v s1 ⟨x, H1, I1, r1, a, e, q1⟩ => ?_
  subst e
  obtain rfl : v = Value.ref a := r1
  have fp : ∀ b ∈ [s1.heap.objs.size], FpOk X pins H1 b := fun b hb => by
    obtain rfl := List.mem_singleton.mp hb
    exact I1.fpOk (Nat.le_refl _) (I1.hok.fresh (Nat.le_refl _))
  rcases q1 with ⟨xs, hq, q⟩ | ⟨xs, hq, q⟩
  · obtain ⟨its, rv, p, hz⟩ := I1.list hq
    have k : ∀ {o : Obj} b u, s1.heap.get? b = some u → (s1.heap.push o).get? b = some u := fun b u e => Heap.get?_push_of_some _ e
    exact wpAny_pyIter_list p.isList ⟨_, _, _, _, H1, rfl, I1.kept (t' := s1.toks) k, turn_list a _, ⟨_, Heap.get?_push_size _ rfl, rfl, rfl⟩, fp, q⟩
  · obtain ⟨its, rv, p, hz⟩ := I1.tuple hq
    have k : ∀ {o : Obj} b u, s1.heap.get? b = some u → (s1.heap.push o).get? b = some u := fun b u e => Heap.get?_push_of_some _ e
    exact wpAny_pyIter_tuple (show s1.heap.IsTuple a its.toArray from p) ⟨_, _, _, _, H1, rfl, I1.kept (t' := s1.toks) k, turn_tuple a _, ⟨_, Heap.get?_push_size _ rfl, rfl, rfl⟩, fp, q⟩
end
/-- a value's items -/
def itemsOf : D → Option (List D)
  | .list ds => some ds
  | .tuple ds => some ds
  | _ => none
def sSeq (t : TD) : TSr := fun ρ => match t ρ with
  | some (r, ρ1) => match frz [r] ρ1 with
    | some ([d], ρ2) => match itemsOf d with
      | some ds => some (ds, ρ2)
      | none => none
    | _ => none
  | none => none
section
variable {K : PySem.W.Frag} {H H1 H2 : Hp} {B : Addr → Prop} {ρ : Rho} {σ : St}
theorem stay_rep {d : D} {v : V} (er : ER K H B (Z ρ σ)) (r : Rep K H (AO B (Z ρ σ)) d v) (st : Stay ρ σ H H1) (sm : Same H1 H2) : ∀ A' : Addr → Prop, (∀ b, H b ≠ none → A' b → AO B (Z ρ σ) b) → Rep K H2 A' d v := fun A' hA =>
  r.stp (W := Own (Z ρ σ)) (fun b o q n => sm b o (st b o q n)) (fun b z => ⟨.inr z, er.lst z⟩) hA
theorem stay_seqL {a : Addr} {xs : List V} (er : ER K H B (Z ρ σ)) (hr : LA K H (AO B (Z ρ σ)) a xs) (st : Stay ρ σ H H1) : SqL K H1 a xs := by
  rcases hr with ⟨nA, hr | ⟨o, hr⟩⟩ | hr
  · exact .inl (.inl (st _ _ hr fun z => nA (.inr z)))
  · exact .inl (.inr ⟨o, st _ _ hr fun z => nA (.inr z)⟩)
  · exact LV.sq (H := H1) (.inr hr)
theorem stay_seqT {a : Addr} {xs : List V} (er : ER K H B (Z ρ σ)) (hr : SqT K H a xs) (st : Stay ρ σ H H1) : SqT K H1 a xs := by
  have no : ∀ {o : HO}, H a = some o → (∀ ys, o ≠ .lst ys) → ¬ Own (Z ρ σ) a := fun {o} h n z => by
    obtain ⟨ys, q⟩ := er.lst z
    rw [h] at q; cases q
    exact n _ rfl
  rcases hr with (hr | ⟨o, hr⟩) | hr
  · exact .inl (.inl (st _ _ hr (no hr fun _ z => by cases z)))
  · exact .inl (.inr ⟨o, st _ _ hr (no hr fun _ z => by cases z)⟩)
  · exact .inr hr
theorem src_list {a : Addr} {xs : List V} {ds : List D} (er : ER K H B (Z ρ σ)) (hr : LA K H (AO B (Z ρ σ)) a xs) (rp : RepA K H (AO B (Z ρ σ)) ds xs) : SrcOk K ρ σ H B (Itl K a) ds := by
  refine ⟨YAt xs, ?_, fun i H1 x H2 hi st y => ?_⟩
  · rw [← rp.len]
    exact walk_list.mono (fun H1 st => stay_seqL er hr st) fun _ _ _ _ _ _ y => y
  · obtain ⟨rfl, y⟩ := y
    obtain ⟨d, e, r⟩ := rp.get' y
    exact ⟨.refl _, d, e, stay_rep er r st (.refl _)⟩
theorem src_tup {a : Addr} {xs : List V} {ds : List D} (er : ER K H B (Z ρ σ)) (hr : SqT K H a xs) (rp : RepA K H (AO B (Z ρ σ)) ds xs) : SrcOk K ρ σ H B (Itt K a) ds := by
  refine ⟨YAt xs, ?_, fun i H1 x H2 hi st y => ?_⟩
  · rw [← rp.len]
    exact walk_tup.mono (fun H1 st => stay_seqT er hr st) fun _ _ _ _ _ _ y => y
  · obtain ⟨rfl, y⟩ := y
    obtain ⟨d, e, r⟩ := rp.get' y
    exact ⟨.refl _, d, e, stay_rep er r st (.refl _)⟩
end
section
variable {X : Cx} {tg l e e2 : Expr} {t t2 ta tb : TD} {p pos tpos : Pos}
theorem frz1 {r : R} {ρ ρ' : Rho} {ds : List D} (h : frz [r] ρ = some (ds, ρ')) : ∃ d, ds = [d] := by
  cases r with
  | v d => simp only [frz] at h; cases h; exact ⟨_, rfl⟩
  | o xs => simp only [frz] at h; cases h; exact ⟨_, rfl⟩
  | b i =>
    simp only [frz] at h
    split at h <;> first | (cases h; exact ⟨_, rfl⟩) | cases h
theorem RepA.one {K : PySem.W.Frag} {H : Hp} {A : Addr → Prop} {d : D} {v : V} (h : RepA K H A [d] [v]) : Rep K H A d v := by
  unfold RepA at h
  obtain ⟨x, r, e, h1, _⟩ := h
  cases e
  exact h1
theorem di_seq (h : DE X l t) : DI X tg l (sSeq t) := by
  refine pi_weak (pi_seq h) fun σ H R q => ?_
  obtain ⟨B, ρ, its, ρ', hl, er, e, k⟩ := q
  unfold sSeq at e
  split at e
  · rename_i r ρ1 e1
    split at e
    · rename_i d ρ2 e2
      split at e
      · rename_i ds e3
        cases e
        refine ⟨B, ρ, r, ρ1, hl, er, e1, fun v H1 lk st rr => ?_⟩
        obtain ⟨h1, h2, h3, h4⟩ := frz_ok (lk.len.trans hl) e2 rr
        have rp := h2.one
        have st2 : Stp (Z ρ σ) H (Z ρ' σ) H1 := st.trans (stp_own h4)
        cases d with
        | list ds' =>
          simp only [itemsOf] at e3; cases e3
          unfold Rep at rp
          obtain ⟨a, xs, ea, hr, rp⟩ := rp
          exact ⟨a, ea, .inl ⟨xs, hr.lv.sq, k _ H1 (lk.trans h3) st2 h1 (src_list h1 hr rp)⟩⟩
        | tuple ds' =>
          simp only [itemsOf] at e3; cases e3
          unfold Rep at rp
          obtain ⟨a, xs, ea, hr, rp⟩ := rp
          exact ⟨a, ea, .inr ⟨xs, hr, k _ H1 (lk.trans h3) st2 h1 (src_tup h1 hr rp)⟩⟩
        | none => simp [itemsOf] at e3
        | bool _ => simp [itemsOf] at e3
        | int _ => simp [itemsOf] at e3
        | str _ => simp [itemsOf] at e3
        | dict _ => simp [itemsOf] at e3
      · cases e
    · cases e
  · cases e
/-- range -/
def sRg1 (t : TD) : TSr := fun ρ => match t ρ with
  | some (r, ρ1) => match asI r with
    | some j => if rgOk 0 j then some (rgD 0 j, ρ1) else none
    | none => none
  | none => none
theorem rgD_len (a b : Int) : (rgD a b).length = (b - a).toNat := by unfold rgD; rw [List.length_map, List.length_range]
theorem rgD_get {a b : Int} {i : Nat} (h : i < (b - a).toNat) : (rgD a b)[i]? = some (.int (a + (i : Nat))) := by
  unfold rgD
  rw [List.getElem?_map, List.getElem?_range h]; rfl
theorem src_rg {K : PySem.W.Frag} {H : Hp} {B : Addr → Prop} {ρ : Rho} {σ : St} (a b : Int) : SrcOk K ρ σ H B (Itr a (b - a).toNat) (rgD a b) := by
  refine ⟨YFn fun i => .int (a + i), ?_, fun i H1 x H2 hi st y => ?_⟩
  · rw [rgD_len]
    exact walk_range.mono (fun _ _ => trivial) fun _ _ _ _ _ _ y => y
  · obtain ⟨rfl, rfl⟩ := y
    rw [rgD_len] at hi
    exact ⟨.refl _, _, rgD_get hi, fun _ _ => rep_int⟩
theorem di_rg1 (hg : Gl X "range") (hm : X.mg "range" = none) (h : DE X e t) (hs : starEach [e] X.env = [(false, eval e X.env)]) : DI X tg (.Call (.Name "range" p) [e] [] pos) (sRg1 t) := by
  refine pi_weak (pi_range1 hg hm (pa_cons h pa_nil hs) hs) fun σ H R q => ?_
  obtain ⟨B, ρ, its, ρ', hl, er, e, k⟩ := q
  unfold sRg1 at e
  split at e
  · rename_i r ρ1 e1
    split at e
    · rename_i j e2
      obtain rfl := asI_some e2
      split at e
      · rename_i ok
        cases e
        refine ⟨B, ρ, _, ρ', hl, er, e1, fun v H1 lk st rr => ?_⟩
        obtain ⟨o1, o2, o3, o4, o5⟩ := rgOk_ok ok
        refine ⟨j, by rw [rr.int], o3, o4, ?_⟩
        have := k (Itr 0 (j - 0).toNat) H1 lk st rr.er.left (src_rg 0 j)
        simpa using this
      · cases e
    · cases e
  · cases e
def sRg2 (t u : TD) : TSr := fun ρ => match t ρ with
  | some (r, ρ1) => match asI r with
    | some i => match u ρ1 with
      | some (r2, ρ2) => match asI r2 with
        | some j => if rgOk i j then some (rgD i j, ρ2) else none
        | none => none
      | none => none
    | none => none
  | none => none
theorem di_rg2 (hg : Gl X "range") (hm : X.mg "range" = none) (h : DE X e t) (h2 : DE X e2 t2) (hs : starEach [e, e2] X.env = [(false, eval e X.env), (false, eval e2 X.env)]) (hs2 : starEach [e2] X.env = [(false, eval e2 X.env)]) :
    DI X tg (.Call (.Name "range" p) [e, e2] [] pos) (sRg2 t t2) := by
  refine pi_weak (pi_range2 hg hm (pa_cons h (pa_cons h2 pa_nil hs2) (by simp only [hs, hs2])) hs hs2) fun σ H R q => ?_
  obtain ⟨B, ρ, its, ρ', hl, er, e, k⟩ := q
  unfold sRg2 at e
  split at e
  · rename_i r ρ1 e1
    split at e
    · rename_i i ei
      obtain rfl := asI_some ei
      split at e
      · rename_i r2 ρ2 e2
        split at e
        · rename_i j ej
          obtain rfl := asI_some ej
          split at e
          · rename_i ok
            cases e
            refine ⟨B, ρ, _, ρ1, hl, er, e1, fun v H1 lk st rr => ⟨B, ρ1, _, ρ', lk.len.trans hl, rr.er.left, e2, fun u H2 lk2 st2 rr2 => ?_⟩⟩
            obtain ⟨o1, o2, o3, o4, o5⟩ := rgOk_ok ok
            refine ⟨i, j, by rw [rr.int, rr2.int], ⟨o1, o2, o3, o4⟩, ?_⟩
            exact k _ H2 (lk.trans lk2) (st.trans st2) rr2.er.left (src_rg i j)
          · cases e
        · cases e
      · cases e
    · cases e
  · cases e
/-- zip of two lists, or of two tuples -/
def zipD : List D → List D → List D
  | a :: as, b :: bs => .tuple [a, b] :: zipD as bs
  | _, _ => []
theorem zipD_len : ∀ as bs : List D, (zipD as bs).length = min as.length bs.length
  | [], _ => by simp [zipD]
  | _ :: _, [] => by simp [zipD]
  | a :: as, b :: bs => by simp [zipD, zipD_len as bs]
theorem zipD_get : ∀ {as bs : List D} {i : Nat} {a b : D}, as[i]? = some a → bs[i]? = some b → (zipD as bs)[i]? = some (.tuple [a, b])
  | [], _, _, _, _, h, _ => by simp at h
  | _ :: _, [], _, _, _, _, h => by simp at h
  | x :: as, y :: bs, 0, a, b, h1, h2 => by simp at h1 h2; subst h1 h2; simp [zipD]
  | x :: as, y :: bs, i + 1, a, b, h1, h2 => by simpa [zipD] using zipD_get (as := as) (bs := bs) (i := i) (by simpa using h1) (by simpa using h2)
def sZip (t u : TD) : TSr := fun ρ => match t ρ with
  | some (r, ρ1) => match u ρ1 with
    | some (r2, ρ2) => match frz [r, r2] ρ2 with
      | some ([.list as, .list bs], ρ3) => some (zipD as bs, ρ3)
      | some ([.tuple as, .tuple bs], ρ3) => some (zipD as bs, ρ3)
      | _ => none
    | none => none
  | none => none
theorem src_pair {K : PySem.W.Frag} {H : Hp} {B : Addr → Prop} {ρ : Rho} {σ : St} {as bs : List D} {xs ys : List V} {J : It} (er : ER K H B (Z ρ σ)) (rx : RepA K H (AO B (Z ρ σ)) as xs) (ry : RepA K H (AO B (Z ρ σ)) bs ys)
    (w : Walk J (min xs.length ys.length) (Stay ρ σ H) (YPair (fun i => xs[i]?) fun i => ys[i]?)) : SrcOk K ρ σ H B J (zipD as bs) := by
  refine ⟨YPair (fun i => xs[i]?) (fun i => ys[i]?), by rw [zipD_len, ← rx.len, ← ry.len]; exact w, fun i H1 x H2 hi st y => ?_⟩
  obtain ⟨T, x1, y1, rfl, nT, rfl, f1, f2⟩ := y
  obtain ⟨a, ea, ra⟩ := rx.get' f1
  obtain ⟨b, eb, rb⟩ := ry.get' f2
  have sm := upd_same_of (o := .tup [x1, y1]) nT
  exact ⟨sm, _, zipD_get ea eb, fun A' hA => rep_tup nT (.cons (stay_rep er ra st (.refl _) A' hA) (.cons (stay_rep er rb st (.refl _) A' hA) .nil))⟩
theorem walk_zipT {K : PySem.W.Frag} {a b : Addr} {xs ys : List V} : Walk (ItzT K a b) (min xs.length ys.length) (fun H => SqT K H a xs ∧ SqT K H b ys) (YPair (fun i => xs[i]?) (fun i => ys[i]?)) := by
  refine ⟨fun i H hi q => ?_, fun H q => ⟨xs, ys, q.1, q.2, by omega⟩, fun i H v H' _ q y => ?_⟩
  · exact ⟨xs, ys, xs[i]'(by omega), ys[i]'(by omega), q.1, q.2, by simp, by simp⟩
  · obtain ⟨T, x, z, h1, h2, h3, h4, h5⟩ := y
    exact ⟨T, x, z, h1, h2, h3, h4 xs q.1, h5 ys q.2⟩
theorem RepA.two {K : PySem.W.Frag} {H : Hp} {A : Addr → Prop} {d d2 : D} {v v2 : V} (h : RepA K H A [d, d2] [v, v2]) : Rep K H A d v ∧ Rep K H A d2 v2 := by
  unfold RepA at h
  obtain ⟨x, r, e, h1, h2⟩ := h
  cases e
  exact ⟨h1, h2.one⟩
theorem di_zip {elts : List Expr} {kk : Nat} (hg : Gl X "zip") (hm : X.mg "zip" = none) (h : DE X e t) (h2 : DE X e2 t2) (hs : starEach [e, e2] X.env = (false, eval e X.env) :: starEach [e2] X.env) (hs2 : starEach [e2] X.env = (false, eval e2 X.env) :: starEach [] X.env)
    (hpl : (backTo pos (starEach [e2] X.env)).any (·.1) = false) : DI X (.Tuple elts kk tpos) (.Call (.Name "zip" p) [e, e2] [] pos) (sZip t t2) := by
  have pa : DA X [e, e2] (dCons t (dCons t2 dNil)) := da_cons h (da_cons h2 da_nil hs2) hs
  refine pi_weak (pi_zipA hg hm pa hs hpl) fun σ H R q => ?_
  obtain ⟨B, ρ, its, ρ', hl, er, e, k⟩ := q
  unfold sZip at e
  split at e
  · rename_i r ρ1 e1
    split at e
    · rename_i r2 ρ2 e2
      have hts : dCons t (dCons t2 dNil) ρ = some ([r, r2], ρ2) := by simp [dCons, dNil, e1, e2]
      split at e
      · rename_i as bs ρ3 e3
        cases e
        refine ⟨B, ρ, _, ρ2, hl, er, hts, fun vs H1 lk st rr => ?_⟩
        obtain ⟨v, u, rfl⟩ : ∃ v u, vs = [v, u] := by
          have := rr.len
          match vs, this with
          | [v, u], _ => exact ⟨v, u, rfl⟩
        obtain ⟨h1, h2, h3, h4⟩ := frz_ok (lk.len.trans hl) e3 rr
        obtain ⟨q1, q2⟩ := h2.two
        unfold Rep at q1 q2
        obtain ⟨a, xs, rfl, ha, ra⟩ := q1
        obtain ⟨b, ys, rfl, hb, rb⟩ := q2
        refine ⟨a, b, xs, ys, rfl, .inl ⟨ha.lv.sq, hb.lv.sq, k _ H1 (lk.trans h3) (st.trans (stp_own h4)) h1 (src_pair h1 ra rb ?_)⟩⟩
        exact (walk_zip rfl).mono (fun H2 st2 => ⟨stay_seqL h1 ha st2, stay_seqL h1 hb st2⟩) fun _ _ _ _ _ _ y => y
      · rename_i as bs ρ3 e3
        cases e
        refine ⟨B, ρ, _, ρ2, hl, er, hts, fun vs H1 lk st rr => ?_⟩
        obtain ⟨v, u, rfl⟩ : ∃ v u, vs = [v, u] := by
          have := rr.len
          match vs, this with
          | [v, u], _ => exact ⟨v, u, rfl⟩
        obtain ⟨h1, h2, h3, h4⟩ := frz_ok (lk.len.trans hl) e3 rr
        obtain ⟨q1, q2⟩ := h2.two
        unfold Rep at q1 q2
        obtain ⟨a, xs, rfl, ha, ra⟩ := q1
        obtain ⟨b, ys, rfl, hb, rb⟩ := q2
        refine ⟨a, b, xs, ys, rfl, .inr ⟨ha, hb, k _ H1 (lk.trans h3) (st.trans (stp_own h4)) h1 (src_pair h1 ra rb ?_)⟩⟩
        exact walk_zipT.mono (fun H2 st2 => ⟨stay_seqT h1 ha st2, stay_seqT h1 hb st2⟩) fun _ _ _ _ _ _ y => y
      · cases e
    · cases e
  · cases e
/-- enumerate of a list -/
def enumD : Nat → List D → List D
  | _, [] => []
  | n, a :: as => .tuple [.int (n : Nat), a] :: enumD (n + 1) as
theorem enumD_len : ∀ (n : Nat) (as : List D), (enumD n as).length = as.length
  | _, [] => rfl
  | n, a :: as => by simp [enumD, enumD_len (n + 1) as]
theorem enumD_get : ∀ {as : List D} {n i : Nat} {a : D}, as[i]? = some a → (enumD n as)[i]? = some (.tuple [.int ((n + i : Nat) : Int), a])
  | [], _, _, _, h => by simp at h
  | x :: as, n, 0, a, h => by simp at h; subst h; simp [enumD]
  | x :: as, n, i + 1, a, h => by
    have := enumD_get (as := as) (n := n + 1) (i := i) (by simpa using h)
    rw [show n + 1 + i = n + (i + 1) by omega] at this
    simpa [enumD] using this
def sEnum (t : TD) : TSr := fun ρ => match t ρ with
  | some (r, ρ1) => match frz [r] ρ1 with
    | some ([.list as], ρ2) => some (enumD 0 as, ρ2)
    | _ => none
  | none => none
theorem di_enum {elts : List Expr} {kk : Nat} (hg : Gl X "enumerate") (hm : X.mg "enumerate" = none) (h : DE X e t) (hs : starEach [e] X.env = [(false, eval e X.env)]) : DI X (.Tuple elts kk tpos) (.Call (.Name "enumerate" p) [e] [] pos) (sEnum t) := by
  refine pi_weak (pi_enum hg hm (pa_cons h pa_nil hs) hs) fun σ H R q => ?_
  obtain ⟨B, ρ, its, ρ', hl, er, e, k⟩ := q
  unfold sEnum at e
  split at e
  · rename_i r ρ1 e1
    split at e
    · rename_i as ρ2 e2
      cases e
      refine ⟨B, ρ, r, ρ1, hl, er, e1, fun v H1 lk st rr => ?_⟩
      obtain ⟨h1, h2, h3, h4⟩ := frz_ok (lk.len.trans hl) e2 rr
      have rp := h2.one
      unfold Rep at rp
      obtain ⟨a, xs, rfl, ha, ra⟩ := rp
      refine ⟨a, xs, rfl, ha.lv.sq, k _ H1 (lk.trans h3) (st.trans (stp_own h4)) h1 ?_⟩
      refine ⟨YPair (fun i => some (.int (i : Nat))) (fun i => xs[i]?), ?_, fun i H2 x H3 hi st2 y => ?_⟩
      · rw [enumD_len, ← ra.len]
        exact walk_enum.mono (fun H2 st2 => stay_seqL h1 ha st2) fun _ _ _ _ _ _ y => y
      · obtain ⟨T, x1, y1, rfl, nT, rfl, f1, f2⟩ := y
        cases f1
        obtain ⟨b, eb, rb⟩ := ra.get' f2
        refine ⟨upd_same_of nT, _, enumD_get eb, fun A' hA => rep_tup nT (.cons ?_ (.cons (stay_rep h1 rb st2 (.refl _) A' hA) .nil))⟩
        rw [Nat.zero_add]
        exact rep_int
    · cases e
  · cases e
end

/-! ### comprehensions -/
def wipeR (ρ : Rho) : List Nat → Rho
  | [] => ρ
  | v :: vs => (wipeR ρ vs).set v none
theorem wipeR_len (ρ : Rho) : ∀ vs, (wipeR ρ vs).length = ρ.length
  | [] => rfl
  | v :: vs => by unfold wipeR; rw [List.length_set, wipeR_len ρ vs]
theorem wipeR_off (ρ : Rho) : ∀ {vs : List Nat} {j : Nat}, j ∉ vs → (wipeR ρ vs)[j]? = ρ[j]?
  | [], _, _ => rfl
  | v :: vs, j, h => by
    simp only [List.mem_cons, not_or] at h
    unfold wipeR
    rw [List.getElem?_set_ne (Ne.symm h.1)]
    exact wipeR_off ρ h.2
theorem wipeR_in (ρ : Rho) : ∀ {vs : List Nat} {j : Nat} {s : Slot}, j ∈ vs → (wipeR ρ vs)[j]? ≠ some (some s)
  | v :: vs, j, s, h => by
    unfold wipeR
    by_cases e : v = j
    · subst e
      by_cases hl : v < (wipeR ρ vs).length
      · rw [List.getElem?_set_self hl]; simp
      · rw [List.getElem?_eq_none (by rw [List.length_set]; omega)]; simp
    · rw [List.getElem?_set_ne e]
      exact wipeR_in ρ ((List.mem_cons.mp h).resolve_left (Ne.symm e))
theorem wipe_off (σ : St) : ∀ {vs : List Nat} {j : Nat}, j ∉ vs → (wipe σ vs)[j]? = σ[j]?
  | [], _, _ => rfl
  | v :: vs, j, h => by
    simp only [List.mem_cons, not_or] at h
    unfold wipe
    rw [List.getElem?_set_ne (Ne.symm h.1)]
    exact wipe_off σ h.2
theorem wipe_in (σ : St) : ∀ {vs : List Nat} {j : Nat}, j ∈ vs → j < σ.length → (wipe σ vs)[j]? = some none
  | v :: vs, j, h, hj => by
    unfold wipe
    by_cases e : v = j
    · subst e
      rw [List.getElem?_set_self (by rw [wipe_length]; exact hj)]
    · rw [List.getElem?_set_ne e]
      exact wipe_in σ ((List.mem_cons.mp h).resolve_left (Ne.symm e)) hj
theorem wipe_eq {a b : St} {vs : List Nat} (hl : a.length = b.length) (h : ∀ j, j ∉ vs → a[j]? = b[j]?) : wipe a vs = wipe b vs := by
  apply List.ext_getElem?
  intro j
  by_cases hj : j ∈ vs
  · by_cases hb : j < b.length
    · rw [wipe_in a hj (by omega), wipe_in b hj hb]
    · rw [List.getElem?_eq_none (by rw [wipe_length]; omega), List.getElem?_eq_none (by rw [wipe_length]; omega)]
  · rw [wipe_off a hj, wipe_off b hj, h j hj]
/-- entries may be blanked -/
theorem er_entries {K : PySem.W.Frag} {H : Hp} {B : Addr → Prop} : ∀ {E F T : Ent}, E.length = F.length → (∀ (i : Nat) (p : Option Slot × Option V), F[i]? = some p → p.1 = none ∨ E[i]? = some p) → ER K H B (E ++ T) → ER K H B (F ++ T) ∧ ∀ a, Own (F ++ T) a → Own (E ++ T) a
  | [], [], _, _, _, h => ⟨h, fun _ z => z⟩
  | e :: E, f :: F, T, hl, hi, h => by
    have hl' : E.length = F.length := by simpa using hl
    have h0 := hi 0 f rfl
    have step : ∀ (B' : Addr → Prop), ER K H B' (E ++ T) → ER K H B' (F ++ T) ∧ ∀ a, Own (F ++ T) a → Own (E ++ T) a := fun B' h' => er_entries hl' (fun i p e => by simpa using hi (i + 1) p (by simpa using e)) h'
    rcases h0 with h0 | h0
    · obtain ⟨q1, q2⟩ := step B (h.sub (List.sublist_cons_self _ _))
      obtain ⟨f1, f2⟩ := f
      simp only at h0
      subst h0
      refine ⟨q1.blank, fun a z => ?_⟩
      rcases own_cons.mp z with ⟨_, _, z⟩ | z
      · cases z
      · exact own_cons.mpr (.inr (q2 a z))
    · have h0 : e = f := by simpa using h0
      subst h0
      have hp : ER K H B ((E ++ T) ++ [e]) := h.perm (List.perm_append_comm (l₁ := [e]))
      obtain ⟨q1, q2⟩ := step (AO B [e]) hp.aside
      have back := hp.back (E' := F ++ T) (F := []) (stp_own q2) (by simpa using q1) (fun a z => absurd z own_nil)
      rw [List.append_nil] at back
      refine ⟨back.perm (List.perm_append_comm (l₂ := [e])), fun a z => ?_⟩
      rcases own_cons.mp z with z | z
      · exact own_cons.mpr (.inl z)
      · exact own_cons.mpr (.inr (q2 a z))
section
variable {K : PySem.W.Frag} {H : Hp} {B : Addr → Prop} {ρ : Rho} {σ : St} {vs : List Nat} {T : Ent}
theorem Z_len (hl : ρ.length = σ.length) : (Z ρ σ).length = σ.length := by simp [Z, List.length_zip, hl]
theorem Z_get {i : Nat} {p : Option Slot × Option V} : (Z ρ σ)[i]? = some p ↔ ρ[i]? = some p.1 ∧ σ[i]? = some p.2 := by
  obtain ⟨a, b⟩ := p
  simp [Z, List.getElem?_zip_eq_some]
theorem wipe_er (hl : ρ.length = σ.length) (er : ER K H B (Z ρ σ ++ T)) : ER K H B (Z (wipeR ρ vs) (wipe σ vs) ++ T) ∧ ∀ a, Own (Z (wipeR ρ vs) (wipe σ vs) ++ T) a → Own (Z ρ σ ++ T) a := by
  refine er_entries (by rw [Z_len hl, Z_len (by rw [wipeR_len, wipe_length, hl]), wipe_length]) (fun i p e => ?_) er
  obtain ⟨e1, e2⟩ := Z_get.mp e
  by_cases hi : i ∈ vs
  · left
    cases h : p.1 with
    | none => rfl
    | some s => rw [h] at e1; exact absurd e1 (wipeR_in ρ hi)
  · right
    rw [wipeR_off ρ hi] at e1
    rw [wipe_off σ hi] at e2
    exact Z_get.mpr ⟨e1, e2⟩
theorem unwipe_er (hl : ρ.length = σ.length) (hw : ∀ j s, j ∈ vs → ρ[j]? ≠ some (some s)) (er : ER K H B (Z ρ (wipe σ vs) ++ T)) : ER K H B (Z ρ σ ++ T) ∧ ∀ a, Own (Z ρ σ ++ T) a → Own (Z ρ (wipe σ vs) ++ T) a := by
  refine er_entries (by rw [Z_len hl, Z_len (by rw [wipe_length, hl]), wipe_length]) (fun i p e => ?_) er
  obtain ⟨e1, e2⟩ := Z_get.mp e
  by_cases hi : i ∈ vs
  · left
    cases h : p.1 with
    | none => rfl
    | some s => rw [h] at e1; exact absurd e1 (hw i s hi)
  · right
    rw [← wipe_off σ hi] at e2
    exact Z_get.mpr ⟨e1, e2⟩
end
def loopC (vs : List Nat) (tgt : TGD) (cond : TB) (elt : TD) : List D → Rho → List D → Option (List D × Rho)
  | [], ρ, acc => some (acc, ρ)
  | d :: ds, ρ, acc => match tgt (.v d) ρ with
    | some ρ1 => match cond ρ1 with
      | some (true, ρ2) => match elt ρ2 with
        | some (r, ρ3) => match frz [r] ρ3 with
          | some ([y], ρ4) => if acc.length < 1000000 then loopC vs tgt cond elt ds (wipeR ρ4 vs) (acc ++ [y]) else none
          | _ => none
        | none => none
      | some (false, ρ2) => loopC vs tgt cond elt ds (wipeR ρ2 vs) acc
      | none => none
    | none => none
def noPins (ρ : Rho) (vs : List Nat) : Bool := vs.all fun j => !isPin ρ[j]?
def dComp (vs : List Nat) (src : TSr) (tgt : TGD) (cond : TB) (elt : TD) : TD := fun ρ => match src ρ with
  | some (its, ρ1) => if noPins ρ1 vs then match loopC vs tgt cond elt its (wipeR ρ1 vs) [] with
      | some (ys, ρ2) => some (.o ys, ρ2)
      | none => none
    else none
  | none => none
theorem lk_wipe {ρ : Rho} {vs : List Nat} (h : noPins ρ vs = true) : Lk ρ (wipeR ρ vs) := by
  refine ⟨wipeR_len ρ vs, fun i xs e => ⟨xs, ?_⟩⟩
  rw [wipeR_off ρ fun hi => ?_]
  · exact e
  · have := List.all_eq_true.mp h i hi
    rw [e] at this
    simp [isPin] at this
/-- a wiped environment behind a turn -/
theorem lk_rewipe {ρ ρ' : Rho} {vs : List Nat} (h : Lk ρ ρ') (hw : ∀ j s, j ∈ vs → ρ[j]? ≠ some (some s)) : Lk ρ (wipeR ρ' vs) := by
  refine ⟨(wipeR_len _ _).trans h.len, fun i xs e => ?_⟩
  obtain ⟨ys, e2⟩ := h.pin i xs e
  have hi : i ∉ vs := fun hi => hw i _ hi e
  exact ⟨ys, by rw [wipeR_off ρ' hi]; exact e2⟩
theorem LkS.lk {ρ ρ' : Rho} {σ σ' : St} (h : LkS ρ ρ' σ σ') : Lk ρ ρ' := ⟨h.len, fun i xs e => (h.pin i xs e).1⟩
theorem er_same {K : PySem.W.Frag} {H H' : Hp} {B : Addr → Prop} {E : Ent} (er : ER K H B E) (sm : Same H H') : ER K H' B E := by
  have st : Stp E H E H' := .same sm
  refine ⟨fun d v m => ?_, fun p xs v m => ?_, er.nd, fun b z => st.trk b (er.trk b z)⟩
  · obtain ⟨u, e, q⟩ := er.val d v m
    exact ⟨u, e, q.step er st⟩
  · obtain ⟨a, vs, e, hl, q, nb⟩ := er.own p xs v m
    exact ⟨a, vs, e, sm _ _ hl, q.step er st, nb⟩
theorem comp_read {K : PySem.W.Frag} {vs js : List Nat} {src : TSr} {tgt : TGD} {cond : TB} {elt : TD} {σ : St} {H : Hp} {Q : VK} (hjs : ∀ j ∈ js, j ∈ vs) (q : rd K (dComp vs src tgt cond elt) σ H Q) :
    tLc (rdI K src) (rdG K js tgt) (rdT K cond) (rd K elt) vs σ H Q := by
  obtain ⟨B, ρ, r, ρ2, hl, er, e, k⟩ := q
  unfold dComp at e
  split at e
  · rename_i its ρ1 e1
    split at e
    · rename_i hp
      split at e
      · rename_i ys ρ2' e2
        cases e
        refine ⟨B, ρ, its, ρ1, hl, er, e1, fun J H1 lk st er1 sok => ?_⟩
        intro Dd hD
        obtain ⟨Y, w, hY⟩ := sok
        have hl1 : ρ1.length = σ.length := lk.len.trans hl
        have hlw : (wipeR ρ1 vs).length = (wipe σ vs).length := by rw [wipeR_len, wipe_length, hl1]
        obtain ⟨erw, oww⟩ := wipe_er (vs := vs) (T := []) hl1 (by simpa using er1)
        simp only [List.append_nil] at erw oww
        have stw : Stp (Z ρ1 σ) H1 (Z (wipeR ρ1 vs) (wipe σ vs)) H1 := stp_own oww
        -- the invariant
        let Pv : Nat → Hp → Prop := fun i Hi => ∃ ρi acc, ρi.length = (wipe σ vs).length ∧ (∀ j s, j ∈ vs → ρi[j]? ≠ some (some s)) ∧ Lk (wipeR ρ1 vs) ρi ∧ Stp (Z (wipeR ρ1 vs) (wipe σ vs)) H1 (Z ρi (wipe σ vs)) Hi ∧
          ER K Hi B (Z ρi (wipe σ vs) ++ [(some (.own false acc), some (.ref Dd))]) ∧ loopC vs tgt cond elt (its.drop i) ρi acc = some (ys, ρ2)
        refine lc_it w Pv ?_ (fun i Hi _ hP b o hb nb => ?_) (fun i x Hi Hi' hi hP hy => ?_) (fun Hn hP => ?_)
        · -- the start
          have rn : RN K H1 (upd H1 Dd (.lst [])) (AO B (Z (wipeR ρ1 vs) (wipe σ vs))) (.o []) (.ref Dd) := rn_lst hD .nil
          have rss := RN.rss (H0 := H1) erw (upd_same_of hD) (fun _ h => h) rn
          exact ⟨wipeR ρ1 vs, [], hlw, fun j s hj => wipeR_in ρ1 hj, .refl _, .same (upd_same_of hD), rss.er, e2⟩
        · obtain ⟨ρi, acc, _, _, _, sti, _⟩ := hP
          exact sti.keep b o hb fun z => nb (oww b z)
        · obtain ⟨ρi, acc, hli, hwi, lki, sti, eri, ei⟩ := hP
          have hstay : Stay ρ1 σ H1 Hi := fun b o hb nb => sti.keep b o hb fun z => nb (oww b z)
          obtain ⟨sm, d, hd, hrep⟩ := hY i Hi x Hi' hi hstay hy
          have hdrop : its.drop i = d :: its.drop (i + 1) := by
            have := List.drop_eq_getElem_cons hi
            rw [this]
            congr 1
            have h2 := List.getElem?_eq_getElem hi
            rw [hd] at h2
            exact (Option.some.inj h2).symm
          rw [hdrop] at ei
          unfold loopC at ei
          split at ei
          · rename_i ρa ea
            -- the target
            have eri' := er_same eri sm
            have hmA : ∀ b, H1 b ≠ none → AO (AO B [(some (.own false acc), some (.ref Dd))]) (Z ρi (wipe σ vs)) b → AO B (Z ρ1 σ) b := fun b t z => by
              rcases z with (z | z) | z
              · exact .inl z
              · rcases own_cons.mp z with ⟨_, _, z⟩ | z
                · cases z; exact absurd hD t
                · exact (own_nil z).elim
              · exact .inr (oww b (sti.own b t z))
            have erD := eri'.aside
            have erT := (erD.dup (hrep _ hmA)).perm (List.perm_append_comm (l₁ := [(some (Slot.val d), some x)]))
            refine ⟨AO B [(some (.own false acc), some (.ref Dd))], ρi, .v d, ρa, hli, erT, rfl, ea, fun σ2 H2 lk2 st2 er2 off2 => ?_⟩
            have hl2 : ρa.length = σ2.length := by rw [lk2.len, hli, lk2.slen]
            have hwe : wipe σ2 vs = wipe σ vs := wipe_eq (lk2.slen.trans (wipe_length _ _)) fun j hj => by
              rw [off2 j fun h => hj (hjs j h), wipe_off σ hj]
            refine ⟨hwe, ?_⟩
            -- from the turn's start, without the item
            have st2' : Stp (Z ρi (wipe σ vs)) Hi' (Z ρa σ2) H2 := ⟨fun b o q n => st2.keep b o q fun z => (own_app.mp z).elim n fun z => own_nil (own_valcons z), fun b t z => (own_app.mp (st2.own b t z)).elim id fun z => (own_nil (own_valcons z)).elim, st2.trk⟩
            have turn : ∀ {ρz : Rho} {Hz : Hp} {acc' : List D} {us' : List V}, Lk ρa ρz → Stp (Z ρa σ2) H2 (Z ρz σ2) Hz → ER K Hz (AO B [(some (.own false acc), some (.ref Dd))]) (Z ρz σ2) →
                (∀ us, Hz Dd = some (.lst us) → RepA K Hz (AO (AO B [(some (.own false acc), some (.ref Dd))]) (Z ρz σ2)) acc us → Hz Dd = some (.lst us) ∧
                  ∀ us' acc', RepA K Hz (AO (AO B [(some (.own false acc), some (.ref Dd))]) (Z ρz σ2)) acc' us' →
                    loopC vs tgt cond elt (its.drop (i + 1)) (wipeR ρz vs) acc' = some (ys, ρ2) → True) → True := fun _ _ _ _ => trivial
            have core : ∀ {ρz : Rho} {Hz : Hp}, Lk ρa ρz → Stp (Z ρa σ2) H2 (Z ρz σ2) Hz → ER K Hz (AO B [(some (.own false acc), some (.ref Dd))]) (Z ρz σ2) →
                ER K Hz B ((some (.own false acc), some (.ref Dd)) :: Z ρz σ2) ∧ Stp (Z (wipeR ρ1 vs) (wipe σ vs)) H1 (Z ρz σ2) Hz := fun {ρz Hz} lkz stz erz => by
              have stt := st2'.trans stz
              have b1 := eri'.back (F := []) stt (by simpa using erz) (fun a z => absurd z own_nil)
              rw [List.append_nil] at b1
              exact ⟨b1.perm (List.perm_append_comm (l₂ := [(some (Slot.own false acc), some (V.ref Dd))])), (sti.trans (.same sm)).trans stt⟩
            have nxt : ∀ {ρz : Rho} {Hz : Hp} {acc' : List D}, Lk ρa ρz → ER K Hz B ((some (.own false acc'), some (.ref Dd)) :: Z ρz σ2) → Stp (Z (wipeR ρ1 vs) (wipe σ vs)) H1 (Z ρz σ2) Hz →
                loopC vs tgt cond elt (its.drop (i + 1)) (wipeR ρz vs) acc' = some (ys, ρ2) → Pv (i + 1) Hz := fun {ρz Hz acc'} lkz erz stz ez => by
              have hlz : ρz.length = σ2.length := lkz.len.trans hl2
              have erz' : ER K Hz B (Z ρz σ2 ++ [(some (.own false acc'), some (.ref Dd))]) := erz.perm (List.perm_append_comm (l₁ := [(some (Slot.own false acc'), some (V.ref Dd))]))
              obtain ⟨g1, g2⟩ := wipe_er (vs := vs) hlz erz'
              have g3 : ∀ a, Own (Z (wipeR ρz vs) (wipe σ2 vs)) a → Own (Z ρz σ2) a := (wipe_er (vs := vs) (T := []) hlz (by simpa using erz'.left)).2 |> fun h a z => by
                have := h a (by simpa using z)
                simpa using this
              rw [hwe] at g1 g3
              refine ⟨wipeR ρz vs, acc', by rw [wipeR_len, hlz, lk2.slen], fun j s hj => wipeR_in ρz hj, ?_, stz.trans (stp_own g3), g1, ez⟩
              exact lk_rewipe ((lki.trans lk2.lk).trans lkz) fun j s hj => wipeR_in ρ1 hj
            split at ei
            · rename_i ρb eb
              split at ei
              · rename_i re ρc ec
                split at ei
                · rename_i y ρd ed
                  split at ei
                  · rename_i hacc
                    refine ⟨_, ρa, true, ρb, hl2, er2, eb, fun H3 lk3 st3 er3 => ?_⟩
                    refine iteT ?_
                    refine ⟨_, ρb, re, ρc, lk3.len.trans hl2, er3, ec, fun yv H4 lk4 st4 rr4 => ?_⟩
                    obtain ⟨f1, f2, f3, f4⟩ := frz_ok ((lk4.len.trans lk3.len).trans hl2) ed rr4
                    have lkz := (lk3.trans lk4).trans f3
                    have stz := (st3.trans st4).trans (stp_own f4)
                    obtain ⟨c1, c2⟩ := core lkz stz f1
                    obtain ⟨a0, us, ea0, hus, rus, nb0⟩ := c1.own false acc _ List.mem_cons_self
                    cases ea0
                    have hyr : Rep K H4 (AO B ((some (.own false acc), some (.ref Dd)) :: Z ρd σ2)) y yv := f2.one.mono fun b z => by
                      rcases z with z | z
                      · exact .inl (.inl z)
                      · rcases own_cons.mp z with z | z
                        · exact .inl (.inr (own_cons.mpr (.inl z)))
                        · exact .inr z
                    refine ⟨us, hus, by rw [rus.len]; exact Nat.lt_of_lt_of_le hacc (by decide), ?_⟩
                    have m1 := er_mut c1 (rus.app (.cons hyr .nil))
                    have hDn : ¬ Own (Z ρd σ2) Dd := fun z => f1.notB z (.inr (own_cons.mpr (.inl ⟨false, acc, rfl⟩)))
                    refine nxt lkz m1 ⟨fun b o hb nb => ?_, fun b t z => c2.own b t z, fun b t => ?_⟩ ei
                    · rw [upd_ne (fun z => by subst z; rw [hD] at hb; cases hb)]
                      exact c2.keep b o hb nb
                    · rw [upd_ne (fun z => t (by subst z; exact hD))]
                      exact c2.trk b t
                  · cases ei
                · cases ei
              · cases ei
            · rename_i ρb eb
              refine ⟨_, ρa, false, ρb, hl2, er2, eb, fun H3 lk3 st3 er3 => ?_⟩
              refine iteF ?_
              obtain ⟨c1, c2⟩ := core lk3 st3 er3
              exact nxt lk3 c1 c2 ei
            · cases ei
          · cases ei
        · obtain ⟨ρi, acc, hli, hwi, lki, sti, eri, ei⟩ := hP
          have : its.drop its.length = [] := List.drop_length
          rw [this] at ei
          unfold loopC at ei
          cases ei
          have hl2 : ρ2.length = σ.length := by rw [hli, wipe_length]
          obtain ⟨g1, g2⟩ := unwipe_er hl2 hwi eri
          have g3 : ∀ a, Own (Z ρ2 σ) a → Own (Z ρ2 (wipe σ vs)) a := (unwipe_er (T := []) hl2 hwi (by simpa using eri.left)).2 |> fun h a z => by
            have := h a (by simpa using z)
            simpa using this
          have stE := ((st.trans stw).trans sti).trans (stp_own (H := Hn) g3)
          have hD0 : H Dd = none := by
            cases q : H Dd with
            | none => rfl
            | some o => exact absurd hD (st.trk Dd (by rw [q]; simp))
          refine k (.ref Dd) Hn ((lk.trans (lk_wipe hp)).trans lki) stE ⟨rfl, g1, fun a z => ?_, fun m j z => ?_⟩
          · rcases own_cons.mp z with ⟨_, _, z⟩ | z
            · cases z; exact hD0
            · exact (own_nil z).elim
          · cases m with
            | zero => simp at z
            | succ m => simp at z
      · cases e
    · cases e
  · cases e
end Dn

set_option Elab.async false
set_option linter.all false
set_option maxRecDepth 100000
set_option maxHeartbeats 2000000
namespace Dn
open PySem PySem.Spec PyProof.Rows L2 RZ

theorem de_comp {X : Cx} {elt tg iter : Expr} {ifs : List Expr} {scope : Scope} {own : List (Str × Nat)} {pos : Pos} {js : List Nat} {src : TSr} {tgt : TGD} {cond : TB} {te : TD} (hc : X.calm = true) (hN : X.N.Nodup) (hi : DI X tg iter src) (ok : BlkOk X.N X.env.scope scope own)
    (hg : ∀ (s : Shared) (H : Hp) (C : Addr) (cl : List (Str × Addr)) (fp : List Addr), DG (X.blk s H scope (compEnvC scope cl C X.env) fp) tg js tgt)
    (ht : ∀ (s : Shared) (H : Hp) (C : Addr) (cl : List (Str × Addr)) (fp : List Addr), PTs (X.blk s H scope (compEnvC scope cl C X.env) fp) ifs (rdT X.K cond))
    (he : ∀ (s : Shared) (H : Hp) (C : Addr) (cl : List (Str × Addr)) (fp : List Addr), DE (X.blk s H scope (compEnvC scope cl C X.env) fp) elt te)
    (hs : ∀ x, foldedSetIterable iter X.env x = pure x) (hjs : ∀ j ∈ js, j ∈ own.map (·.2)) : DE X (.ListComp elt [⟨tg, iter, ifs, 0⟩] scope pos) (dComp (own.map (·.2)) src tgt cond te) :=
  pe_weak (pe_lc (g := rdG X.K js tgt) (tt := rdT X.K cond) (te := rd X.K te) hc hN hi ok (fun s H C cl fp => hg s H C cl fp) ht (fun s H C cl fp => he s H C cl fp) hs) fun _ _ _ q => comp_read hjs q
def bYes : TB := fun ρ => some (true, ρ)
theorem pts_yes {X : Cx} : PTs X [] (rdT X.K bYes) := ⟨fun pins s σ H Q I ⟨B, ρ, b, ρ', hl, er, e, k⟩ => by
  cases e
  exact pts_nil.run pins s σ H Q I (k H (.refl _) .refl er)⟩

/-! ### statements -/
inductive Out where
  | nx (ρ : Rho)
  | rt (r : R) (ρ : Rho)
  | bk (ρ : Rho)
  | ct (ρ : Rho)
abbrev TSD := Rho → Option Out
def post (K : PySem.W.Frag) (D : Ends) (B : Addr → Prop) (ρ : Rho) (σ : St) (H : Hp) : Out → Prop
  | .nx ρ' => ∀ σ' H', LkS ρ ρ' σ σ' → Stp (Z ρ σ) H (Z ρ' σ') H' → ER K H' B (Z ρ' σ') → D.nx σ' H'
  | .rt r ρ' => ∀ v σ' H', ρ'.length = σ'.length → LkS ρ ρ' σ σ' → Stp (Z ρ σ) H (Z ρ' σ') H' → RSs K H H' B ρ' σ' [r] [v] → D.rt v H'
  | .bk ρ' => ∀ σ' H', LkS ρ ρ' σ σ' → Stp (Z ρ σ) H (Z ρ' σ') H' → ER K H' B (Z ρ' σ') → D.bk σ' H'
  | .ct ρ' => ∀ σ' H', LkS ρ ρ' σ σ' → Stp (Z ρ σ) H (Z ρ' σ') H' → ER K H' B (Z ρ' σ') → D.ct σ' H'
def rdS (K : PySem.W.Frag) (t : TSD) : TS := fun D σ H => ∃ B ρ o, ρ.length = σ.length ∧ ER K H B (Z ρ σ) ∧ t ρ = some o ∧ post K D B ρ σ H o
def DS (X : Cx) (s : Stmt) (t : TSD) : Prop := PS X s (rdS X.K t)
def DSs (X : Cx) (s : List Stmt) (t : TSD) : Prop := PSs X s (rdS X.K t)
theorem ps_weak {X : Cx} {s : Stmt} {t t' : TS} (h : PS X s t) (w : ∀ D σ H, t' D σ H → t D σ H) : PS X s t' := ⟨fun pins s σ H D I q => h.run pins s σ H D I (w D σ H q)⟩
theorem pss_weak {X : Cx} {s : List Stmt} {t t' : TS} (h : PSs X s t) (w : ∀ D σ H, t' D σ H → t D σ H) : PSs X s t' := ⟨fun pins s σ H D I q => h.run pins s σ H D I (w D σ H q)⟩
theorem Stp.fr {E E' : Ent} {H H' : Hp} (s : Stp E H E' H') {a : Addr} (h : H' a = none) : H a = none := by
  cases q : H a with
  | none => rfl
  | some o => exact absurd h (s.trk a (by rw [q]; simp))
theorem RSs.from {K : PySem.W.Frag} {H0 H H' : Hp} {B : Addr → Prop} {ρ : Rho} {σ : St} {rs : List R} {vs : List V} (rr : RSs K H H' B ρ σ rs vs) (h : ∀ a, H a = none → H0 a = none) : RSs K H0 H' B ρ σ rs vs :=
  ⟨rr.len, rr.er, fun a z => h a (rr.fr a z), rr.bo⟩
theorem post_go {K : PySem.W.Frag} {D : Ends} {B : Addr → Prop} {ρ ρ1 : Rho} {σ σ1 : St} {H H1 : Hp} {o : Out} (lk : LkS ρ ρ1 σ σ1) (st : Stp (Z ρ σ) H (Z ρ1 σ1) H1) (p : post K D B ρ σ H o) : post K D B ρ1 σ1 H1 o := by
  cases o with
  | nx ρ' => exact fun σ' H' lk2 st2 er => p σ' H' (lk.trans lk2) (st.trans st2) er
  | bk ρ' => exact fun σ' H' lk2 st2 er => p σ' H' (lk.trans lk2) (st.trans st2) er
  | ct ρ' => exact fun σ' H' lk2 st2 er => p σ' H' (lk.trans lk2) (st.trans st2) er
  | rt r ρ' => exact fun v σ' H' hl lk2 st2 rr => p v σ' H' hl (lk.trans lk2) (st.trans st2) (rr.from fun a h => st.fr h)
section
variable {X : Cx} {s : Stmt} {ss : List Stmt} {e : Expr} {pos : Pos} {t : TD} {a b : TSD}
def sNone : TSD := fun _ => none
theorem ds_no : DS X s sNone := ⟨fun _ _ _ _ _ _ ⟨_, _, _, _, _, h, _⟩ => by cases h⟩
theorem dss_no : DSs X ss sNone := ⟨fun _ _ _ _ _ _ ⟨_, _, _, _, _, h, _⟩ => by cases h⟩
def sSkip : TSD := fun ρ => some (.nx ρ)
theorem dss_nil : DSs X [] sSkip := pss_weak pss_nil fun D σ H q => by
  obtain ⟨B, ρ, o, hl, er, e, p⟩ := q
  cases e
  exact p σ H (.refl _ _) .refl er
theorem ds_pass : DS X (.Pass pos) sSkip := ps_weak ps_pass fun D σ H q => by
  obtain ⟨B, ρ, o, hl, er, e, p⟩ := q
  cases e
  exact p σ H (.refl _ _) .refl er
def sBrk : TSD := fun ρ => some (.bk ρ)
def sCnt : TSD := fun ρ => some (.ct ρ)
theorem ds_brk : DS X (.Break pos) sBrk := ps_weak ps_break fun D σ H q => by
  obtain ⟨B, ρ, o, hl, er, e, p⟩ := q
  cases e
  exact p σ H (.refl _ _) .refl er
theorem ds_cnt : DS X (.Continue pos) sCnt := ps_weak ps_continue fun D σ H q => by
  obtain ⟨B, ρ, o, hl, er, e, p⟩ := q
  cases e
  exact p σ H (.refl _ _) .refl er
def sSeq2 (a b : TSD) : TSD := fun ρ => match a ρ with
  | some (.nx ρ1) => b ρ1
  | some (.rt r ρ1) => some (.rt r ρ1)
  | some (.bk ρ1) => some (.bk ρ1)
  | some (.ct ρ1) => some (.ct ρ1)
  | none => none
theorem dss_cons (h : DS X s a) (hs : DSs X ss b) : DSs X (s :: ss) (sSeq2 a b) := pss_weak (pss_cons h hs) fun D σ H q => by
  obtain ⟨B, ρ, o, hl, er, e, p⟩ := q
  unfold sSeq2 at e
  split at e
  · rename_i ρ1 e1
    exact ⟨B, ρ, _, hl, er, e1, fun σ1 H1 lk st er1 => ⟨B, ρ1, o, (lk.len.trans hl).trans lk.slen.symm, er1, e, post_go lk st p⟩⟩
  · rename_i r ρ1 e1
    cases e
    exact ⟨B, ρ, _, hl, er, e1, p⟩
  · rename_i ρ1 e1
    cases e
    exact ⟨B, ρ, _, hl, er, e1, p⟩
  · rename_i ρ1 e1
    cases e
    exact ⟨B, ρ, _, hl, er, e1, p⟩
  · cases e
def sExp (t : TD) : TSD := fun ρ => match t ρ with
  | some (_, ρ1) => some (.nx ρ1)
  | none => none
theorem ds_exp (h : DE X e t) (hs : swapsWith e none pos.line X.env = pure false) : DS X (.Expr e pos) (sExp t) := ps_weak (ps_expr h hs) fun D σ H q => by
  obtain ⟨B, ρ, o, hl, er, e, p⟩ := q
  unfold sExp at e
  split at e
  · rename_i r ρ1 e1
    cases e
    exact ⟨B, ρ, r, ρ1, hl, er, e1, fun v H1 lk st rr => p σ H1 (lk.s σ) st rr.er.left⟩
  · cases e
theorem ds_doc {x j pos'} : DS X (.Expr (.Constant (.str x) j pos) pos') sSkip := ps_weak ps_doc fun D σ H q => by
  obtain ⟨B, ρ, o, hl, er, e, p⟩ := q
  cases e
  exact p σ H (.refl _ _) .refl er
def sRet (t : TD) : TSD := fun ρ => match t ρ with
  | some (r, ρ1) => some (.rt r ρ1)
  | none => none
theorem ds_ret (h : DE X e t) : DS X (.Return (some e) pos) (sRet t) := ps_weak (ps_ret h) fun D σ H q => by
  obtain ⟨B, ρ, o, hl, er, e, p⟩ := q
  unfold sRet at e
  split at e
  · rename_i r ρ1 e1
    cases e
    exact ⟨B, ρ, r, ρ1, hl, er, e1, fun v H1 lk st rr => p v σ H1 (lk.len.trans hl) (lk.s σ) st rr⟩
  · cases e
def sRetN : TSD := fun ρ => some (.rt (.v .none) ρ)
theorem ds_retN : DS X (.Return none pos) sRetN := ps_weak ps_retN fun D σ H q => by
  obtain ⟨B, ρ, o, hl, er, e, p⟩ := q
  cases e
  exact p .non σ H hl (.refl _ _) .refl (rss_val er rep_non)
def sIf (c : TB) (a b : TSD) : TSD := fun ρ => match c ρ with
  | some (true, ρ1) => a ρ1
  | some (false, ρ1) => b ρ1
  | none => none
theorem ds_if {c : Expr} {sa sb : List Stmt} {tc : TB} (hc : DT X c tc) (ha : DSs X sa a) (hb : DSs X sb b) : DS X (.If c sa sb pos) (sIf tc a b) := ps_weak (ps_if hc ha hb) fun D σ H q => by
  obtain ⟨B, ρ, o, hl, er, e, p⟩ := q
  unfold sIf at e
  split at e
  · rename_i ρ1 e1
    refine ⟨B, ρ, true, ρ1, hl, er, e1, fun H1 lk st er1 => iteT ?_⟩
    exact ⟨B, ρ1, o, lk.len.trans hl, er1, e, post_go (lk.s σ) st p⟩
  · rename_i ρ1 e1
    refine ⟨B, ρ, false, ρ1, hl, er, e1, fun H1 lk st er1 => iteF ?_⟩
    exact ⟨B, ρ1, o, lk.len.trans hl, er1, e, post_go (lk.s σ) st p⟩
  · cases e

/-! ### assignments -/
def sAsg (t : TD) (g : TGD) : TSD := fun ρ => match t ρ with
  | some (r, ρ1) => match res [r] ρ1 with
    | some ([q], ρ2) => match g q ρ2 with
      | some ρ3 => some (.nx ρ3)
      | none => none
    | _ => none
  | none => none
theorem asg_read {K : PySem.W.Frag} {g : TGD} {js : List Nat} {D : Ends} {σ : St} {H : Hp} (q : rdS K (sAsg t g) D σ H) : tAsg (rd K t) (rdG K js g) D σ H := by
  obtain ⟨B, ρ, o, hl, er, e, p⟩ := q
  unfold sAsg at e
  split at e
  · rename_i r ρ1 e1
    split at e
    · rename_i q ρ2 e2
      split at e
      · rename_i ρ3 e3
        cases e
        refine ⟨B, ρ, r, ρ1, hl, er, e1, fun v H1 lk st rr => ?_⟩
        have hl1 := lk.len.trans hl
        obtain ⟨h1, h2, h3, h4, h5, h6⟩ := res_ok hl1 e2 rr.er rr.len rr.bo
        refine ⟨B, ρ2, q, ρ3, h2.len.trans hl1, h1, by simpa using h5, e3, fun σ' H' lk2 st2 er2 _ => ?_⟩
        refine p σ' H' (((lk.trans h2).s σ).trans lk2) ⟨fun b o hb nb => ?_, fun b t z => ?_, fun b t => st2.trk b (st.trk b t)⟩ er2
        · refine st2.keep b o (st.keep b o hb nb) fun z => ?_
          rcases own_app.mp z with z | z
          · exact nb (st.own b (by rw [hb]; simp) (h3 b z))
          · rw [rr.fr b (h6 b z)] at hb; cases hb
        · rcases own_app.mp (st2.own b (st.trk b t) z) with z | z
          · exact st.own b t (h3 b z)
          · exact absurd (rr.fr b (h6 b z)) t
      · cases e
    · cases e
  · cases e
theorem ds_asg {tg e : Expr} {g : TGD} {js : List Nat} (he : DE X e t) (hg : DG X tg js g) (hs : swapsWithSole [tg] e pos.line X.env = pure false) (hw : swappedStores [tg] e X.env = pure none) (h1 : (assignEach [tg] X.env).map (·.2) = [assign tg X.env]) :
    DS X (.Assign [tg] e pos) (sAsg t g) := ps_weak (ps_asg he hg hs hw h1) fun _ _ _ q => asg_read q
theorem gname_read {K : PySem.W.Frag} {i : Nat} {v : V} {σ : St} {H : Hp} {Q : St → Hp → Prop} (q : rdG K [i] (tName i) v σ H Q) : gName i v σ H Q := by
  obtain ⟨B, ρ, r, ρ', hl, er, hfa, e, k⟩ := q
  obtain ⟨h1, h2, h3⟩ := tName_some e
  subst h3
  have er : ER K H B (Z ρ σ ++ ((sl r, some v) :: [])) := er
  obtain ⟨e1, e2⟩ := put_er hl h2 er
  rw [List.append_nil] at e1 e2
  exact k _ H (lks_put h1) (stp_own e2) e1 fun j hj => List.getElem?_set_ne fun z => hj (by simp [z])
theorem ds_setLc {i : Nat} {y : Str} {py spos : Pos} {elt tg iter : Expr} {ifs : List Expr} {scope : Scope} {own : List (Str × Nat)} {js : List Nat} {src : TSr} {tgt : TGD} {cond : TB} {te : TD} (hc : X.calm = true) (hN : X.N.Nodup) (hy : X.N[i]? = some y) (hyl : X.env.scope.names.lookup y = some .local)
    (hsw : swapsWith (.ListComp elt [⟨tg, iter, ifs, 0⟩] scope pos) (some (.Name y py)) spos.line X.env = pure true) (hi : DI X tg iter src) (ok : BlkOk X.N X.env.scope scope own)
    (hg : ∀ (s : Shared) (H : Hp) (C : Addr) (cl : List (Str × Addr)) (fp : List Addr), DG (X.blk s H scope (compEnvC scope cl C X.env) fp) tg js tgt)
    (ht : ∀ (s : Shared) (H : Hp) (C : Addr) (cl : List (Str × Addr)) (fp : List Addr), PTs (X.blk s H scope (compEnvC scope cl C X.env) fp) ifs (rdT X.K cond))
    (he : ∀ (s : Shared) (H : Hp) (C : Addr) (cl : List (Str × Addr)) (fp : List Addr), DE (X.blk s H scope (compEnvC scope cl C X.env) fp) elt te)
    (hs : ∀ x, foldedSetIterable iter X.env x = pure x) (hjs : ∀ j ∈ js, j ∈ own.map (·.2)) : DS X (.Assign [.Name y py] (.ListComp elt [⟨tg, iter, ifs, 0⟩] scope pos) spos) (sAsg (dComp (own.map (·.2)) src tgt cond te) (tName i)) :=
  ps_weak (ps_setLc (g := rdG X.K js tgt) (tt := rdT X.K cond) (te := rd X.K te) hc hN hy hyl hsw hi ok (fun s H C cl fp => hg s H C cl fp) ht (fun s H C cl fp => he s H C cl fp) hs) fun D σ H q => by
    have h := asg_read (js := [i]) q
    obtain ⟨B, ρ, r, ρ', hl, er, e, k⟩ := h
    exact comp_read (js := js) hjs ⟨B, ρ, r, ρ', hl, er, e, fun v H1 lk st rr => gname_read (k v H1 lk st rr)⟩
/-- a, b, .. = x, y, .. -/
def sAsgT (ts : TDs) (n : Nat) (gs : TGDs) : TSD := fun ρ => match ts ρ with
  | some (rs, ρ1) => match res rs ρ1 with
    | some (qs, ρ2) => if qs.length = n then match gs qs ρ2 with
        | some ρ3 => some (.nx ρ3)
        | none => none
      else none
    | none => none
  | none => none
theorem asgT_read {K : PySem.W.Frag} {ts : TDs} {n : Nat} {gs : TGDs} {js : List Nat} {D : Ends} {σ : St} {H : Hp} (hn : n ≤ 1000) (q : rdS K (sAsgT ts n gs) D σ H) : rds K ts σ H fun vs H1 => vs.length = n ∧
    (∀ H2, Same H1 H2 → rdGs K js gs vs σ H2 D.nx) := by
  obtain ⟨B, ρ, o, hl, er, e, p⟩ := q
  unfold sAsgT at e
  split at e
  · rename_i rs ρ1 e1
    split at e
    · rename_i qs ρ2 e2
      split at e
      · rename_i hq
        split at e
        · rename_i ρ3 e3
          cases e
          refine ⟨B, ρ, rs, ρ1, hl, er, e1, fun vs H1 lk st rr => ?_⟩
          have hl1 := lk.len.trans hl
          obtain ⟨h1, h2, h3, h4, h5, h6⟩ := res_ok hl1 e2 rr.er rr.len rr.bo
          refine ⟨h4.symm.trans hq, fun H2 sm => ?_⟩
          refine ⟨B, ρ2, qs, ρ3, h2.len.trans hl1, er_same h1 sm, h4, by simpa using h5, e3, fun σ' H' lk2 st2 er2 _ => ?_⟩
          refine p σ' H' (((lk.trans h2).s σ).trans lk2) ⟨fun b o hb nb => ?_, fun b t z => ?_, fun b t => ?_⟩ er2
          · refine st2.keep b o (sm b o (st.keep b o hb nb)) fun z => ?_
            rcases own_app.mp z with z | z
            · exact nb (st.own b (by rw [hb]; simp) (h3 b z))
            · rw [rr.fr b (h6 b z)] at hb; cases hb
          · have t1 := st.trk b t
            have t2 : H2 b ≠ none := by
              cases q : H1 b with
              | none => exact absurd q t1
              | some o => rw [sm b o q]; simp
            rcases own_app.mp (st2.own b t2 z) with z | z
            · exact st.own b t (h3 b z)
            · exact absurd (rr.fr b (h6 b z)) t
          · have t1 := st.trk b t
            have t2 : H2 b ≠ none := by
              cases q : H1 b with
              | none => exact absurd q t1
              | some o => rw [sm b o q]; simp
            exact st2.trk b t2
        · cases e
      · cases e
    · cases e
  · cases e
/-- by a tuple -/
theorem ds_asgT {es vs : List Expr} {k k2 n : Nat} {tpos vpos : Pos} {ts : TDs} {gs : TGDs} {js : List Nat} (hc : X.calm = true) (hn : n ≤ 1000) (ha : DA X vs ts) (hg : DGs X es js gs) (hlen : (assignEach es X.env).length = n) (hst : (assignEach es X.env).findIdx? (·.1) = none)
    (hs : swapsWithSole [.Tuple es k tpos] (.Tuple vs k2 vpos) pos.line X.env = pure false) (hw : swappedStores [.Tuple es k tpos] (.Tuple vs k2 vpos) X.env = pure none) (h1 : (assignEach [.Tuple es k tpos] X.env).map (·.2) = [assign (.Tuple es k tpos) X.env]) :
    DS X (.Assign [.Tuple es k tpos] (.Tuple vs k2 vpos) pos) (sAsgT ts n gs) :=
  ps_weak (ps_asg (pe_tup ha) (pg_tup hc hg hlen hst) hs hw h1) fun D σ H q => by
    obtain ⟨B, ρ, rs, ρ1, hl, er, e, kk⟩ := asgT_read (js := js) hn q
    refine ⟨B, ρ, rs, ρ1, hl, er, e, fun vs H1 lk st rr => ?_⟩
    obtain ⟨h1, h2⟩ := kk vs H1 lk st rr
    refine ⟨lt1000 (by rw [h1]; exact hn), fun p np => ⟨p, vs, rfl, .inl (.inl upd_same), h1, h2 _ (upd_same_of np)⟩⟩
/-- .. of two plain names -/
theorem ds_par {i j : Nat} {x y : Str} {a b : Expr} {ts : TDs} {px py pt : Pos} {kt k2 pt2} (hc : X.calm = true) (hN : X.N.Nodup) (hi : X.N[i]? = some x) (hj : X.N[j]? = some y) (hij : i ≠ j)
    (hx : X.env.scope.names.lookup x = some .local) (hy : X.env.scope.names.lookup y = some .local) (ha : DA X [a, b] ts)
    (hw : swappedStores [.Tuple [.Name x px, .Name y py] kt pt] (.Tuple [a, b] k2 pt2) X.env = pure (some [x, y]))
    (hs : swapsWithSole [.Tuple [.Name x px, .Name y py] kt pt] (.Tuple [a, b] k2 pt2) pos.line X.env = pure false) :
    DS X (.Assign [.Tuple [.Name x px, .Name y py] kt pt] (.Tuple [a, b] k2 pt2) pos) (sAsgT ts 2 (gsCons (tName i) (gsCons (tName j) gsNil))) :=
  ps_weak (ps_par hc hN hi hj hij hx hy ha hw hs) fun D σ H q => by
    obtain ⟨B, ρ, rs, ρ1, hl, er, e, kk⟩ := asgT_read (js := [i] ++ ([j] ++ [])) (by decide) q
    refine ⟨B, ρ, rs, ρ1, hl, er, e, fun vs H1 lk st rr => ?_⟩
    obtain ⟨h1, h2⟩ := kk vs H1 lk st rr
    obtain ⟨v, u, rfl⟩ : ∃ v u, vs = [v, u] := by
      match vs, h1 with
      | [v, u], _ => exact ⟨v, u, rfl⟩
    refine ⟨v, u, rfl, ?_⟩
    obtain ⟨v', r', ev, g1⟩ := gcons_read (h2 H1 (.refl _))
    cases ev
    have g2 := gname_read g1
    obtain ⟨v', r', ev, g3⟩ := gcons_read g2
    cases ev
    have g4 := gname_read g3
    obtain ⟨B4, ρ4, rs4, ρ5, hl4, er4, hlen4, hfa4, e4, k4⟩ := g4
    unfold gsNil at e4
    split at e4
    · cases e4
      exact k4 _ _ (.refl _ _) (stp_own fun a z => own_app.mpr (.inl z)) er4.left fun _ _ => rfl
    · cases e4
theorem ds_par3 {i j l : Nat} {x y z : Str} {a b c : Expr} {ts : TDs} {px py pz pt : Pos} {kt k2 pt2} (hc : X.calm = true) (hN : X.N.Nodup) (hi : X.N[i]? = some x) (hj : X.N[j]? = some y) (hl : X.N[l]? = some z) (hij : i ≠ j) (hil : i ≠ l) (hjl : j ≠ l)
    (hx : X.env.scope.names.lookup x = some .local) (hy : X.env.scope.names.lookup y = some .local) (hz : X.env.scope.names.lookup z = some .local) (ha : DA X [a, b, c] ts)
    (hw : swappedStores [.Tuple [.Name x px, .Name y py, .Name z pz] kt pt] (.Tuple [a, b, c] k2 pt2) X.env = pure (some [x, y, z]))
    (hs : swapsWithSole [.Tuple [.Name x px, .Name y py, .Name z pz] kt pt] (.Tuple [a, b, c] k2 pt2) pos.line X.env = pure false) :
    DS X (.Assign [.Tuple [.Name x px, .Name y py, .Name z pz] kt pt] (.Tuple [a, b, c] k2 pt2) pos) (sAsgT ts 3 (gsCons (tName i) (gsCons (tName j) (gsCons (tName l) gsNil)))) :=
  ps_weak (ps_par3 hc hN hi hj hl hij hil hjl hx hy hz ha hw hs) fun D σ H q => by
    obtain ⟨B, ρ, rs, ρ1, hl, er, e, kk⟩ := asgT_read (js := [i] ++ ([j] ++ ([l] ++ []))) (by decide) q
    refine ⟨B, ρ, rs, ρ1, hl, er, e, fun vs H1 lk st rr => ?_⟩
    obtain ⟨h1, h2⟩ := kk vs H1 lk st rr
    obtain ⟨v, u, w, rfl⟩ : ∃ v u w, vs = [v, u, w] := by
      match vs, h1 with
      | [v, u, w], _ => exact ⟨v, u, w, rfl⟩
    refine ⟨v, u, w, rfl, ?_⟩
    obtain ⟨v', r', ev, g1⟩ := gcons_read (h2 H1 (.refl _))
    cases ev
    have g2 := gname_read g1
    obtain ⟨v', r', ev, g3⟩ := gcons_read g2
    cases ev
    have g4 := gname_read g3
    obtain ⟨v', r', ev, g5⟩ := gcons_read g4
    cases ev
    have g6 := gname_read g5
    obtain ⟨B4, ρ4, rs4, ρ5, hl4, er4, hlen4, hfa4, e4, k4⟩ := g6
    unfold gsNil at e4
    split at e4
    · cases e4
      exact k4 _ _ (.refl _ _) (stp_own fun a z => own_app.mpr (.inl z)) er4.left fun _ _ => rfl
    · cases e4

/-! ### methods of a list that a name owns -/
def dApp (i : Nat) (t : TD) : TD := fun ρ => match ownAt ρ i with
  | some _ => match t ρ with
    | some (r, ρ1) => match frz [r] ρ1 with
      | some ([d], ρ2) => match ownAt ρ2 i with
        | some (p, xs) => if xs.length < 1000000 then some (.v .none, ρ2.set i (some (.own p (xs ++ [d])))) else none
        | none => none
      | _ => none
    | none => none
  | none => none
theorem de_app {o e : Expr} {i : Nat} {apos cpos : Pos} (ho : PE X o (tVar i)) (h : DE X e t) (hpe : ∀ {r : V → List V → Hp → VK → Prop} {to : TE} {ta : TA}, MtM X "list.append" r → PE X o to → PA X [e] ta → PE X (.Call (.Attribute o "append" apos) [e] [] cpos) (tBM X.K "list" r to ta))
    (hs : starEach [e] X.env = (false, eval e X.env) :: starEach [] X.env) : DE X (.Call (.Attribute o "append" apos) [e] [] cpos) (dApp i t) := by
  refine pe_weak (hpe mt_append ho (pa_cons h pa_nil hs)) fun σ H Q q => ?_
  obtain ⟨B, ρ, r, ρ', hl, er, e, k⟩ := q
  unfold dApp at e
  split at e
  · rename_i q0 e0
    obtain ⟨p0, xs0⟩ := q0
    have e0 := ownAt_some e0
    obtain ⟨w, hw, mw⟩ := zget hl e0
    obtain ⟨a, us0, ea, hus0, _⟩ := er.own _ _ _ mw
    subst ea
    split at e
    · rename_i r1 ρ1 e1
      split at e
      · rename_i d ρ2 e2
        split at e
        · rename_i p xs e3
          have e3 := ownAt_some e3
          split at e
          · rename_i hlen
            cases e
            refine ⟨.ref a, hw, .inl ⟨rfl, us0, .inl (.inl hus0)⟩, B, ρ, r1, ρ1, hl, er, e1, fun v H1 lk st rr => ?_⟩
            have hl1 := lk.len.trans hl
            obtain ⟨h1, h2, h3, h4⟩ := frz_ok hl1 e2 rr
            obtain ⟨a2, us, ea, hus, rus, nb⟩ := h1.own _ _ _ (mem_Z e3 hw)
            cases ea
            obtain ⟨m1, m2, m3⟩ := mut_slot (h3.len.trans hl1) e3 hw h1 (rus.app (.cons h2.one .nil))
            refine ⟨a, us, v, rfl, rfl, hus, by rw [rus.len]; exact Nat.lt_of_lt_of_le hlen (by decide), ?_⟩
            exact k .non _ ((lk.trans h3).trans m3) ((st.trans (stp_own h4)).trans m2) (rss_val m1 rep_non)
          · cases e
        · cases e
      · cases e
    · cases e
  · cases e
/-- x.pop() -/
def dPop (i : Nat) : TD := fun ρ => match ownAt ρ i with
  | some (p, xs) => match xs[xs.length - 1]? with
    | some d => some (.v d, ρ.set i (some (.own p xs.dropLast)))
    | none => none
  | none => none
theorem de_pop {o : Expr} {i : Nat} {apos cpos : Pos} (ho : PE X o (tVar i)) (hpe : ∀ {r : V → List V → Hp → VK → Prop} {to : TE}, MtM X "list.pop" r → PE X o to → PE X (.Call (.Attribute o "pop" apos) [] [] cpos) (tBM0 X.K "list" r to)) :
    DE X (.Call (.Attribute o "pop" apos) [] [] cpos) (dPop i) := by
  refine pe_weak (hpe mt_pop ho) fun σ H Q q => ?_
  obtain ⟨B, ρ, r, ρ', hl, er, e, k⟩ := q
  unfold dPop at e
  split at e
  · rename_i p xs e0
    have e0 := ownAt_some e0
    split at e
    · rename_i d ed
      cases e
      obtain ⟨w, hw, mw⟩ := zget hl e0
      obtain ⟨a, us, ea, hus, rus, _⟩ := er.own _ _ _ mw
      subst ea
      obtain ⟨y, hy, ry⟩ := rus.get ed
      obtain ⟨m1, m2, m3⟩ := mut_slot hl e0 hw er rus.dropLast
      refine ⟨.ref a, hw, .inl ⟨rfl, us, .inl (.inl hus)⟩, a, us, y, rfl, rfl, hus, by rw [rus.len]; exact hy, ?_⟩
      exact k y _ m3 m2 (rss_val m1 (ry.step er m2))
    · cases e
  · cases e
end
/-! ### loops -/
def loopF (tgt : TGD) (body : TSD) : List D → Rho → Option Out
  | [], ρ => some (.nx ρ)
  | d :: ds, ρ => match tgt (.v d) ρ with
    | some ρ1 => match body ρ1 with
      | some (.nx ρ2) => loopF tgt body ds ρ2
      | some (.ct ρ2) => loopF tgt body ds ρ2
      | some (.bk ρ2) => some (.nx ρ2)
      | some (.rt r ρ2) => some (.rt r ρ2)
      | none => none
    | none => none
def sFor (src : TSr) (tgt : TGD) (body : TSD) : TSD := fun ρ => match src ρ with
  | some (its, ρ1) => loopF tgt body its ρ1
  | none => none
section
variable {X : Cx} {pos : Pos}
theorem for_read {K : PySem.W.Frag} {src : TSr} {tgt : TGD} {body : TSD} {js : List Nat} {D : Ends} {σ : St} {H : Hp} (q : rdS K (sFor src tgt body) D σ H) : tFor (rdI K src) (rdG K js tgt) (rdS K body) D σ H := by
  obtain ⟨B, ρ, o, hl, er, e, p⟩ := q
  unfold sFor at e
  split at e
  · rename_i its ρ1 e1
    refine ⟨B, ρ, its, ρ1, hl, er, e1, fun J H1 lk st er1 sok => ?_⟩
    obtain ⟨Y, w, hY⟩ := sok
    have hl1 := lk.len.trans hl
    let Pv : Nat → St → Hp → Prop := fun i σi Hi => ∃ ρi o', ρi.length = σi.length ∧ LkS ρ1 ρi σ σi ∧ Stp (Z ρ1 σ) H1 (Z ρi σi) Hi ∧ ER K Hi B (Z ρi σi) ∧ loopF tgt body (its.drop i) ρi = some o' ∧ post K D B ρi σi Hi o'
    refine for_it w Pv ⟨ρ1, o, hl1, .refl _ _, .refl, er1, e, post_go (lk.s σ) st p⟩ (fun i σi Hi _ hP b ob hb nb => ?_) (fun i x σi Hi Hi' hi hP hy => ?_) (fun σn Hn hP => ?_)
    · obtain ⟨ρi, o', _, _, sti, _⟩ := hP
      exact sti.keep b ob hb nb
    · obtain ⟨ρi, o', hli, lki, sti, eri, ei, pi⟩ := hP
      have hstay : Stay ρ1 σ H1 Hi := fun b ob hb nb => sti.keep b ob hb nb
      obtain ⟨sm, d, hd, hrep⟩ := hY i Hi x Hi' hi hstay hy
      have hdrop : its.drop i = d :: its.drop (i + 1) := by
        have := List.drop_eq_getElem_cons hi
        rw [this]
        congr 1
        have h2 := List.getElem?_eq_getElem hi
        rw [hd] at h2
        exact (Option.some.inj h2).symm
      rw [hdrop] at ei
      unfold loopF at ei
      split at ei
      · rename_i ρa ea
        have eri' := er_same eri sm
        have hmA : ∀ b, H1 b ≠ none → AO B (Z ρi σi) b → AO B (Z ρ1 σ) b := fun b t z => z.elim .inl fun z => .inr (sti.own b t z)
        have erT := (eri'.dup (hrep _ hmA)).perm (List.perm_append_comm (l₁ := [(some (Slot.val d), some x)]))
        refine ⟨B, ρi, .v d, ρa, hli, erT, rfl, ea, fun σ2 H2 lk2 st2 er2 _ => ?_⟩
        have hl2 : ρa.length = σ2.length := by rw [lk2.len, hli, lk2.slen]
        have st2' : Stp (Z ρi σi) Hi' (Z ρa σ2) H2 := ⟨fun b o q n => st2.keep b o q fun z => (own_app.mp z).elim n fun z => own_nil (own_valcons z), fun b t z => (own_app.mp (st2.own b t z)).elim id fun z => (own_nil (own_valcons z)).elim, st2.trk⟩
        have stT : Stp (Z ρi σi) Hi (Z ρa σ2) H2 := (Stp.same sm).trans st2'
        have p2 := post_go lk2 stT pi
        split at ei
        · rename_i ρb eb
          refine ⟨B, ρa, _, hl2, er2, eb, fun σ3 H3 lk3 st3 er3 => ?_⟩
          exact ⟨ρb, o', (lk3.len.trans hl2).trans lk3.slen.symm, (lki.trans lk2).trans lk3, (sti.trans stT).trans st3, er3, ei, post_go lk3 st3 p2⟩
        · rename_i ρb eb
          refine ⟨B, ρa, _, hl2, er2, eb, fun σ3 H3 lk3 st3 er3 => ?_⟩
          exact ⟨ρb, o', (lk3.len.trans hl2).trans lk3.slen.symm, (lki.trans lk2).trans lk3, (sti.trans stT).trans st3, er3, ei, post_go lk3 st3 p2⟩
        · rename_i ρb eb
          cases ei
          exact ⟨B, ρa, _, hl2, er2, eb, fun σ3 H3 lk3 st3 er3 => p2 σ3 H3 lk3 st3 er3⟩
        · rename_i r ρb eb
          cases ei
          exact ⟨B, ρa, _, hl2, er2, eb, p2⟩
        · cases ei
      · cases ei
    · obtain ⟨ρi, o', hli, lki, sti, eri, ei, pi⟩ := hP
      rw [List.drop_length] at ei
      unfold loopF at ei
      cases ei
      exact pi σn Hn (.refl _ _) .refl eri
  · cases e
theorem ds_for {tg iter : Expr} {body : List Stmt} {src : TSr} {tgt : TGD} {tb : TSD} {js : List Nat} (hp : PassesOwn (model X.prog X.w) X.A X.env X.xe) (hc : X.calm = true) (hi : DI X tg iter src) (hg : DG X tg js tgt) (hb : DSs X body tb) (hs : ∀ x, foldedSetIterable iter X.env x = pure x) :
    DS X (.For tg iter body [] pos) (sFor src tgt tb) := ps_weak (ps_for hp hc hi hg hb hs) fun _ _ _ q => for_read q
def whileN (c : TB) (body : TSD) : Nat → Rho → Option Out
  | 0, _ => none
  | n + 1, ρ => match c ρ with
    | some (true, ρ1) => match body ρ1 with
      | some (.nx ρ2) => whileN c body n ρ2
      | some (.ct ρ2) => whileN c body n ρ2
      | some (.bk ρ2) => some (.nx ρ2)
      | some (.rt r ρ2) => some (.rt r ρ2)
      | none => none
    | some (false, ρ1) => some (.nx ρ1)
    | none => none
theorem whileN_more {c : TB} {body : TSD} : ∀ {n m : Nat} {ρ : Rho} {o : Out}, whileN c body n ρ = some o → n ≤ m → whileN c body m ρ = some o
  | 0, _, _, _, h, _ => by simp [whileN] at h
  | n + 1, 0, _, _, _, hm => by omega
  | n + 1, m + 1, ρ, o, h, hm => by
    unfold whileN at h ⊢
    split at h
    · rename_i ρ1 e1
      split at h
      · rename_i ρ2 e2
        exact whileN_more h (by omega)
      · rename_i ρ2 e2
        exact whileN_more h (by omega)
      · exact h
      · exact h
      · cases h
    · exact h
    · cases h
/-- a while, however many turns it takes -/
noncomputable def sWhile (c : TB) (body : TSD) : TSD := fun ρ => open Classical in if h : ∃ n o, whileN c body n ρ = some o then some h.choose_spec.choose else none
theorem sWhile_eq {c : TB} {body : TSD} {n : Nat} {ρ : Rho} {o : Out} (h : whileN c body n ρ = some o) : sWhile c body ρ = some o := by
  unfold sWhile
  have hx : ∃ n o, whileN c body n ρ = some o := ⟨n, o, h⟩
  rw [dif_pos hx]
  have q := hx.choose_spec.choose_spec
  have h1 := whileN_more h (Nat.le_max_left n hx.choose)
  have h2 := whileN_more q (Nat.le_max_right n hx.choose)
  rw [h1] at h2
  exact h2.symm
theorem sWhile_some {c : TB} {body : TSD} {ρ : Rho} {o : Out} (h : sWhile c body ρ = some o) : ∃ n, whileN c body n ρ = some o := by
  unfold sWhile at h
  split at h
  · rename_i hx
    have q := hx.choose_spec.choose_spec
    cases h
    exact ⟨_, q⟩
  · cases h
theorem while_read {K : PySem.W.Frag} {c : TB} {body : TSD} {D : Ends} {σ : St} {H : Hp} (q : rdS K (sWhile c body) D σ H) : tWhile (rdT K c) (rdS K body) D σ H := by
  obtain ⟨B, ρ, o, hl, er, e, p⟩ := q
  obtain ⟨n, e⟩ := sWhile_some e
  refine ⟨fun m σ H => ∃ ρi o', ρi.length = σ.length ∧ ER K H B (Z ρi σ) ∧ whileN c body m ρi = some o' ∧ post K D B ρi σ H o', ⟨n, ρ, o, hl, er, e, p⟩, fun m σi Hi hW => ?_⟩
  obtain ⟨ρi, o', hli, eri, ei, pi⟩ := hW
  cases m with
  | zero => simp [whileN] at ei
  | succ m =>
    unfold whileN at ei
    split at ei
    · rename_i ρ1 e1
      refine ⟨B, ρi, true, ρ1, hli, eri, e1, fun H1 lk st er1 => iteT ?_⟩
      have hl1 := lk.len.trans hli
      have p1 := post_go (lk.s σi) st pi
      refine ⟨fun σ' H' => ∃ ρ2, ρ2.length = σ'.length ∧ ER K H' B (Z ρ2 σ') ∧ whileN c body m ρ2 = some o' ∧ post K D B ρ2 σ' H' o' , fun σ' H' ⟨ρ2, a1, a2, a3, a4⟩ => ⟨m, Nat.lt_succ_self m, ρ2, o', a1, a2, a3, a4⟩, ?_⟩
      split at ei
      · rename_i ρ2 e2
        exact ⟨B, ρ1, _, hl1, er1, e2, fun σ2 H2 lk2 st2 er2 => ⟨ρ2, (lk2.len.trans hl1).trans lk2.slen.symm, er2, ei, post_go lk2 st2 p1⟩⟩
      · rename_i ρ2 e2
        exact ⟨B, ρ1, _, hl1, er1, e2, fun σ2 H2 lk2 st2 er2 => ⟨ρ2, (lk2.len.trans hl1).trans lk2.slen.symm, er2, ei, post_go lk2 st2 p1⟩⟩
      · rename_i ρ2 e2
        cases ei
        exact ⟨B, ρ1, _, hl1, er1, e2, fun σ2 H2 lk2 st2 er2 => p1 σ2 H2 lk2 st2 er2⟩
      · rename_i r ρ2 e2
        cases ei
        exact ⟨B, ρ1, _, hl1, er1, e2, p1⟩
      · cases ei
    · rename_i ρ1 e1
      cases ei
      exact ⟨B, ρi, false, ρ1, hli, eri, e1, fun H1 lk st er1 => iteF (pi σi H1 (lk.s σi) st er1)⟩
    · cases ei
theorem ds_while {c : Expr} {body : List Stmt} {tc : TB} {tb : TSD} (hp : PassesOwn (model X.prog X.w) X.A X.env X.xe) (hc : DT X c tc) (hb : DSs X body tb) : DS X (.While c body [] pos) (sWhile tc tb) := ps_weak (ps_while hp hc hb) fun _ _ _ q => while_read q
end

/-! ### a def's body -/
def fin : Out → Option R
  | .nx _ => some (.v .none)
  | .rt (.v d) _ => some (.v d)
  | .rt (.o xs) _ => some (.o xs)
  | .rt (.b i) ρ => match ρ[i]? with
    | some (some (.own false xs)) => some (.o xs)
    | some (some (.val d)) => some (.v d)
    | _ => none
  | _ => none
def startR (n : Nat) (ds : List D) : Rho := ds.map (fun d => some (.val d)) ++ List.replicate (n - ds.length) none
def runP (n : Nat) (t : TSD) (ds : List D) : Option R := match t (startR n ds) with
  | some o => fin o
  | none => none
def startV (n : Nat) (xs : List D) (ds : List D) : Rho := some (.own true xs) :: (ds.map (fun d => some (.val d)) ++ List.replicate (n - (ds.length + 1)) none)
def endV (o : Out) : Option (List D) := match o with
  | .nx ρ => (ownAt ρ 0).map (·.2)
  | .rt _ ρ => (ownAt ρ 0).map (·.2)
  | _ => none
def runV (n : Nat) (t : TSD) (xs ds : List D) : Option (R × List D) := match t (startV n xs ds) with
  | some o => match fin o with
    | some r => match endV o with
      | some xs' => some (r, xs')
      | none => none
    | none => none
  | none => none
section
variable {K : PySem.W.Frag} {H H' : Hp} {B : Addr → Prop}
theorem er_vals : ∀ {ds : List D} {vs : List V}, (∀ b, B b → H b ≠ none) → RepA K H B ds vs → ∀ n, ER K H B (Z (ds.map (fun d => some (Slot.val d)) ++ List.replicate n none) (vs.map some ++ List.replicate n none)) ∧
    ∀ a, ¬ Own (Z (ds.map (fun d => some (Slot.val d)) ++ List.replicate n none) (vs.map some ++ List.replicate n none)) a
  | [], vs, hB, r, n => by
    unfold RepA at r
    subst r
    have key : ∀ n : Nat, ER K H B (Z (List.replicate n (none : Option Slot)) (List.replicate n (none : Option V))) ∧ ∀ a, ¬ Own (Z (List.replicate n (none : Option Slot)) (List.replicate n (none : Option V))) a := fun n => by
      induction n with
      | zero => exact ⟨⟨fun _ _ m => (nomatch m), fun _ _ _ m => (nomatch m), List.Pairwise.nil, hB⟩, fun a z => own_nil z⟩
      | succ n ih =>
        refine ⟨ih.1.blank, fun a z => ?_⟩
        rcases own_cons.mp z with ⟨_, _, z⟩ | z
        · cases z
        · exact ih.2 a z
    simpa using key n
  | d :: ds, vs, hB, r, n => by
    unfold RepA at r
    obtain ⟨v, ws, rfl, h1, h2⟩ := r
    obtain ⟨q1, q2⟩ := er_vals hB h2 n
    refine ⟨q1.dup (h1.mono fun b z => z.elim id fun z => (q2 b z).elim), fun a z => q2 a (own_valcons z)⟩
/-- the result of a body, as a def's -/
theorem fin_rn {ρ : Rho} {σ : St} {r q : R} {v : V} (hl : ρ.length = σ.length) (rr : RSs K H H' B ρ σ [r] [v]) (ho : ∀ a, Own (Z ρ σ) a → (∃ (i : Nat) (xs : List D), ρ[i]? = some (some (Slot.own false xs)) ∧ σ[i]? = some (some (V.ref a))) → H a = none) (e : fin (.rt r ρ) = some q) :
    RN K H H' (AO B (Z ρ σ)) q v ∨ (∃ (i : Nat) (xs : List D) (a : Addr), r = .b i ∧ q = .o xs ∧ v = .ref a ∧ ρ[i]? = some (some (Slot.own false xs)) ∧ σ[i]? = some (some (V.ref a)) ∧ H a = none) := by
  cases r with
  | v d =>
    simp only [fin] at e; cases e
    obtain ⟨u, eu, rp⟩ := rr.er.val d _ (List.mem_append_right _ List.mem_cons_self)
    cases eu
    exact .inl (Rep.mono rp fun b z => z.elim .inl fun z => .inr (own_app.mpr (.inl z)))
  | o xs =>
    simp only [fin] at e; cases e
    obtain ⟨a, us, ea, hus, rus, nb⟩ := rr.er.own false xs _ (List.mem_append_right _ List.mem_cons_self)
    cases ea
    refine .inl ⟨a, us, rfl, rr.fr a (own_cons.mpr (.inl ⟨false, xs, rfl⟩)), hus, rus.mono fun b z => ?_⟩
    rcases z with (z | z) | z
    · exact .inl z
    · exact .inr (own_app.mpr (.inl z))
    · subst z; exact .inr (own_app.mpr (.inr (own_cons.mpr (.inl ⟨false, xs, rfl⟩))))
  | b i =>
    obtain ⟨w, ew, ei⟩ := rr.bo 0 i rfl
    have ew : v = w := by simpa using ew
    subst ew
    simp only [fin] at e
    split at e
    · rename_i xs e1
      cases e
      obtain ⟨a, us, ea, hus, rus, nb⟩ := rr.er.left.own _ _ _ (mem_Z e1 ei)
      cases ea
      exact .inr ⟨i, xs, a, rfl, rfl, rfl, e1, ei, ho a ⟨false, xs, mem_Z e1 ei⟩ ⟨i, xs, e1, ei⟩⟩
    · rename_i d e1
      cases e
      obtain ⟨u, eu, rp⟩ := rr.er.left.val d _ (mem_Z e1 ei)
      cases eu
      exact .inl rp
    · cases e
end
end Dn

set_option Elab.async false
set_option linter.all false
set_option maxRecDepth 100000
set_option maxHeartbeats 2000000
namespace Dn
open PySem PySem.Spec PyProof.Rows L2

theorem RN.mono {K : PySem.W.Frag} {H H' : Hp} {A A' : Addr → Prop} {r : R} {w : V} (h : RN K H H' A r w) (hA : ∀ b, A' b → A b) : RN K H H' A' r w := by
  cases r with
  | v d => exact Rep.mono (K := K) (H := H') h hA
  | o xs =>
    obtain ⟨p, vs, e, np, hp, r⟩ := h
    exact ⟨p, vs, e, np, hp, r.mono fun b z => z.imp (hA b) id⟩
  | b i => exact h
theorem fn_g {CX : CXT} {P : Program} {w : World} {K : PySem.W.Frag} {mg : Str → Option Value} {base : Heap} {k : Nat} {f : Addr} {name qual : Str} {params : Arguments} {body : List Stmt} {scope : Scope} {dV kV doc pm cdv ct oc : Value} {an od : Option Addr}
    {osl : Array (Option Value)} {N ps : List Str} {sp : Sp} (lk : K.lookup f = some ⟨oc, od, .func (PySem.W.fnOf name qual params body scope dV kV doc pm an cdv ct), osl⟩) (hcd : PySem.W.codeIn K cdv qual = true) (S : FnScope N ps scope)
    (len : ∀ vs H Q E, sp vs H Q E → vs.length = ps.length)
    (hbody : ∀ (A : Around) (outer : List Env) (s : Shared) (H : Hp) (vs : List V) (Q : VK) (E : XK), Room k (A.deeper (envOfC qual scope s.heap.objs.size f cdv)) → (A.deeper (envOfC qual scope s.heap.objs.size f cdv)).guards = some [] → sp vs H Q E →
      ∃ t, PSs (cxOf CX P w K mg base N qual scope f cdv A outer s H E) body t ∧ t { nx := fun _ H' => Q .non H', rt := Q } (start N vs) H) :
    FnG P w K mg base CX (k + 1) f (PySem.W.fnOf name qual params body scope dV kV doc pm an cdv ct) ps sp := by
  refine ⟨len, fun A outer s H args us vs Q E hr hg e0 hb r hsp => ?_⟩
  have hl := len _ _ _ _ hsp
  have kin : K.In s.heap := e0.mod.kin.keeps fun b o z => (e0.bs b o z).1
  refine Att.call_fn (R := CR CX outer P w H s Q E) kin (e0.mod.nolimit.keeps fun b o z => (e0.bs b o z).1) lk hcd hr.depth hb ?_ (fun s1 x => ?_) S.co S.gen S.kind
  · refine List.all_eq_true.mpr fun y hy => ?_
    rcases S.par y.1 (List.of_mem_zip (show (y.1, y.2) ∈ _ from hy)).1 with q | q
    · rw [q]; rfl
    · rw [q]; rfl
  obtain ⟨t, ht, hq⟩ := hbody A outer s H vs Q E (hr.deeper _) hg hsp
  have inv : Inv (cxOf CX P w K mg base N qual scope f cdv A outer s H E) [] (start N vs) H s1 := inv_start S hr.hd e0 hl r x
  have done : ∀ {σ' : St} {H' : Hp} {v : V} {u : Value} {s' : Shared}, Inv (cxOf CX P w K mg base N qual scope f cdv A outer s H E) [] σ' H' s' → RelV v u → Q v H' → CE outer P w H s Q u s' :=
    fun {σ' H' v u s'} i rv q => ⟨v, H', i.os, i.bare, i.base, i.hok, rv, q⟩
  refine wpAny_mono (ht.run [] s1 (start N vs) H _ inv hq) (fun fl s' hs => ?_) fun e s' hs => hs
  match fl, hs with
  | .ret u, ⟨v, σ', H', i, rv, q⟩ => exact done i rv q
  | .next, ⟨σ', H', i, q⟩ => exact done (v := V.non) (u := Value.none) i rfl q
  | .brk, ⟨_, _, _, q⟩ => exact q.elim
  | .cont, ⟨_, _, _, q⟩ => exact q.elim

section
variable {K : PySem.W.Frag} {H H' : Hp} {B : Addr → Prop}
theorem same_of {ρ ρ' : Rho} {σ σ' : St} (no : ∀ a, ¬ Own (Z ρ σ) a) (st : Stp (Z ρ σ) H (Z ρ' σ') H') : Same H H' := fun b o e => st.keep b o e (no b)
theorem repA_len : ∀ {ds : List D} {vs : List V}, RepA K H B ds vs → ds.length = vs.length
  | [], vs, r => by unfold RepA at r; subst r; rfl
  | d :: ds, vs, r => by
    unfold RepA at r
    obtain ⟨v, ws, rfl, _, h2⟩ := r
    rw [List.length_cons, List.length_cons, repA_len h2]
theorem fin_some {o : Out} {r : R} (h : fin o = some r) : (∃ ρ, o = .nx ρ ∧ r = .v .none) ∨ ∃ q ρ, o = .rt q ρ := by
  cases o with
  | nx ρ => cases h; exact .inl ⟨ρ, rfl, rfl⟩
  | rt q ρ => exact .inr ⟨q, ρ, rfl⟩
  | bk ρ => cases h
  | ct ρ => cases h
/-- the reading of a body whose def takes values -/
theorem run_read {N ps : List Str} {t : TSD} {vs : List V} {Q : VK} {E : XK} (h : spP K ps.length (runP N.length t) vs H Q E) : rdS K t { nx := fun _ H' => Q .non H', rt := Q } (start N vs) H := by
  obtain ⟨B, ds, r, hl, hB, rep, e, k⟩ := h
  have hd := repA_len rep
  unfold runP at e
  cases eo : t (startR N.length ds) with
  | none => rw [eo] at e; cases e
  | some o =>
    rw [eo] at e
    have e : fin o = some r := e
    obtain ⟨er, no⟩ := er_vals hB rep (N.length - vs.length)
    have hρ : startR N.length ds = ds.map (fun d => some (Slot.val d)) ++ List.replicate (N.length - vs.length) none := by unfold startR; rw [hd]
    rw [← hρ] at er no
    refine ⟨B, startR N.length ds, o, by rw [hρ]; simp [L2.start, hd], er, eo, ?_⟩
    rcases fin_some e with ⟨ρ', rfl, rfl⟩ | ⟨q, ρ', rfl⟩
    · exact fun σ' H' lk st er' => k .non H' (same_of no st) (rep_non (K := K) (H := H') (A := B))
    · intro v σ' H' hl' lk st rr
      have own0 : ∀ a, Own (Z ρ' σ') a → H a = none := fun a z => Classical.byContradiction fun n => no a (st.own a n z)
      rcases fin_rn hl' rr (fun a z _ => own0 a z) e with z | ⟨i, xs, a, rfl, rfl, rfl, e1, e2, n⟩
      · exact k v H' (same_of no st) (z.mono fun b w => .inl w)
      · obtain ⟨a', us, ea, hus, rus, nb⟩ := rr.er.left.own _ _ _ (mem_Z e1 e2)
        cases ea
        exact k _ H' (same_of no st) ⟨a, us, rfl, n, hus, rus.mono fun b w => w.elim .inl fun w => .inr (by subst w; exact ⟨false, xs, mem_Z e1 e2⟩)⟩

theorem own_entry {σ' : St} {p : Bool} {xs : List D} {us : List V} {a : Addr} {E : Ent} (er : ER K H (fun b => B b ∨ b = a) E) (no : ∀ b, ¬ Own E b) (ha : H a = some (.lst us)) (nb : ¬ B a) (rx : RepA K H (fun b => B b ∨ b = a) xs us) :
    ER K H B ((some (.own p xs), some (.ref a)) :: E) := by
  have hm : ∀ b, AO B ((some (Slot.own p xs), some (V.ref a)) :: E) b → (fun b => B b ∨ b = a) b := fun b z => by
    rcases z with z | z
    · exact .inl z
    · rcases own_cons.mp z with ⟨_, _, z⟩ | z
      · cases z; exact .inr rfl
      · exact (no b z).elim
  refine ⟨fun d v m => ?_, fun p' xs' v m => ?_, List.pairwise_cons.mpr ⟨fun q hq b z1 z2 => no b (own_iff.mpr ⟨q, hq, z2⟩), er.nd⟩, fun b z => er.trk b (.inl z)⟩
  · rcases List.mem_cons.mp m with m | m
    · cases m
    · obtain ⟨u, e, r⟩ := er.val d v m
      exact ⟨u, e, Rep.mono r fun b z => .inl (hm b z)⟩
  · rcases List.mem_cons.mp m with m | m
    · cases m
      exact ⟨a, us, rfl, ha, rx.mono hm, nb⟩
    · obtain ⟨b, vs, e, _⟩ := er.own p' xs' v m
      subst e
      exact (no b ⟨p', xs', m⟩).elim
theorem own_two {ρ : Rho} {σ : St} {i : Nat} {xs ys : List D} {a : Addr} (nd : (Z ρ σ).Pairwise Apart) (h1 : ρ[0]? = some (some (.own true xs))) (h2 : σ[0]? = some (some (.ref a))) (f1 : ρ[i]? = some (some (.own false ys))) (f2 : σ[i]? = some (some (.ref a))) : False := by
  cases ρ with
  | nil => cases h1
  | cons s ρ => cases σ with
    | nil => cases h2
    | cons v σ =>
      have e1 : s = some (.own true xs) := Option.some.inj h1
      have e2 : v = some (.ref a) := Option.some.inj h2
      subst e1 e2
      cases i with
      | zero => have z := h1.symm.trans f1; cases z
      | succ i => exact (List.pairwise_cons.mp (show ((some (Slot.own true xs), some (V.ref a)) :: Z ρ σ).Pairwise Apart from nd)).1 _ (mem_Z (by simpa using f1) (by simpa using f2)) a ⟨_, _, rfl⟩ ⟨_, _, rfl⟩
theorem fin_own {q : R} {ρ : Rho} {xs : List D} (h : fin (.rt q ρ) = some (.o xs)) : ∃ ys, (q = .o ys) ∨ ∃ i, q = .b i ∧ ρ[i]? = some (some (.own false ys)) := by
  cases q with
  | v d => cases h
  | o ys => exact ⟨ys, .inl rfl⟩
  | b i =>
    simp only [fin] at h
    split at h
    · rename_i ys e; exact ⟨ys, .inr ⟨i, rfl, e⟩⟩
    · cases h
    · cases h
/-- .. of one whose first parameter is a list that it may change -/
theorem runV_read {N ps : List Str} {t : TSD} {vs : List V} {Q : VK} {E : XK} (hN : ps.length ≤ N.length) (h : spV K ps.length (runV N.length t) vs H Q E) : rdS K t { nx := fun _ H' => Q .non H', rt := Q } (L2.start N vs) H := by
  obtain ⟨B, a, us, ws, xs, ds, r, xs', rfl, hl, ha, nb, hB, rx, rd, e, k⟩ := h
  have hd := repA_len rd
  unfold runV at e
  cases eo : t (startV N.length xs ds) with
  | none => rw [eo] at e; cases e
  | some o =>
    rw [eo] at e
    cases ef : fin o with
    | none => simp only [ef] at e; cases e
    | some r' =>
      simp only [ef] at e
      cases ev : endV o with
      | none => simp only [ev] at e; cases e
      | some zz =>
        simp only [ev] at e
        cases e
        obtain ⟨er0, no⟩ := er_vals (B := fun b => B b ∨ b = a) (fun b z => z.elim (hB b) fun z => by rw [z, ha]; simp) rd (N.length - (ws.length + 1))
        have hσ : L2.start N (.ref a :: ws) = some (.ref a) :: (ws.map some ++ List.replicate (N.length - (ws.length + 1)) none) := by simp [L2.start]
        have hρ : startV N.length xs ds = some (.own true xs) :: (ds.map (fun d => some (Slot.val d)) ++ List.replicate (N.length - (ws.length + 1)) none) := by unfold startV; rw [hd]
        have er : ER K H B (Z (startV N.length xs ds) (L2.start N (.ref a :: ws))) := by
          rw [hσ, hρ]
          exact own_entry (σ' := []) er0 no ha nb rx
        have on : ∀ b, Own (Z (startV N.length xs ds) (L2.start N (.ref a :: ws))) b → b = a := fun b z => by
          rw [hσ, hρ] at z
          rcases own_cons.mp (show Own ((some (Slot.own true xs), some (V.ref a)) :: _) b from z) with ⟨_, _, z⟩ | z
          · cases z; rfl
          · exact (no b z).elim
        have keepH : ∀ {ρ' : Rho} {σ' : St} {H' : Hp}, Stp (Z (startV N.length xs ds) (L2.start N (.ref a :: ws))) H (Z ρ' σ') H' → ∀ b o, H b = some o → b ≠ a → H' b = some o := fun st b o e n => st.keep b o e fun z => n (on b z)
        have slot0 : ∀ {ρ' : Rho} {σ' : St}, LkS (startV N.length xs ds) ρ' (L2.start N (.ref a :: ws)) σ' → (∃ zs, ρ'[0]? = some (some (.own true zs))) ∧ σ'[0]? = some (some (.ref a)) := fun lk => by
          obtain ⟨h1, h2⟩ := lk.pin 0 xs (by rw [hρ]; rfl)
          exact ⟨h1, h2.trans (by rw [hσ]; rfl)⟩
        refine ⟨B, startV N.length xs ds, o, by rw [hρ, hσ]; simp [hd], er, eo, ?_⟩
        rcases fin_some ef with ⟨ρ', rfl, rfl⟩ | ⟨q, ρ', rfl⟩
        · intro σ' H' lk st er'
          obtain ⟨⟨zs, h1⟩, h2⟩ := slot0 lk
          have ez : xs' = zs := by
            have ev : (ownAt ρ' 0).map (·.2) = some xs' := ev
            unfold ownAt at ev
            rw [h1] at ev
            exact (Option.some.inj ev).symm
          subst ez
          obtain ⟨a', us', ea, hus, rus, _⟩ := er'.own _ _ _ (mem_Z h1 h2)
          cases ea
          refine k .non H' us' (keepH st) hus (rus.mono fun (b : Addr) z => ?_) (rep_non (K := K) (H := H') (A := fun b => B b ∨ b = a))
          · rcases z with (z | z) | z
            · exact .inl z
            · subst z; exact .inr ⟨true, _, mem_Z h1 h2⟩
            · obtain ⟨⟨_, z⟩, _⟩ := z; cases z
        · intro v σ' H' hl' lk st rr
          obtain ⟨⟨zs, h1⟩, h2⟩ := slot0 lk
          have ez : xs' = zs := by
            have ev : (ownAt ρ' 0).map (·.2) = some xs' := ev
            unfold ownAt at ev
            rw [h1] at ev
            exact (Option.some.inj ev).symm
          subst ez
          obtain ⟨a', us', ea, hus, rus, _⟩ := rr.er.own _ _ _ (List.mem_append_left _ (mem_Z h1 h2))
          cases ea
          have own0 : ∀ b, Own (Z ρ' σ') b → (∃ (i : Nat) (xs : List D), ρ'[i]? = some (some (Slot.own false xs)) ∧ σ'[i]? = some (some (V.ref b))) → H b = none := fun b z ⟨i, ys, f1, f2⟩ => Classical.byContradiction fun n => by
            have e := on b (st.own b n z)
            subst e
            exact own_two rr.er.left.nd h1 h2 f1 f2
          rcases fin_rn hl' rr own0 ef with z | ⟨i, ws', b, rfl, rfl, rfl, e1, e2, n⟩
          · refine k v H' us' (keepH st) hus (rus.mono fun b z => ?_) (z.mono fun b z => z.imp id fun z => by subst z; exact ⟨true, _, mem_Z h1 h2⟩)
            rcases z with (z | z) | z
            · exact .inl z
            · subst z; exact .inr (own_app.mpr (.inl ⟨true, _, mem_Z h1 h2⟩))
            · obtain ⟨⟨ys, z1⟩, z2⟩ := z
              subst z1 z2
              obtain ⟨ys', e1⟩ := fin_own ef
              rcases e1 with rfl | ⟨i, rfl, e3⟩
              · exact .inr (own_app.mpr (.inr (own_cons.mpr (.inl ⟨false, _, rfl⟩))))
              · obtain ⟨w, ew, ei⟩ := rr.bo 0 i rfl
                have ew : V.ref b = w := by simpa using ew
                subst ew
                exact .inr (own_app.mpr (.inl ⟨_, _, mem_Z e3 ei⟩))
          · obtain ⟨b', us2, ea, hus2, rus2, nb2⟩ := rr.er.left.own _ _ _ (mem_Z e1 e2)
            cases ea
            refine k _ H' us' (keepH st) hus (rus.mono fun c z => ?_) ⟨b, us2, rfl, n, hus2, rus2.mono fun c w => ?_⟩
            · rcases z with (z | z) | z
              · exact .inl z
              · subst z; exact .inr (own_app.mpr (.inl ⟨true, _, mem_Z h1 h2⟩))
              · obtain ⟨_, z2⟩ := z
                cases z2
                exact .inr (own_app.mpr (.inl ⟨false, ws', mem_Z e1 e2⟩))
            · rcases w with (w | w) | w
              · exact .inl w
              · subst w; exact .inr ⟨true, _, mem_Z h1 h2⟩
              · subst w; exact .inr ⟨false, ws', mem_Z e1 e2⟩
end

section
variable {P : Program} {w : World} {K : PySem.W.Frag} {mg : Str → Option Value} {base : Heap} {k : Nat} {f : Addr} {fd : FuncData} {N ps : List Str} {x : Str} {st : Stmt} {t : TSD}
/-- what a body may use: the context at its entry -/
structure Ctx (P : Program) (w : World) (K : PySem.W.Frag) (mg : Str → Option Value) (base : Heap) (N : List Str) (scope : Scope) (k : Nat) (X : Cx) : Prop where
  prog : X.prog = P
  w : X.w = w
  K : X.K = K
  mg : X.mg = mg
  base : X.base = base
  N : X.N = N
  sc : X.env.scope = scope
  calm : X.calm = true
  room : Room k X.A
  gd : X.A.guards = some []
theorem fn_p (F : L2.Fun K x x st f fd) (S : FnScope N ps (defScope st))
    (hb : ∀ (cdv : Value) (A : Around) (outer : List Env) (s : Shared) (H : Hp) (E : XK), Room k (A.deeper (envOfC x (defScope st) s.heap.objs.size f cdv)) → (A.deeper (envOfC x (defScope st) s.heap.objs.size f cdv)).guards = some [] →
      DSs (cxOf CX0 P w K mg base N x (defScope st) f cdv A outer s H E).nox (defBody st) t) : FnG P w K mg base CX0 (k + 1) f fd ps (spP K ps.length (runP N.length t)) := by
  obtain ⟨oc, od, kV, doc, pm, an, cdv, ct, osl, rfl, lk, hcd⟩ := F.ex
  refine fn_g lk hcd S (fun vs H Q E ⟨_, _, _, h, _⟩ => h) fun A outer s H vs Q E hr hg hsp => ?_
  exact ⟨_, (show PSs _ _ _ from hb cdv A outer s H E hr hg).nox, run_read (E := E) hsp⟩
theorem fn_v (F : L2.Fun K x x st f fd) (S : FnScope N ps (defScope st))
    (hb : ∀ (cdv : Value) (A : Around) (outer : List Env) (s : Shared) (H : Hp) (E : XK), Room k (A.deeper (envOfC x (defScope st) s.heap.objs.size f cdv)) → (A.deeper (envOfC x (defScope st) s.heap.objs.size f cdv)).guards = some [] →
      DSs (cxOf CX0 P w K mg base N x (defScope st) f cdv A outer s H E).nox (defBody st) t) : FnG P w K mg base CX0 (k + 1) f fd ps (spV K ps.length (runV N.length t)) := by
  obtain ⟨oc, od, kV, doc, pm, an, cdv, ct, osl, rfl, lk, hcd⟩ := F.ex
  have hN : ps.length ≤ N.length := by have := congrArg List.length S.pre; rw [List.length_take] at this; omega
  refine fn_g lk hcd S (fun vs H Q E ⟨_, _, _, ws, _, _, _, _, e, h, _⟩ => by rw [e]; exact h) fun A outer s H vs Q E hr hg hsp => ?_
  exact ⟨_, (show PSs _ _ _ from hb cdv A outer s H E hr hg).nox, runV_read (E := E) hN hsp⟩
theorem fn_none {n : Nat} (h : n = ps.length) : FnG P w K mg base CX0 k f fd ps (spV K n fun _ _ => none) :=
  ⟨fun vs H Q E ⟨_, _, _, _, _, _, _, _, _, _, _, _, _, _, _, e, _⟩ => (by cases e), fun A outer s H args us vs Q E _ _ _ _ _ ⟨_, _, _, _, _, _, _, _, _, _, _, _, _, _, _, e, _⟩ => (by cases e)⟩
end
end Dn

set_option Elab.async false
set_option linter.all false
set_option maxRecDepth 100000
set_option maxHeartbeats 2000000
namespace Dn
open PySem PySem.Spec PyProof.Rows L2

/-! ### an empty dict -/
def dEmp : TD := fun ρ => some (.v (.dict []), ρ)
theorem de_emp {X : Cx} {pos : Pos} : DE X (.Dict [] [] pos) dEmp := pe_weak pe_dnewK fun σ H Q h => by
  obtain ⟨B, ρ, r, ρ', hl, er, e, k⟩ := h
  cases e
  intro p np
  refine k (.ref p) _ (.refl _) (.same (upd_same_of np)) (RN.rss (H0 := H) er (upd_same_of np) (fun _ h => h) ?_)
  show Rep _ _ _ _ _
  unfold Rep
  refine ⟨p, [], rfl, fun z => ?_, upd_same⟩
  rcases z with z | z
  · exact er.trk p z np
  · obtain ⟨vs, e⟩ := er.lst z
    rw [np] at e; cases e

/-! ### constants of the module -/
mutual
def KD (K : PySem.W.Frag) : D → Value → Prop
  | .none, u => u = .none
  | .bool b, u => u = .bool b
  | .int i, u => ∃ t, u = .int i t
  | .str i, u => ∃ t, u = .str i t
  | .tuple ds, u => ∃ (a : Addr) (o : Obj) (its : List Value) (n : Nat), u = .ref a ∧ K.lookup a = some o ∧ o.cls = .type "tuple" ∧ o.data = .seq its.toArray n ∧ ds.length ≤ 1000 ∧ KDs K ds its
  | _, _ => False
def KDs (K : PySem.W.Frag) : List D → List Value → Prop
  | [], us => us = []
  | d :: ds, us => ∃ u r, us = u :: r ∧ KD K d u ∧ KDs K ds r
end
mutual
theorem KD.rep {K : PySem.W.Frag} : ∀ {d : D} {u : Value}, KD K d u → ∃ v, RelV v u ∧ ∀ H A, Rep K H A d v
  | .none, u, h => by unfold KD at h; subst h; exact ⟨.non, rfl, fun H A => rep_non⟩
  | .bool b, u, h => by unfold KD at h; subst h; exact ⟨.bl b, rfl, fun H A => rep_bl⟩
  | .int i, u, h => by unfold KD at h; exact ⟨.int i, h, fun H A => rep_int⟩
  | .str i, u, h => by unfold KD at h; exact ⟨.str i, h, fun H A => rep_str⟩
  | .tuple ds, u, h => by
    unfold KD at h
    obtain ⟨a, o, its, n, e, e1, e2, e3, e4, hs⟩ := h
    obtain ⟨vs, r, hr⟩ := KDs.rep hs
    refine ⟨.ref a, e, fun H A => ?_⟩
    have rp := hr H A
    unfold Rep
    refine ⟨a, vs, rfl, .inr ⟨o, its.toArray, n, e1, e2, e3, ?_, r⟩, rp⟩
    rw [List.size_toArray, ← r.length, rp.len]
    exact lt1000 e4
  | .list _, u, h => by unfold KD at h; exact h.elim
  | .dict _, u, h => by unfold KD at h; exact h.elim
theorem KDs.rep {K : PySem.W.Frag} : ∀ {ds : List D} {us : List Value}, KDs K ds us → ∃ vs, Vals vs us ∧ ∀ H A, RepA K H A ds vs
  | [], us, h => by unfold KDs at h; subst h; exact ⟨[], .nil, fun H A => .nil⟩
  | d :: ds, us, h => by
    unfold KDs at h
    obtain ⟨u, r, rfl, h1, h2⟩ := h
    obtain ⟨v, rv, hv⟩ := KD.rep h1
    obtain ⟨vs, rs, hs⟩ := KDs.rep h2
    exact ⟨v :: vs, .cons rv rs, fun H A => .cons (hv H A) (hs H A)⟩
end
def KGl (K : PySem.W.Frag) (mg : Str → Option Value) (x : Str) (d : D) : Prop := ∃ u, mg x = some u ∧ KD K d u
theorem de_gl {X : Cx} {pos : Pos} {x : Str} {d : D} (h : KGl X.K X.mg x d) (hg : Gl X x) (hd : (x == ("__debug__" : Str)) = false) : DE X (.Name x pos) (dCon d) := by
  obtain ⟨u, e, k⟩ := h
  obtain ⟨v, r, hr⟩ := k.rep
  exact de_glob hg e r hr hd

/-! ### defs, to be called -/
section
variable (P : Program) (w : World) (K : PySem.W.Frag) (mg : Str → Option Value) (base : Heap)
def runF (n N : Nat) (t : TSD) (ds : List D) : Option R := if ds.length = n then runP N t ds else none
def runW (n N : Nat) (t : TSD) (xs ds : List D) : Option (R × List D) := if ds.length + 1 = n then runV N t xs ds else none
def Raw (x : Str) (st : Stmt) : Prop := ∃ f fd, mg x = some (.ref f) ∧ L2.Fun K x x st f fd
structure CalP (k : Nat) (x : Str) (st : Stmt) (ps : List Str) (F : List D → Option R) : Prop where
  ex : ∃ f fd, mg x = some (.ref f) ∧ L2.Fun K x x st f fd ∧ Binds K fd ps [] ∧ FnG P w K mg base CX0 k f fd ps (spP K ps.length F)
  len : ∀ ds r, F ds = some r → ds.length = ps.length
structure CalV (k : Nat) (x : Str) (st : Stmt) (ps : List Str) (G : List D → List D → Option (R × List D)) : Prop where
  ex : ∃ f fd, mg x = some (.ref f) ∧ L2.Fun K x x st f fd ∧ Binds K fd ps [] ∧ FnG P w K mg base CX0 k f fd ps (spV K ps.length G)
  len : ∀ xs ds r, G xs ds = some r → ds.length + 1 = ps.length
/-- how a def's arguments bind -/
def BindOk (x : Str) (st : Stmt) (ps ks : List Str) (ix : List Nat) : Prop := ∀ (kV doc pm : Value) (an : Option Addr) (cdv ct : Value) (ws : List Value), ws.length = ks.length →
  bindArgs (PySem.W.fnOf x x (defArgs st) (defBody st) (defScope st) .none kV doc pm an cdv ct) ⟨[], ks.zip ws⟩ = pure (ps.zip (reord ix ws))
def BindP (x : Str) (st : Stmt) (ps : List Str) : Prop := ∀ (kV doc pm : Value) (an : Option Addr) (cdv ct : Value) (us : List Value), us.length = ps.length →
  bindArgs (PySem.W.fnOf x x (defArgs st) (defBody st) (defScope st) .none kV doc pm an cdv ct) ⟨us, []⟩ = pure (ps.zip us)
end
section
variable {P : Program} {w : World} {K : PySem.W.Frag} {mg : Str → Option Value} {base : Heap} {k : Nat} {x : Str} {st : Stmt} {N ps ks : List Str} {t : TSD} {F : List D → Option R} {G : List D → List D → Option (R × List D)}
theorem CalP.up {j : Nat} (h : CalP P w K mg base j x st ps F) (hj : j ≤ k) : CalP P w K mg base k x st ps F := by
  obtain ⟨⟨f, fd, a, b, c, d⟩, e⟩ := h
  exact ⟨⟨f, fd, a, b, c, d.mono hj⟩, e⟩
theorem CalV.up {j : Nat} (h : CalV P w K mg base j x st ps G) (hj : j ≤ k) : CalV P w K mg base k x st ps G := by
  obtain ⟨⟨f, fd, a, b, c, d⟩, e⟩ := h
  exact ⟨⟨f, fd, a, b, c, d.mono hj⟩, e⟩
/-- what a body's derivation is asked for -/
def Body (P : Program) (w : World) (K : PySem.W.Frag) (mg : Str → Option Value) (base : Heap) (k : Nat) (x : Str) (st : Stmt) (N : List Str) (t : TSD) : Prop :=
  ∀ (f : Addr) (cdv : Value) (A : Around) (outer : List Env) (s : Shared) (H : Hp) (E : XK), Room k (A.deeper (envOfC x (defScope st) s.heap.objs.size f cdv)) → (A.deeper (envOfC x (defScope st) s.heap.objs.size f cdv)).guards = some [] →
      DSs (cxOf CX0 P w K mg base N x (defScope st) f cdv A outer s H E).nox (defBody st) t
theorem cal_p (R : Raw K mg x st) (S : FnScope N ps (defScope st)) (bd : BindP x st ps) (hb : Body P w K mg base k x st N t) : CalP P w K mg base (k + 1) x st ps (runF ps.length N.length t) := by
  obtain ⟨f, fd, hm, FF⟩ := R
  refine ⟨⟨f, fd, hm, FF, FF.binds bd, (fn_p FF S (hb f)).imp fun vs H Q E h => ?_⟩, fun ds r h => ?_⟩
  · obtain ⟨B, ds, r, hl, hB, rep, e, kk⟩ := h
    unfold runF at e
    split at e
    · exact ⟨B, ds, r, hl, hB, rep, e, kk⟩
    · cases e
  · unfold runF at h
    split at h
    · assumption
    · cases h
theorem cal_v (R : Raw K mg x st) (S : FnScope N ps (defScope st)) (bd : BindP x st ps) (hb : Body P w K mg base k x st N t) : CalV P w K mg base (k + 1) x st ps (runW ps.length N.length t) := by
  obtain ⟨f, fd, hm, FF⟩ := R
  refine ⟨⟨f, fd, hm, FF, FF.binds bd, (fn_v FF S (hb f)).imp fun vs H Q E h => ?_⟩, fun xs ds r h => ?_⟩
  · obtain ⟨B, a, us, ws, xs, ds, r, xs', h1, h2, h3, h4, h5, h6, h7, e, kk⟩ := h
    unfold runW at e
    split at e
    · exact ⟨B, a, us, ws, xs, ds, r, xs', h1, h2, h3, h4, h5, h6, h7, e, kk⟩
    · cases e
  · unfold runW at h
    split at h
    · assumption
    · cases h
theorem cal_v0 (R : Raw K mg x st) (bd : BindP x st ps) : CalV P w K mg base k x st ps (fun _ _ => none) := by
  obtain ⟨f, fd, hm, FF⟩ := R
  exact ⟨⟨f, fd, hm, FF, FF.binds bd, fn_none rfl⟩, fun _ _ _ h => nomatch h⟩
theorem cal_p0 (R : Raw K mg x st) (bd : BindP x st ps) : CalP P w K mg base k x st ps (fun _ => none) := by
  obtain ⟨f, fd, hm, FF⟩ := R
  exact ⟨⟨f, fd, hm, FF, FF.binds bd, ⟨fun vs H Q E ⟨_, _, _, h, _⟩ => h, fun A outer s H args us vs Q E _ _ _ _ _ ⟨_, _, _, _, _, _, e, _⟩ => nomatch e⟩⟩, fun _ _ h => nomatch h⟩
variable {X : Cx} {p pos : Pos} {e : Expr} {es : List Expr} {kws : List Keyword} {ts : TDs}
theorem de_p (C : CalP X.prog X.w X.K X.mg X.base k x st ps F) (hr : Room k X.A) (hG : X.A.guards = some []) (hg : Gl X x)
    (ha : DA X (e :: es) ts) (hdb : (x == ("__debug__" : Str)) = false) (he : starEach (e :: es) X.env = (false, eval e X.env) :: starEach es X.env) (hpl : (backTo pos (starEach es X.env)).any (·.1) = false) : DE X (.Call (.Name x p) (e :: es) [] pos) (dCall F ts) := by
  obtain ⟨⟨f, fd, hm, FF, hb, hF⟩, hn⟩ := C
  exact de_call hF hn hr hG hg hm FF.kp hb ha hdb he hpl
theorem de_v (C : CalV X.prog X.w X.K X.mg X.base k x st ps G) (hr : Room k X.A) (hG : X.A.guards = some []) (hg : Gl X x)
    (ha : DA X (e :: es) ts) (hdb : (x == ("__debug__" : Str)) = false) (he : starEach (e :: es) X.env = (false, eval e X.env) :: starEach es X.env) (hpl : (backTo pos (starEach es X.env)).any (·.1) = false) : DE X (.Call (.Name x p) (e :: es) [] pos) (dCallV G ts) := by
  obtain ⟨⟨f, fd, hm, FF, hb, hF⟩, hn⟩ := C
  exact de_callV hF hn hr hG hg hm FF.kp hb ha hdb he hpl
theorem de_k {ix : List Nat} (C : CalP X.prog X.w X.K X.mg X.base k x st ps F) (hb : BindOk x st ps ks ix) (hr : Room k X.A) (hG : X.A.guards = some []) (hg : Gl X x)
    (ha : DK X kws ts) (hall : (backToKw pos (keywordEach kws X.env)).all (·.1.isSome) = true) (hks : (backToKw pos (keywordEach kws X.env)).filterMap (·.1) = ks) (hdb : (x == ("__debug__" : Str)) = false)
    (hpl : ((backTo pos (starEach [] X.env)).any (·.1) || (backToKw pos (keywordEach kws X.env)).any (·.1.isNone)) = false) : DE X (.Call (.Name x p) [] kws pos) (dCallK F ks.length ix ts) := by
  obtain ⟨⟨f, fd, hm, FF, _, hF⟩, hn⟩ := C
  refine de_callK hF hn hr hG hg hm FF.kp ⟨fun s ws _ hl => ?_⟩ ha hall hks hdb hpl
  obtain ⟨oc, od, kV, doc, pm, an, cdv, ct, osl, rfl, lk, hcd⟩ := FF.ex
  exact .of_eq (hb kV doc pm an cdv ct ws hl)
theorem raw_mk {h : Heap} {f : Addr} {oc kV doc pm cdv ct : Value} {od an : Option Addr} {osl : Array (Option Value)} (KX : K.In h) (g : h.Ns mainGlobals mg) (a : PySem.W.nsIn K mainGlobals x = some (some (.ref f)))
    (l : K.lookup f = some ⟨oc, od, .func (PySem.W.fnOf x x (defArgs st) (defBody st) (defScope st) .none kV doc pm an cdv ct), osl⟩) (c : PySem.W.codeIn K cdv x = true) (kp : PySem.W.keepIn K (.ref f) = true) : Raw K mg x st :=
  ⟨f, _, PySem.W.mg_of KX g a, fun_mk l c kp⟩
end

/-! ### the end -/
section
variable {P : Program} {w : World} {K : PySem.W.Frag} {mg mb : Str → Option Value} {s₁ : Shared} {a : Addr}
theorem env0_of {H : Hp} (kin : K.In s₁.heap) (g : s₁.heap.Ns mainGlobals mg) (bl : s₁.heap.Ns builtinsNs mb) (bb : ∀ x : Str, x ≠ "__name__" → mb x = bootBuiltins x) (nl : s₁.heap.NoLimit) (ng : s₁.gens = #[])
    (ok : HOk P w H s₁.heap) (nK : ∀ b o, K.lookup b = some o → H b = none) (nD : ∀ b o es ep, s₁.heap.get? b = some o → o.data = .dict es ep → H b = none) :
    K.In (hidT s₁.heap H) ∧ (hidT s₁.heap H).Ns mainGlobals mg ∧ Env0 P w K mg (hidT s₁.heap H) callerA [] s₁ H := by
  have ns : ∀ {b : Addr} {m : Str → Option Value}, s₁.heap.Ns b m → (hidT s₁.heap H).Ns b m := by
    rintro b m ⟨o, es, ep, e, d, r⟩
    exact ⟨o, es, ep, hidT_get e (nD b o es ep e d), d, r⟩
  have k1 : K.In (hidT s₁.heap H) := fun b o e => hidT_get (kin b o e) (nK b o e)
  obtain ⟨mc, n1, n2⟩ := nl
  refine ⟨k1, ns g, ?_⟩
  constructor
  · rfl
  · exact ⟨k1, ns g, ⟨mb, ns bl, bb⟩, mc, ns n1, n2⟩
  · exact fun b o e => of_hidT e
  · exact Nat.le_of_eq (hidT_size _ _)
  · trivial
  · exact fun b z => nomatch z
  · exact ok
  · exact .of_eq ng
/-- a law's def, called with its script -/
theorem law_run {fa : Addr} {k : Nat} {x : Str} {F : List D → Option R} {vs : List Value} {ns : List Int} (kin : K.In s₁.heap) (g : s₁.heap.Ns mainGlobals mg) (bl : s₁.heap.Ns builtinsNs mb) (bb : ∀ x : Str, x ≠ "__name__" → mb x = bootBuiltins x) (nl : s₁.heap.NoLimit) (ng : s₁.gens = #[])
    (ha : s₁.heap.get? a = some { cls := .type "list", data := .seq vs.toArray }) (hi : IntsAre vs ns) (hl : ns.length ≤ 1000) (hr : Room k callerA)
    {nm : Str} {st : Stmt} (hm : mg nm = some (.ref fa)) (hF : ∀ base : Heap, K.In base → base.Ns mainGlobals mg → CalP P w K mg base k nm st [x] F) (hT : F [.list (ns.map .int)] = some (.v (.bool true))) :
    codeAny (model P w) callerA (.call (.ref fa) ⟨[.ref a], []⟩) (fun r s' => r = .ok (.ret (.bool true)) ∧ OldK s₁.heap s'.heap ∧ s'.os = s₁.os ∧ AllBare s'.gens) s₁ := by
  have rv := vals_ints hi
  have hz : (ns.map V.int).length ≤ sizeLine := by rw [List.length_map]; exact lt1000 hl
  have core : ∀ H : Hp, HOk P w H s₁.heap → (∀ b o, K.lookup b = some o → H b = none) → (∀ b u, H b = some u → b = a ∧ u = .frz { cls := .type "list", data := .seq vs.toArray } (.lst (ns.map V.int))) → LV K H a (ns.map V.int) →
      codeAny (model P w) callerA (.call (.ref fa) ⟨[.ref a], []⟩) (fun r s' => r = .ok (.ret (.bool true)) ∧ OldK s₁.heap s'.heap ∧ s'.os = s₁.os ∧ AllBare s'.gens) s₁ := by
    intro H ok nK hH lv
    have nD : ∀ b o es ep, s₁.heap.get? b = some o → o.data = .dict es ep → H b = none := fun b o es ep e d => by
      cases q : H b with
      | none => rfl
      | some u =>
        obtain ⟨rfl, _⟩ := hH b u q
        rw [ha] at e
        cases e
        cases d
    obtain ⟨k1, g1, e0⟩ := env0_of kin g bl bb nl ng ok nK nD
    have sp : spP K 1 F [.ref a] H (fun v _ => v = .bl true) (fun _ _ _ => False) := by
      refine ⟨fun _ => False, [.list (ns.map .int)], _, rfl, fun _ z => z.elim, ?_, hT, fun v H' _ r => ?_⟩
      · refine .cons ?_ .nil
        unfold Rep
        exact ⟨a, _, rfl, lv.imp (fun z => ⟨id, z⟩) id, .of_ints ns⟩
      · have r : Rep K H' (fun _ => False) (.bool true) v := r
        unfold Rep at r
        exact r
    obtain ⟨⟨f, fd, hm2, _, hb, hG⟩, _⟩ := hF _ k1 g1
    have ef := hm.symm.trans hm2
    cases ef
    refine codeAny_mono (hG.run callerA [] s₁ H ⟨[.ref a], []⟩ [.ref a] [.ref a] _ _ hr rfl e0 (hb s₁ [.ref a] kin rfl) (.cons rfl .nil) sp) fun r s' h => ?_
    match r, h with
    | .error e, h => exact h.elim
    | .ok (.ret u), ⟨v, H', os, bare, un, hok', r', q⟩ =>
      have q' : v = .bl true := q
      subst q'
      obtain rfl : u = Value.bool true := r'
      refine ⟨rfl, .of_keep fun b o e => ?_, os, bare⟩
      cases q : H b with
      | none => exact un.keep b o e q (fun z => nomatch z) (fun z => nomatch z)
      | some u =>
        obtain ⟨rfl, rfl⟩ := hH b u q
        obtain ⟨g1, _⟩ := ok b _ q
        obtain ⟨g2, _⟩ := hok' b _ (un.frzs b _ _ q)
        rw [e] at g1
        cases g1
        exact g2
  cases hk : K.lookup a with
  | some o =>
    have e := kin a o hk
    rw [ha] at e
    cases e
    exact core (fun _ => none) (fun b u z => nomatch z) (fun _ _ _ => rfl) (fun b u z => nomatch z) (.inr ⟨vs, _, hk, hz, rv⟩)
  | none =>
    have one : ∀ b u, (if b = a then some (HO.frz { cls := .type "list", data := .seq vs.toArray } (.lst (ns.map V.int))) else none) = some u → b = a ∧ u = .frz { cls := .type "list", data := .seq vs.toArray } (.lst (ns.map V.int)) := fun b u z => by
      split at z
      · cases z; exact ⟨by assumption, rfl⟩
      · cases z
    refine core (fun b => if b = a then some (.frz { cls := .type "list", data := .seq vs.toArray } (.lst (ns.map V.int))) else none) (fun b u z => ?_) (fun b o z => ?_) one (.inl (.inr ⟨_, if_pos rfl⟩))
    · obtain ⟨rfl, rfl⟩ := one b u z
      exact ⟨ha, hz, vs, _, rv, ha⟩
    · refine if_neg fun q => ?_
      rw [q, hk] at z
      cases z
/-- a law's row from its def's run -/
theorem walk_g {l : PySem.W.OpenLaw} {n k : Nat} {q : Program} {loose : List Str} {XP : (Str → Option Value) → Heap → Prop} {YP : World → Heap → Prop} {d : DefRec} {K : Params → PySem.W.Frag} {x : Str} {st : Stmt} {F : List D → Option R}
    (hn : l.most = some n) (hn2 : n ≤ 1000) (hdf : d.params.defaults = []) (hr : Room k callerA) (hY : ∀ (w : World) (h : Heap), YP w h → (K w.params).In h)
    (hF : ∀ (w : World) (mg : Str → Option Value) (h : Heap), (K w.params).In h → h.Ns mainGlobals mg → ∀ base : Heap, (K w.params).In base → base.Ns mainGlobals mg → CalP l.prog w (K w.params) mg base k d.name st [x] F)
    (hT : ∀ ns : List Int, ns.length ≤ n → (∀ z ∈ ns, Builtin.Int.intBits z ≤ 1048576) → F [.list (ns.map .int)] = some (.v (.bool true))) :
    PySem.W.WalkO q loose XP YP l.row.toRowW d [] (fun f vs => PySem.call f vs) := by
  refine Att.attach_callB hn hdf fun w s₀ s₁ mg mb fa o pm cd doc a vs ns G Y ho hd hcd hmg hobj hints hlen hbits hg => ?_
  have kin := hY w _ Y
  exact law_run kin G.T.g G.T.b G.T.builtins G.T.nolimit hg hobj hints (Nat.le_trans hlen hn2) hr hmg (hF w mg _ kin G.T.g) (hT ns hlen hbits)
end
end Dn

set_option Elab.async false
set_option linter.all false
set_option maxRecDepth 100000
set_option maxHeartbeats 2000000
namespace Dn
open PySem PySem.Spec PyProof.Rows L2
def visB (sc : Scope) (x : Str) : Bool := match sc.names.lookup x with
  | some .local => true
  | some .cell => true
  | some .free => true
  | _ => false
def locB (sc : Scope) (x : Str) : Bool := match sc.names.lookup x with
  | some .local => true
  | some .cell => true
  | _ => false
def lcB (sc : Scope) (x : Str) : Bool := match sc.names.lookup x with
  | some .local => true
  | _ => false
theorem vis_of {sc : Scope} {x : Str} (h : visB sc x = true) : Vis sc x := by
  unfold visB at h
  split at h
  · exact .inl (by assumption)
  · exact .inr (.inl (by assumption))
  · exact .inr (.inr (by assumption))
  · cases h
theorem loc_of {sc : Scope} {x : Str} (h : locB sc x = true) : Loc sc x := by
  unfold locB at h
  split at h
  · exact .inl (by assumption)
  · exact .inr (by assumption)
  · cases h
theorem lfn_of {X : Cx} {x : Str} (h : (X.fn x || lcB X.env.scope x) = true) : X.fn x = true ∨ X.env.scope.names.lookup x = some .local := by
  rcases Bool.or_eq_true_iff.mp h with h | h
  · exact .inl h
  · unfold lcB at h
    split at h
    · exact .inr (by assumption)
    · cases h
theorem huo {A : Around} {k : Nat} (hr : Room k A) : A.units + 65 < cLine := by have := hr.un; omega
theorem hur {A : Around} {k : Nat} (hr : Room k A) : A.units + 70 < cLine := by have := hr.un; omega
theorem bt_len : bootBuiltins "len" = some (.builtin "len") := by decide +kernel
theorem bt_abs : bootBuiltins "abs" = some (.builtin "abs") := by decide +kernel
theorem bt_sum : bootBuiltins "sum" = some (.builtin "sum") := by decide +kernel
theorem bt_divmod : bootBuiltins "divmod" = some (.builtin "divmod") := by decide +kernel
theorem bt_max : bootBuiltins "max" = some (.builtin "max") := by decide +kernel
theorem bt_min : bootBuiltins "min" = some (.builtin "min") := by decide +kernel
theorem bt_all : bootBuiltins "all" = some (.builtin "all") := by decide +kernel
theorem bt_any : bootBuiltins "any" = some (.builtin "any") := by decide +kernel
theorem bt_sorted : bootBuiltins "sorted" = some (.builtin "sorted") := by decide +kernel
theorem bt_repr : bootBuiltins "repr" = some (.builtin "repr") := by decide +kernel
theorem bt_tuple : bootBuiltins "tuple" = some (.type "tuple") := by decide +kernel
theorem bt_list : bootBuiltins "list" = some (.type "list") := by decide +kernel
theorem bt_int : bootBuiltins "int" = some (.type "int") := by decide +kernel
theorem bt_str : bootBuiltins "str" = some (.type "str") := by decide +kernel
theorem bt_bool : bootBuiltins "bool" = some (.type "bool") := by decide +kernel
theorem bt_dict : bootBuiltins "dict" = some (.type "dict") := by decide +kernel
section
variable {K : PySem.W.Frag} {a : Addr} {o : Obj} {its : List Value} {n : Nat} {ds : List D} {d : D} {u : Value} {us : List Value}
theorem kd_tup (q : K.lookup a = some o) (c : o.cls = .type "tuple") (e : o.data = .seq its.toArray n) (l : ds.length ≤ 1000) (h : KDs K ds its) : KD K (.tuple ds) (.ref a) := by
  unfold KD
  exact ⟨a, o, its, n, rfl, q, c, e, l, h⟩
theorem kd_int {i : Int} {t : Tok} : KD K (.int i) (.int i t) := by unfold KD; exact ⟨t, rfl⟩
theorem kd_str {i : Str} {t : Tok} : KD K (.str i) (.str i t) := by unfold KD; exact ⟨t, rfl⟩
theorem kd_bl {i : Bool} : KD K (.bool i) (.bool i) := by unfold KD; rfl
theorem kd_non : KD K .none .none := by unfold KD; rfl
theorem kds_nil : KDs K [] [] := by unfold KDs; rfl
theorem kds_cons (h : KD K d u) (hs : KDs K ds us) : KDs K (d :: ds) (u :: us) := by unfold KDs; exact ⟨u, us, rfl, h, hs⟩
theorem kgl {mg : Str → Option Value} {x : Str} (m : mg x = some u) (h : KD K d u) : KGl K mg x d := ⟨u, m, h⟩
end
end Dn

set_option Elab.async false
set_option linter.all false
set_option maxRecDepth 100000
set_option maxHeartbeats 2000000
namespace Dn
open PySem PySem.Spec PyProof.Rows L2
/-- a dict of one text and one number -/
def dDic (d : D) : TD := fun ρ => some (.v d, ρ)
theorem de_dic {X : Cx} {k : Str} {i : Int} {j1 j2} {p1 p2 pos : Pos} : DE X (.Dict [some (.Constant (.str k) j1 p1)] [.Constant (.int i) j2 p2] pos) (dDic (.dict [(.str k, .int i)])) :=
  pe_weak (pe_disp (pps_cons pe_str pe_int pps_nil) rfl rfl (by simp) (by simp)) fun σ H Q h => by
    obtain ⟨B, ρ, r, ρ', hl, er, e, kk⟩ := h
    cases e
    intro p np
    have sm : Same H (upd H p (.dK [])) := upd_same_of np
    refine ⟨upd_same, [(.inr k, .int i)], rfl, by simp, ?_⟩
    have sm2 : Same H (upd (upd H p (.dK [])) p (.dK (mergeK [] [(.inr k, .int i)]))) := fun b o q => by
      have nb := ne_of_none q np
      rw [upd_ne nb, upd_ne nb]
      exact q
    refine kk (.ref p) _ (.refl _) (.same sm2) (RN.rss (H0 := H) er sm2 (fun _ h => h) ?_)
    show Rep _ _ _ _ _
    unfold Rep
    refine ⟨p, _, rfl, fun z => ?_, upd_same⟩
    rcases z with z | z
    · exact er.trk p z np
    · obtain ⟨vs, e⟩ := er.lst z
      rw [np] at e; cases e
end Dn

set_option Elab.async false
set_option linter.all false
set_option maxRecDepth 100000
set_option maxHeartbeats 2000000
namespace Dn
open PySem PySem.Spec PyProof.Rows L2

/-! ### enumerate of a tuple -/
def IteT (K : PySem.W.Frag) (a : Addr) : It :=
  ⟨fun i H => ∃ (xs : List V) (x : V), SqT K H a xs ∧ xs[i]? = some x, fun i H v H' => ∃ T x, v = .ref T ∧ H T = none ∧ H' = upd H T (.tup [.int (i : Nat), x]) ∧ ∀ xs, SqT K H a xs → xs[i]? = some x,
    fun i H => ∃ xs : List V, SqT K H a xs ∧ xs.length ≤ i⟩
theorem turn_enumT {P : Program} {w : World} {K : PySem.W.Frag} {elts : List Expr} {kk : Nat} {tpos : Pos} (a e it : Addr) (ea : e ≠ a) (ai : a ≠ it) (ei : e ≠ it) :
    Turn P w K (.Tuple elts kk tpos) (IteT K a) [e, it] e (fun i h => (∃ old, IsEnum h e it ((i : Nat) : Int) old) ∧ h.IsTupleIter it a i) where
  mem := List.mem_cons_self
  obj := fun i h st b hb => by
    obtain ⟨⟨old, he⟩, o, ho, hc, hd⟩ := st
    rcases List.mem_cons.mp hb with z | z
    · subst z; exact ⟨_, he, fun v q => (nomatch q)⟩
    · rw [List.mem_singleton.mp z]
      exact ⟨o, ho, fun v q => by rw [hd] at q; cases q⟩
  keep := fun i h h' st k => by
    obtain ⟨⟨old, he⟩, hi⟩ := st
    exact ⟨⟨old, k e List.mem_cons_self _ he⟩, hi.at fun o q => k it (by simp) o q⟩
  item := by
    intro X hP hw hK hc i pins s σ H E I hf st hg
    subst hP hw hK
    obtain ⟨⟨old, he⟩, hit⟩ := st
    obtain ⟨xs, x, hq, hx⟩ := hg
    obtain ⟨its, rv, p, hz⟩ := I.tuple hq
    obtain ⟨u, hu, ru⟩ := rv.get hx
    have li : i < its.length := (List.getElem?_eq_some_iff.mp hu).1
    have le : e < s.heap.objs.size := Heap.lt_size he
    have lt : it < s.heap.objs.size := by obtain ⟨_, q, _⟩ := hit; exact Heap.lt_size q
    have D := Draws.tuple (prog := X.prog) (w := X.w) (A := X.A.in1) (I.ok.hd hc) it a ai its.toArray
    refine wpAny_pyNext_enum_itemD D he ⟨hit, show s.heap.IsTuple a its.toArray from p⟩ (by simpa using li) ei (by simp [ei, ea]) fun y h1 tk hy ho st1 hT hsz hk => ?_
    have ey : y = u := by
      have hu' : its.toArray[i]? = some u := by simpa using hu
      exact Option.some.inj (hy.symm.trans hu')
    subst ey
    refine ⟨_, rfl, wpAny_letOwnedTupleGo_enum (s := { s with heap := h1, toks := tk + 1 }) ho fun h2 he2 sb => ?_⟩
    have hT2 : h2.get? s.heap.objs.size = some { cls := .type "tuple", data := .seq #[.int i tk, y] } := (sb.2 _ (Nat.ne_of_gt le)).trans hT
    have new : ObjOk X.prog X.w (upd H s.heap.objs.size (.tup [.int (i : Nat), x])) h2 s.heap.objs.size (.tup [.int (i : Nat), x]) := by
      refine ⟨?_, [.int i tk, y], .cons ⟨_, rfl⟩ (.cons ru .nil), _, hT2, rfl, _, rfl⟩
      show 2 ≤ sizeLine
      decide
    have I1 : Inv X pins σ (upd H s.heap.objs.size (.tup [.int (i : Nat), x])) { s with heap := h2, toks := tk + 1 } := by
      refine I.turnedNew (ch := [e, it]) (fun b ob hb q => ?_) hf (Nat.le_refl _) new
      have be : b ≠ e := fun z => hb (by rw [z]; exact List.mem_cons_self)
      have bi : b ≠ it := fun z => hb (by rw [z]; simp)
      exact (sb.2 b be).trans (hk b ob be bi q)
    refine ⟨.ref s.heap.objs.size, _, I1, rfl, ⟨_, x, rfl, I.hok.fresh (Nat.le_refl _), rfl, fun ys hy' => by rw [I.tuple_inj hy' hq]; exact hx⟩, ⟨⟨y, ?_⟩, ?_⟩, fun b hb => ?_⟩
    · have e1 : ((i + 1 : Nat) : Int) = (i : Int) + 1 := by omega
      rw [e1]
      exact he2
    · exact st1.1.at fun o q => (sb.2 it (Ne.symm ei)).trans q
    · have lb : b < s.heap.objs.size := by
        rcases List.mem_cons.mp hb with z | z
        · rw [z]; exact le
        · rw [List.mem_singleton.mp z]; exact lt
      rw [upd_ne (Nat.ne_of_lt lb)]
      exact (hf b hb).1
  done := by
    intro X hP hw hK hc i pins s σ H E I hf st hg
    subst hP hw hK
    obtain ⟨⟨old, he⟩, hit⟩ := st
    obtain ⟨xs, hq, hx⟩ := hg
    obtain ⟨its, rv, p, hz⟩ := I.tuple hq
    obtain ⟨f0, f1, f2, f3, f4, f5⟩ := hf it (by simp)
    have hl := rv.length
    have D : Draws X.prog X.w X.A.in1 it [it, a] i (fun _ _ => True) (fun j h => j = i ∧ h.IsTupleIter it a i ∧ h.IsTuple a its.toArray) :=
      { live := fun j h st => by obtain ⟨_, ⟨o, ho, _⟩, _⟩ := st; exact ⟨o, ho⟩
        frame := fun j h h' st k => ⟨st.1, st.2.1.at fun o q => k it (by simp) o q, st.2.2.at fun o q => k a (by simp) o q⟩
        item := fun j s Q E hj st _ => by have := st.1; omega
        done := fun s Q E st hE => wpAny_nextOf_tuple_end (I.ok.hd hc) st.2.1 st.2.2 (by simp; omega) hE }
    exact wpAny_pyNext_enum_endD D he ⟨rfl, hit, show s.heap.IsTuple a its.toArray from p⟩ fun h' eb => ⟨rfl, I.turned (t' := s.toks) (fun b o hb q => eb b o hb q) f0 f1 f3 f4 f5⟩
  self := fun A i s Q E st h => by
    obtain ⟨⟨_, he⟩, _⟩ := st
    exact wpAny_pyIter_enum he h
def iEnumA (K : PySem.W.Frag) (ta : TA) : TI := fun σ H R => ta σ H fun vs H1 => ∃ a xs, vs = [.ref a] ∧ ((SqL K H1 a xs ∧ R (Ite K a) H1) ∨ (SqT K H1 a xs ∧ R (IteT K a) H1))
theorem walk_enumT {K : PySem.W.Frag} {a : Addr} {xs : List V} : Walk (IteT K a) xs.length (fun H => SqT K H a xs) (YPair (fun i => some (.int (i : Nat))) (fun i => xs[i]?)) := by
  refine ⟨fun i H hi q => ?_, fun H q => ⟨xs, q, Nat.le_refl _⟩, fun i H v H' _ q y => ?_⟩
  · exact ⟨xs, xs[i]'(by omega), q, by simp⟩
  · obtain ⟨T, x, h1, h2, h3, h4⟩ := y
    exact ⟨T, _, x, h1, h2, h3, rfl, h4 xs q⟩
theorem new_enumB {v : Value} {o : Obj} {Hh : Heap → Prop} (B : Begins v o Hh) : Meets (Builtin.«enumerate.__new__» ⟨[.type "enumerate", v], []⟩) (fun _ R s => Hh s.heap ∧
      R (.ok (.ret (.ref (s.heap.push o).objs.size))) { s with heap := (s.heap.push o).push { cls := .type "enumerate", data := .fields #[.none, .bool false, .ref s.heap.objs.size, rawInt 0, .none, .none] } }) := by
  refine .of_wp fun prog w A R s ⟨h1, h⟩ => ?_
  obtain ⟨hp, g, d, tk, os⟩ := s
  have hsub := sub_enumerate
  have begin_ : ∀ {A' : Around} {E Q : Value → Shared → Prop}, Q (.ref hp.objs.size) ⟨hp.push o, g, d, tk, os⟩ → wpAny (model prog w) A' (pyIter v) Q E ⟨hp, g, d, tk, os⟩ := fun q => B.iter prog w _ _ ⟨hp, g, d, tk, os⟩ _ h1 q
  wp_walk using begin_
  refine wpAny_stack_any fun stk => wpAny_pure ?_
  split
  · rename_i c _ _ _ _ _
    cases (c == Value.type "enumerate") <;> (wp_walk using begin_; exact ⟨_, rfl, h⟩)
  · wp_walk using begin_
    exact ⟨_, rfl, h⟩
theorem call_enumT {prog : Program} {w : World} {A : Around} {E : Value → Shared → Prop} {s : Shared} {t : Addr} {items : Array Value} {Q : Value → Shared → Prop} (ht : s.heap.IsTuple t items)
    (h : ∀ h', IsEnum h' (s.heap.objs.size + 1) s.heap.objs.size 0 .none → h'.IsTupleIter s.heap.objs.size t 0 → (∀ b o, s.heap.get? b = some o → h'.get? b = some o) → Q (.ref (s.heap.objs.size + 1)) { s with heap := h' }) :
    wpAny (model prog w) A (call (.type "enumerate") [.ref t]) Q E s := by
  refine callType_new F.called_enumerate (by decide) (F.typeCall_enumerate_1 _) (F.newCall_enumerate_1 _) (fun obj => F.args_object_init_2 obj _) F.entry_enumerate_new (new_enumB (begins_tuple t items)) ⟨ht, ?_⟩
  have sz : ∀ o : Obj, (s.heap.push o).objs.size = s.heap.objs.size + 1 := fun o => Heap.size_push ..
  have old : ∀ (o1 o2 : Obj) (b : Addr) (x : Obj), s.heap.get? b = some x → ((s.heap.push o1).push o2).get? b = some x := fun o1 o2 b x q => Heap.get?_push_of_some _ (Heap.get?_push_of_some _ q)
  have top : ∀ (o1 o2 : Obj), o2.isFreed = false → ((s.heap.push o1).push o2).get? (s.heap.objs.size + 1) = some o2 := fun o1 o2 f => by
    have q := Heap.get?_push_size (s.heap.push o1) (o := o2) f
    rw [sz] at q
    exact q
  show _ ∧ _
  rw [sz]
  exact ⟨⟨_, top _ _ rfl, rfl⟩, h _ (top _ _ rfl) ⟨_, Heap.get?_push_of_some _ (Heap.get?_push_size _ rfl), rfl, rfl⟩ (old _ _)⟩
theorem pi_enumA {X : Cx} {e : Expr} {ta : TA} {p pos tpos : Pos} {elts : List Expr} {kk : Nat} (hg : Gl X "enumerate") (hm : X.mg "enumerate" = none) (ha : PA X [e] ta) (hs : starEach [e] X.env = [(false, eval e X.env)]) :
    PI X (.Tuple elts kk tpos) (.Call (.Name "enumerate" p) [e] [] pos) (iEnumA X.K ta) := by
  refine ⟨fun pins s σ H R I h => ?_⟩
  refine Call_ (ld_blt I hg hm boot_enumerate (PyProof.Rows.callWith_type1 (thn (ha.run pos pins s σ H _ I h) fun us s1 ⟨vs, H1, I1, r1, q1⟩ => ?_) hs rfl))
  obtain ⟨a, xs, rfl, q1⟩ := q1
  obtain ⟨u, rfl, ru⟩ := vals1 r1
  obtain rfl : u = Value.ref a := ru
  have fr : ∀ b ∈ [s1.heap.objs.size + 1, s1.heap.objs.size], FpOk X pins H1 b := fun b hb => by
    have le : s1.heap.objs.size ≤ b := by
      rcases List.mem_cons.mp hb with z | z
      · rw [z]; exact Nat.le_succ _
      · rw [List.mem_singleton.mp z]; exact Nat.le_refl _
    exact I1.fpOk le (I1.hok.fresh le)
  rcases q1 with ⟨hq, q⟩ | ⟨hq, q⟩
  · obtain ⟨its, rv, p', hz⟩ := I1.list hq
    refine call_enumerate_list p'.isList fun h' he hit _ hk => wpAny_pyIter_enum he ?_
    exact ⟨s1.heap.objs.size + 1, [s1.heap.objs.size + 1, s1.heap.objs.size], _, _, H1, rfl, I1.kept (t' := s1.toks) hk, turn_enum a (s1.heap.objs.size + 1) s1.heap.objs.size, ⟨⟨.none, he⟩, hit, Nat.succ_ne_self _⟩, fr, q⟩
  · obtain ⟨its, rv, p', hz⟩ := I1.tuple hq
    have la : a < s1.heap.objs.size := by obtain ⟨o, ho, _⟩ := id p'; exact Heap.lt_size ho
    refine call_enumT (show s1.heap.IsTuple a its.toArray from p') fun h' he hit hk => wpAny_pyIter_enum he ?_
    exact ⟨s1.heap.objs.size + 1, [s1.heap.objs.size + 1, s1.heap.objs.size], _, _, H1, rfl, I1.kept (t' := s1.toks) hk, turn_enumT a (s1.heap.objs.size + 1) s1.heap.objs.size (fun z => absurd la (by rw [← z]; exact Nat.not_lt.mpr (Nat.le_succ _))) (Nat.ne_of_lt la) (Nat.succ_ne_self _), ⟨⟨.none, he⟩, hit⟩, fr, q⟩
/-- enumerate of a list or a tuple -/
def sEnumA (t : TD) : TSr := fun ρ => match t ρ with
  | some (r, ρ1) => match frz [r] ρ1 with
    | some ([.list as], ρ2) => some (enumD 0 as, ρ2)
    | some ([.tuple as], ρ2) => some (enumD 0 as, ρ2)
    | _ => none
  | none => none
theorem di_enumA {X : Cx} {e : Expr} {t : TD} {p pos tpos : Pos} {elts : List Expr} {kk : Nat} (hg : Gl X "enumerate") (hm : X.mg "enumerate" = none) (h : DE X e t) (hs : starEach [e] X.env = [(false, eval e X.env)]) : DI X (.Tuple elts kk tpos) (.Call (.Name "enumerate" p) [e] [] pos) (sEnumA t) := by
  refine pi_weak (pi_enumA hg hm (pa_cons h pa_nil hs) hs) fun σ H R q => ?_
  obtain ⟨B, ρ, its, ρ', hl, er, e, k⟩ := q
  unfold sEnumA at e
  split at e
  · rename_i r ρ1 e1
    split at e
    · rename_i as ρ2 e2
      cases e
      refine ⟨B, ρ, r, ρ1, hl, er, e1, fun v H1 lk st rr => ?_⟩
      obtain ⟨h1, h2, h3, h4⟩ := frz_ok (lk.len.trans hl) e2 rr
      have rp := h2.one
      unfold Rep at rp
      obtain ⟨a, xs, rfl, ha, ra⟩ := rp
      refine ⟨a, xs, rfl, .inl ⟨ha.lv.sq, k _ H1 (lk.trans h3) (st.trans (stp_own h4)) h1 ?_⟩⟩
      refine ⟨YPair (fun i => some (.int (i : Nat))) (fun i => xs[i]?), ?_, fun i H2 x H3 hi st2 y => ?_⟩
      · rw [enumD_len, ← ra.len]
        exact walk_enum.mono (fun H2 st2 => stay_seqL h1 ha st2) fun _ _ _ _ _ _ y => y
      · obtain ⟨T, x1, y1, rfl, nT, rfl, f1, f2⟩ := y
        cases f1
        obtain ⟨b, eb, rb⟩ := ra.get' f2
        refine ⟨upd_same_of nT, _, enumD_get eb, fun A' hA => rep_tup nT (.cons ?_ (.cons (stay_rep h1 rb st2 (.refl _) A' hA) .nil))⟩
        rw [Nat.zero_add]
        exact rep_int
    · rename_i as ρ2 e2
      cases e
      refine ⟨B, ρ, r, ρ1, hl, er, e1, fun v H1 lk st rr => ?_⟩
      obtain ⟨h1, h2, h3, h4⟩ := frz_ok (lk.len.trans hl) e2 rr
      have rp := h2.one
      unfold Rep at rp
      obtain ⟨a, xs, rfl, ha, ra⟩ := rp
      refine ⟨a, xs, rfl, .inr ⟨ha, k _ H1 (lk.trans h3) (st.trans (stp_own h4)) h1 ?_⟩⟩
      refine ⟨YPair (fun i => some (.int (i : Nat))) (fun i => xs[i]?), ?_, fun i H2 x H3 hi st2 y => ?_⟩
      · rw [enumD_len, ← ra.len]
        exact walk_enumT.mono (fun H2 st2 => stay_seqT h1 ha st2) fun _ _ _ _ _ _ y => y
      · obtain ⟨T, x1, y1, rfl, nT, rfl, f1, f2⟩ := y
        cases f1
        obtain ⟨b, eb, rb⟩ := ra.get' f2
        refine ⟨upd_same_of nT, _, enumD_get eb, fun A' hA => rep_tup nT (.cons ?_ (.cons (stay_rep h1 rb st2 (.refl _) A' hA) .nil))⟩
        rw [Nat.zero_add]
        exact rep_int
    · cases e
  · cases e
end Dn

set_option Elab.async false
set_option linter.all false
set_option maxRecDepth 100000
set_option maxHeartbeats 2000000
namespace Dn
open PySem PySem.Spec PyProof.Rows L2 RZ

/-! ### lists that stand in a list of a slot, and are changed there -/
mutual
def flat : D → Bool
  | .none => true
  | .bool _ => true
  | .int _ => true
  | .str _ => true
  | .list _ => false
  | .tuple ds => flats ds
  | .dict _ => false
def flats : List D → Bool
  | [] => true
  | d :: ds => flat d && flats ds
end
section
variable {K : PySem.W.Frag} {H H' : Hp} {A A' : Addr → Prop}
theorem flatBoth (hH : ∀ b o, H b = some o → (∀ xs, o ≠ .lst xs) → H' b = some o) :
    ∀ n, (∀ d v, sizeOf d ≤ n → flat d = true → Rep K H A d v → Rep K H' A' d v) ∧ (∀ ds vs, sizeOf ds ≤ n → flats ds = true → RepA K H A ds vs → RepA K H' A' ds vs) := by
  intro n
  induction n with
  | zero =>
    refine ⟨fun d v hs => ?_, fun ds vs hs => ?_⟩
    · cases d <;> simp at hs <;> omega
    · cases ds <;> simp at hs <;> omega
  | succ n ih =>
    refine ⟨fun d v hs hf h => ?_, fun ds vs hs hf h => ?_⟩
    · cases d with
      | none => exact h
      | bool b => exact h
      | int i => exact h
      | str x => exact h
      | list ds => simp [flat] at hf
      | tuple ds =>
        unfold Rep at h ⊢
        obtain ⟨a, xs, e, hr, hx⟩ := h
        refine ⟨a, xs, e, ?_, ih.2 ds xs (by simp at hs; omega) (by simpa [flat] using hf) hx⟩
        rcases hr with (hr | ⟨o, hr⟩) | hr
        · exact .inl (.inl (hH _ _ hr fun _ z => by cases z))
        · exact .inl (.inr ⟨o, hH _ _ hr fun _ z => by cases z⟩)
        · exact .inr hr
      | dict kvs => simp [flat] at hf
    · cases ds with
      | nil => unfold RepA at h ⊢; exact h
      | cons d ds =>
        unfold RepA at h ⊢
        obtain ⟨x, r, e, h1, h2⟩ := h
        simp only [flats, Bool.and_eq_true] at hf
        exact ⟨x, r, e, ih.1 d x (by simp at hs; omega) hf.1 h1, ih.2 ds r (by simp at hs; omega) hf.2 h2⟩
theorem Rep.flat {d : D} {v : V} (h : Rep K H A d v) (hf : flat d = true) (hH : ∀ b o, H b = some o → (∀ xs, o ≠ .lst xs) → H' b = some o) : Rep K H' A' d v := (flatBoth hH _).1 d v (Nat.le_refl _) hf h
theorem RepA.flat {ds : List D} {vs : List V} (h : RepA K H A ds vs) (hf : flats ds = true) (hH : ∀ b o, H b = some o → (∀ xs, o ≠ .lst xs) → H' b = some o) : RepA K H' A' ds vs := (flatBoth hH _).2 ds vs (Nat.le_refl _) hf h
end
theorem flats_app : ∀ {as bs : List D}, flats (as ++ bs) = (flats as && flats bs)
  | [], bs => by simp [flats]
  | a :: as, bs => by simp [flats, flats_app (as := as), Bool.and_assoc]
theorem relV_inj {x y : V} {u : Value} (h : RelV x u) (h2 : RelV y u) : x = y := by
  cases x <;> cases y <;> simp only [L2.RelV] at h h2 <;> first
    | rfl
    | (subst h; cases h2; rfl)
    | (subst h; cases h2; done)
    | (obtain ⟨t, rfl⟩ := h; obtain ⟨t2, h2⟩ := h2; cases h2; rfl)
    | (obtain ⟨t, rfl⟩ := h; obtain ⟨t2, h2⟩ := h2; cases h2)
    | (obtain ⟨t, rfl⟩ := h; cases h2)
    | (subst h; obtain ⟨t2, h2⟩ := h2; cases h2)
theorem vals_inj : ∀ {xs ys : List V} {us : List Value}, Vals xs us → Vals ys us → xs = ys
  | [], [], _, _, _ => rfl
  | [], _ :: _, _, .nil, h => by cases h
  | _ :: _, [], _, h, .nil => by cases h
  | x :: xs, y :: ys, _, .cons r t, .cons r2 t2 => by rw [relV_inj r r2, vals_inj t t2]
theorem kl_eq {X : Cx} {pins : List (Addr × Obj)} {σ : St} {H : Hp} {s : Shared} {a : Addr} {xs ys : List V} (I : Inv X pins σ H s) (h : H a = some (.lst xs)) (k : KL X.K a ys) : ys = xs := by
  obtain ⟨z, its, n, r, hl, e⟩ := I.lstM h
  obtain ⟨its2, n2, e2, z2, r2⟩ := k
  have e3 := I.kIn a _ e2
  rw [e] at e3
  cases e3
  exact vals_inj r2 r
/-- slot, its list, the lists within -/
abbrev Dz := List (Nat × Addr × List Addr)
def inD (dz : Dz) (b : Addr) : Prop := ∃ e ∈ dz, b ∈ e.2.2
structure DpOk (H : Hp) (B : Addr → Prop) (ρ : Rho) (σ : St) (dz : Dz) : Prop where
  top : ∀ e ∈ dz, σ[e.1]? = some (some (.ref e.2.1)) ∧ H e.2.1 = some (.lst (e.2.2.map .ref)) ∧ ¬ B e.2.1 ∧ ¬ Own (Z ρ σ) e.2.1 ∧ ¬ inD dz e.2.1
  inn : ∀ b, inD dz b → (∃ us, H b = some (.lst us)) ∧ ¬ B b ∧ ¬ Own (Z ρ σ) b
  one : ∀ e ∈ dz, ∀ e' ∈ dz, ∀ (k k' : Nat) b, e.2.2[k]? = some b → e'.2.2[k']? = some b → e = e' ∧ k = k'
theorem dpOk_nil {H : Hp} {B : Addr → Prop} {ρ : Rho} {σ : St} : DpOk H B ρ σ [] := ⟨fun _ h => (nomatch h), fun _ ⟨_, h, _⟩ => (nomatch h), fun _ h => (nomatch h)⟩
theorem DpOk.step {H H' : Hp} {B : Addr → Prop} {ρ ρ' : Rho} {σ σ' : St} {dz : Dz} (h : DpOk H B ρ σ dz) (st : Stp (Z ρ σ) H (Z ρ' σ') H') (hs : ∀ e ∈ dz, σ'[e.1]? = σ[e.1]?) : DpOk H' B ρ' σ' dz := by
  refine ⟨fun e he => ?_, fun b hb => ?_, h.one⟩
  · obtain ⟨h1, h2, h3, h4, h5⟩ := h.top e he
    exact ⟨(hs e he).trans h1, st.keep _ _ h2 h4, h3, fun z => h4 (st.own _ (by rw [h2]; simp) z), h5⟩
  · obtain ⟨⟨us, h1⟩, h2, h3⟩ := h.inn b hb
    exact ⟨⟨us, st.keep _ _ h1 h3⟩, h2, fun z => h3 (st.own _ (by rw [h1]; simp) z)⟩
/-- .. the same, lists within keep being lists -/
structure StpW (W : Addr → Prop) (E : Ent) (H : Hp) (E' : Ent) (H' : Hp) : Prop where
  keep : ∀ b o, H b = some o → ¬ Own E b → ¬ W b → H' b = some o
  own : ∀ b, H b ≠ none → Own E' b → Own E b
  trk : ∀ b, H b ≠ none → H' b ≠ none
theorem Stp.w {W : Addr → Prop} {E E' : Ent} {H H' : Hp} (s : Stp E H E' H') : StpW W E H E' H' := ⟨fun b o h n _ => s.keep b o h n, s.own, s.trk⟩
theorem StpW.trans {W : Addr → Prop} {E E1 E2 : Ent} {H H1 H2 : Hp} (x : StpW W E H E1 H1) (y : StpW W E1 H1 E2 H2) : StpW W E H E2 H2 where
  keep := fun b o h n w => y.keep b o (x.keep b o h n w) (fun z => n (x.own b (by rw [h]; simp) z)) w
  own := fun b h z => x.own b h (y.own b (x.trk b h) z)
  trk := fun b h => y.trk b (x.trk b h)
theorem StpW.fr {W : Addr → Prop} {E E' : Ent} {H H' : Hp} (s : StpW W E H E' H') {a : Addr} (h : H' a = none) : H a = none := by
  cases q : H a with
  | none => rfl
  | some o => exact absurd h (s.trk a (by rw [q]; simp))
/-- what may change besides -/
def Wd (dz : Dz) (w : Bool) (b : Addr) : Prop := w = true ∧ inD dz b
def postX (K : PySem.W.Frag) (D : Ends) (B : Addr → Prop) (dz : Dz) (w : Bool) (kp : Prop) (ρ : Rho) (σ : St) (H : Hp) : Out → Prop
  | .nx ρ' => ∀ σ' H', LkS ρ ρ' σ σ' → StpW (Wd dz w) (Z ρ σ) H (Z ρ' σ') H' → ER K H' B (Z ρ' σ') → (kp → DpOk H' B ρ' σ' dz) → D.nx σ' H'
  | .rt r ρ' => ∀ v σ' H', ρ'.length = σ'.length → LkS ρ ρ' σ σ' → StpW (Wd dz w) (Z ρ σ) H (Z ρ' σ') H' → RSs K H H' B ρ' σ' [r] [v] → D.rt v H'
  | .bk ρ' => ∀ σ' H', LkS ρ ρ' σ σ' → StpW (Wd dz w) (Z ρ σ) H (Z ρ' σ') H' → ER K H' B (Z ρ' σ') → (kp → DpOk H' B ρ' σ' dz) → D.bk σ' H'
  | .ct ρ' => ∀ σ' H', LkS ρ ρ' σ σ' → StpW (Wd dz w) (Z ρ σ) H (Z ρ' σ') H' → ER K H' B (Z ρ' σ') → (kp → DpOk H' B ρ' σ' dz) → D.ct σ' H'
def rdX (K : PySem.W.Frag) (dz : Dz) (w : Bool) (kp : Prop) (t : TSD) : TS := fun D σ H => ∃ B ρ o, ρ.length = σ.length ∧ ER K H B (Z ρ σ) ∧ DpOk H B ρ σ dz ∧ t ρ = some o ∧ postX K D B dz w kp ρ σ H o
/-- a statement where the slots `is` hold lists of lists of their own; w: it may change these; kp: they are so afterwards, too -/
def DX (X : Cx) (is : List Nat) (w : Bool) (s : Stmt) (t : TSD) : Prop := ∀ dz : Dz, dz.map (·.1) = is → PS X s (rdX X.K dz w True t)
def DXs (X : Cx) (is : List Nat) (w : Bool) (kp : Prop) (ss : List Stmt) (t : TSD) : Prop := ∀ dz : Dz, dz.map (·.1) = is → PSs X ss (rdX X.K dz w kp t)
theorem postX_go {K : PySem.W.Frag} {D : Ends} {B : Addr → Prop} {dz : Dz} {w : Bool} {kp : Prop} {ρ ρ1 : Rho} {σ σ1 : St} {H H1 : Hp} {o : Out} (lk : LkS ρ ρ1 σ σ1) (st : StpW (Wd dz w) (Z ρ σ) H (Z ρ1 σ1) H1) (p : postX K D B dz w kp ρ σ H o) : postX K D B dz w kp ρ1 σ1 H1 o := by
  cases o with
  | nx ρ' => exact fun σ' H' lk2 st2 er => p σ' H' (lk.trans lk2) (st.trans st2) er
  | bk ρ' => exact fun σ' H' lk2 st2 er => p σ' H' (lk.trans lk2) (st.trans st2) er
  | ct ρ' => exact fun σ' H' lk2 st2 er => p σ' H' (lk.trans lk2) (st.trans st2) er
  | rt r ρ' => exact fun v σ' H' hl lk2 st2 rr => p v σ' H' hl (lk.trans lk2) (st.trans st2) (rr.from fun a h => st.fr h)
section
variable {X : Cx} {s : Stmt} {ss : List Stmt} {e : Expr} {pos : Pos} {t : TD} {a b : TSD} {is : List Nat} {w : Bool} {kp : Prop}
theorem dxs_nil : DXs X is w kp [] sSkip := fun dz hd => pss_weak pss_nil fun D σ H q => by
  obtain ⟨B, ρ, o, hl, er, dp, e, p⟩ := q
  cases e
  exact p σ H (.refl _ _) (Stp.refl).w er fun _ => dp
theorem dx_pass : DX X is w (.Pass pos) sSkip := fun dz hd => ps_weak ps_pass fun D σ H q => by
  obtain ⟨B, ρ, o, hl, er, dp, e, p⟩ := q
  cases e
  exact p σ H (.refl _ _) (Stp.refl).w er fun _ => dp
theorem dx_no : DX X is w s sNone := fun _ _ => ⟨fun _ _ _ _ _ _ ⟨_, _, _, _, _, _, h, _⟩ => by cases h⟩
theorem dx_cnt : DX X is w (.Continue pos) sCnt := fun dz hd => ps_weak ps_continue fun D σ H q => by
  obtain ⟨B, ρ, o, hl, er, dp, e, p⟩ := q
  cases e
  exact p σ H (.refl _ _) (Stp.refl).w er fun _ => dp
theorem dx_brk : DX X is w (.Break pos) sBrk := fun dz hd => ps_weak ps_break fun D σ H q => by
  obtain ⟨B, ρ, o, hl, er, dp, e, p⟩ := q
  cases e
  exact p σ H (.refl _ _) (Stp.refl).w er fun _ => dp
theorem postX_kp {K : PySem.W.Frag} {D : Ends} {B : Addr → Prop} {dz : Dz} {ρ : Rho} {σ : St} {H : Hp} {o : Out} (ho : ∀ ρ', o ≠ .nx ρ') (p : postX K D B dz w kp ρ σ H o) (N : St → Hp → Prop) : postX K { D with nx := N } B dz w True ρ σ H o := by
  cases o with
  | nx ρ' => exact absurd rfl (ho ρ')
  | bk ρ' => exact fun σ' H' lk2 st2 er dp => p σ' H' lk2 st2 er fun _ => dp trivial
  | ct ρ' => exact fun σ' H' lk2 st2 er dp => p σ' H' lk2 st2 er fun _ => dp trivial
  | rt r ρ' => exact p
theorem dxs_cons (h : DX X is w s a) (hs : DXs X is w kp ss b) : DXs X is w kp (s :: ss) (sSeq2 a b) := fun dz hd => pss_weak (pss_cons (h dz hd) (hs dz hd)) fun D σ H q => by
  obtain ⟨B, ρ, o, hl, er, dp, e, p⟩ := q
  unfold sSeq2 at e
  split at e
  · rename_i ρ1 e1
    exact ⟨B, ρ, _, hl, er, dp, e1, fun σ1 H1 lk st er1 dp1 => ⟨B, ρ1, o, (lk.len.trans hl).trans lk.slen.symm, er1, dp1 trivial, e, postX_go lk st p⟩⟩
  · rename_i r ρ1 e1
    cases e
    exact ⟨B, ρ, _, hl, er, dp, e1, postX_kp (fun _ z => by cases z) p _⟩
  · rename_i ρ1 e1
    cases e
    exact ⟨B, ρ, _, hl, er, dp, e1, postX_kp (fun _ z => by cases z) p _⟩
  · rename_i ρ1 e1
    cases e
    exact ⟨B, ρ, _, hl, er, dp, e1, postX_kp (fun _ z => by cases z) p _⟩
  · cases e
theorem dx_ret (h : DE X e t) : DX X is w (.Return (some e) pos) (sRet t) := fun dz hd => ps_weak (ps_ret h) fun D σ H q => by
  obtain ⟨B, ρ, o, hl, er, dp, e, p⟩ := q
  unfold sRet at e
  split at e
  · rename_i r ρ1 e1
    cases e
    exact ⟨B, ρ, r, ρ1, hl, er, e1, fun v H1 lk st rr => p v σ H1 (lk.len.trans hl) (lk.s σ) st.w rr⟩
  · cases e
theorem dx_exp (h : DE X e t) (hs : swapsWith e none pos.line X.env = pure false) : DX X is w (.Expr e pos) (sExp t) := fun dz hd => ps_weak (ps_expr h hs) fun D σ H q => by
  obtain ⟨B, ρ, o, hl, er, dp, e, p⟩ := q
  unfold sExp at e
  split at e
  · rename_i r ρ1 e1
    cases e
    exact ⟨B, ρ, r, ρ1, hl, er, e1, fun v H1 lk st rr => p σ H1 (lk.s σ) st.w rr.er.left fun _ => dp.step st fun _ _ => rfl⟩
  · cases e
theorem dx_if {c : Expr} {sa sb : List Stmt} {tc : TB} (hc : DT X c tc) (ha : DXs X is w True sa a) (hb : DXs X is w True sb b) : DX X is w (.If c sa sb pos) (sIf tc a b) := fun dz hd => ps_weak (ps_if hc (ha dz hd) (hb dz hd)) fun D σ H q => by
  obtain ⟨B, ρ, o, hl, er, dp, e, p⟩ := q
  unfold sIf at e
  split at e
  · rename_i ρ1 e1
    refine ⟨B, ρ, true, ρ1, hl, er, e1, fun H1 lk st er1 => iteT ?_⟩
    exact ⟨B, ρ1, o, lk.len.trans hl, er1, dp.step st (fun _ _ => rfl), e, postX_go (lk.s σ) st.w p⟩
  · rename_i ρ1 e1
    refine ⟨B, ρ, false, ρ1, hl, er, e1, fun H1 lk st er1 => iteF ?_⟩
    exact ⟨B, ρ1, o, lk.len.trans hl, er1, dp.step st (fun _ _ => rfl), e, postX_go (lk.s σ) st.w p⟩
  · cases e
/-- what is generic may end such a stretch -/
theorem dxs_gen (h : DSs X ss a) : DXs X is w False ss a := fun dz hd => pss_weak h fun D σ H q => by
  obtain ⟨B, ρ, o, hl, er, dp, e, p⟩ := q
  refine ⟨B, ρ, o, hl, er, e, ?_⟩
  cases o with
  | nx ρ' => exact fun σ' H' lk2 st2 er => p σ' H' lk2 st2.w er False.elim
  | bk ρ' => exact fun σ' H' lk2 st2 er => p σ' H' lk2 st2.w er False.elim
  | ct ρ' => exact fun σ' H' lk2 st2 er => p σ' H' lk2 st2.w er False.elim
  | rt r ρ' => exact fun v σ' H' hl lk2 st2 rr => p v σ' H' hl lk2 st2.w rr
theorem stp_w0 {E E' : Ent} {H H' : Hp} (s : StpW (Wd [] w) E H E' H') : Stp E H E' H' := ⟨fun b o h n => s.keep b o h n fun ⟨_, _, z, _⟩ => (nomatch z), s.own, s.trk⟩
/-- .. and such a stretch stands in what is generic -/
theorem dss_of (h : DXs X [] w False ss a) : DSs X ss a := pss_weak (h [] rfl) fun D σ H q => by
  obtain ⟨B, ρ, o, hl, er, e, p⟩ := q
  refine ⟨B, ρ, o, hl, er, dpOk_nil, e, ?_⟩
  cases o with
  | nx ρ' => exact fun σ' H' lk2 st2 er _ => p σ' H' lk2 (stp_w0 st2) er
  | bk ρ' => exact fun σ' H' lk2 st2 er _ => p σ' H' lk2 (stp_w0 st2) er
  | ct ρ' => exact fun σ' H' lk2 st2 er _ => p σ' H' lk2 (stp_w0 st2) er
  | rt r ρ' => exact fun v σ' H' hl lk2 st2 rr => p v σ' H' hl lk2 (stp_w0 st2) rr
theorem off_dz {dz : Dz} {is js : List Nat} {σ σ' : St} (hd : dz.map (·.1) = is) (hj : ∀ j ∈ js, j ∉ is) (off : Off js σ σ') : ∀ e ∈ dz, σ'[e.1]? = σ[e.1]? := fun e he =>
  off e.1 fun z => hj _ z (by rw [← hd]; exact List.mem_map.mpr ⟨e, he, rfl⟩)
/-- a name, or several, by a value -/
theorem dx_asg {tg : Expr} {g : TGD} {js : List Nat} (he : DE X e t) (hg : DG X tg js g) (hj : ∀ j ∈ js, j ∉ is) (hs : swapsWithSole [tg] e pos.line X.env = pure false) (hw : swappedStores [tg] e X.env = pure none) (h1 : (assignEach [tg] X.env).map (·.2) = [assign tg X.env]) :
    DX X is w (.Assign [tg] e pos) (sAsg t g) := fun dz hd => ps_weak (ps_asg he hg hs hw h1) fun D σ H q => by
  obtain ⟨B, ρ, o, hl, er, dp, e, p⟩ := q
  unfold sAsg at e
  split at e
  · rename_i r ρ1 e1
    split at e
    · rename_i q ρ2 e2
      split at e
      · rename_i ρ3 e3
        cases e
        refine ⟨B, ρ, r, ρ1, hl, er, e1, fun v H1 lk st rr => ?_⟩
        have hl1 := lk.len.trans hl
        obtain ⟨h1, h2, h3, h4, h5, h6⟩ := res_ok hl1 e2 rr.er rr.len rr.bo
        refine ⟨B, ρ2, q, ρ3, h2.len.trans hl1, h1, by simpa using h5, e3, fun σ' H' lk2 st2 er2 off => ?_⟩
        have stA : Stp (Z ρ σ) H (Z ρ3 σ') H' := by
          refine ⟨fun b o hb nb => ?_, fun b t z => ?_, fun b t => st2.trk b (st.trk b t)⟩
          · refine st2.keep b o (st.keep b o hb nb) fun z => ?_
            rcases own_app.mp z with z | z
            · exact nb (st.own b (by rw [hb]; simp) (h3 b z))
            · rw [rr.fr b (h6 b z)] at hb; cases hb
          · rcases own_app.mp (st2.own b (st.trk b t) z) with z | z
            · exact st.own b t (h3 b z)
            · exact absurd (rr.fr b (h6 b z)) t
        exact p σ' H' (((lk.trans h2).s σ).trans lk2) stA.w er2 fun _ => dp.step stA (off_dz hd hj off)
      · cases e
    · cases e
  · cases e

theorem dx_lift (h : DX X is false s a) : DX X is true s a := fun dz hd => ps_weak (h dz hd) fun D σ H q => by
  obtain ⟨B, ρ, o, hl, er, dp, e, p⟩ := q
  refine ⟨B, ρ, o, hl, er, dp, e, ?_⟩
  have lft : ∀ {E E' : Ent} {H H' : Hp}, StpW (Wd dz false) E H E' H' → StpW (Wd dz true) E H E' H' := fun s => ⟨fun b o h n _ => s.keep b o h n fun z => (by cases z.1), s.own, s.trk⟩
  cases o with
  | nx ρ' => exact fun σ' H' lk2 st2 er dp => p σ' H' lk2 (lft st2) er dp
  | bk ρ' => exact fun σ' H' lk2 st2 er dp => p σ' H' lk2 (lft st2) er dp
  | ct ρ' => exact fun σ' H' lk2 st2 er dp => p σ' H' lk2 (lft st2) er dp
  | rt r ρ' => exact fun v σ' H' hl lk2 st2 rr => p v σ' H' hl lk2 (lft st2) rr
theorem stp_f {dz : Dz} {E E' : Ent} {H H' : Hp} (s : StpW (Wd dz false) E H E' H') : Stp E H E' H' := ⟨fun b o h n => s.keep b o h n fun z => (by cases z.1), s.own, s.trk⟩
/-- a loop that leaves the lists within as they are -/
theorem dx_for {tg iter : Expr} {body : List Stmt} {src : TSr} {tgt : TGD} {tb : TSD} {js : List Nat} (hp : PassesOwn (model X.prog X.w) X.A X.env X.xe) (hc : X.calm = true) (hi : DI X tg iter src) (hg : DG X tg js tgt) (hj : ∀ j ∈ js, j ∉ is) (hb : DXs X is false True body tb) (hs : ∀ x, foldedSetIterable iter X.env x = pure x) :
    DX X is w (.For tg iter body [] pos) (sFor src tgt tb) := fun dz hd => ps_weak (ps_for hp hc hi hg (hb dz hd) hs) fun D σ H q => by
  obtain ⟨B, ρ, o, hl, er, dp, e, p⟩ := q
  unfold sFor at e
  split at e
  · rename_i its ρ1 e1
    refine ⟨B, ρ, its, ρ1, hl, er, e1, fun J H1 lk st er1 sok => ?_⟩
    obtain ⟨Y, wk, hY⟩ := sok
    have hl1 := lk.len.trans hl
    let Pv : Nat → St → Hp → Prop := fun i σi Hi => ∃ ρi o', ρi.length = σi.length ∧ LkS ρ1 ρi σ σi ∧ Stp (Z ρ1 σ) H1 (Z ρi σi) Hi ∧ ER X.K Hi B (Z ρi σi) ∧ DpOk Hi B ρi σi dz ∧ loopF tgt tb (its.drop i) ρi = some o' ∧ postX X.K D B dz w True ρi σi Hi o'
    refine for_it wk Pv ⟨ρ1, o, hl1, .refl _ _, .refl, er1, dp.step st (fun _ _ => rfl), e, postX_go (lk.s σ) st.w p⟩ (fun i σi Hi _ hP b ob hb nb => ?_) (fun i x σi Hi Hi' hi hP hy => ?_) (fun σn Hn hP => ?_)
    · obtain ⟨ρi, o', _, _, sti, _⟩ := hP
      exact sti.keep b ob hb nb
    · obtain ⟨ρi, o', hli, lki, sti, eri, dpi, ei, pi⟩ := hP
      have hstay : Stay ρ1 σ H1 Hi := fun b ob hb nb => sti.keep b ob hb nb
      obtain ⟨sm, d, hd2, hrep⟩ := hY i Hi x Hi' hi hstay hy
      have hdrop : its.drop i = d :: its.drop (i + 1) := by
        have := List.drop_eq_getElem_cons hi
        rw [this]
        congr 1
        have h2 := List.getElem?_eq_getElem hi
        rw [hd2] at h2
        exact (Option.some.inj h2).symm
      rw [hdrop] at ei
      unfold loopF at ei
      split at ei
      · rename_i ρa ea
        have eri' := er_same eri sm
        have hmA : ∀ b, H1 b ≠ none → AO B (Z ρi σi) b → AO B (Z ρ1 σ) b := fun b t z => z.elim .inl fun z => .inr (sti.own b t z)
        have erT := (eri'.dup (hrep _ hmA)).perm (List.perm_append_comm (l₁ := [(some (Slot.val d), some x)]))
        refine ⟨B, ρi, .v d, ρa, hli, erT, rfl, ea, fun σ2 H2 lk2 st2 er2 off2 => ?_⟩
        have hl2 : ρa.length = σ2.length := by rw [lk2.len, hli, lk2.slen]
        have st2' : Stp (Z ρi σi) Hi' (Z ρa σ2) H2 := ⟨fun b o q n => st2.keep b o q fun z => (own_app.mp z).elim n fun z => own_nil (own_valcons z), fun b t z => (own_app.mp (st2.own b t z)).elim id fun z => (own_nil (own_valcons z)).elim, st2.trk⟩
        have stT : Stp (Z ρi σi) Hi (Z ρa σ2) H2 := (Stp.same sm).trans st2'
        have p2 := postX_go lk2 stT.w pi
        have dp2 := dpi.step stT (off_dz hd hj off2)
        split at ei
        · rename_i ρb eb
          refine ⟨B, ρa, _, hl2, er2, dp2, eb, fun σ3 H3 lk3 st3 er3 dp3 => ?_⟩
          exact ⟨ρb, o', (lk3.len.trans hl2).trans lk3.slen.symm, (lki.trans lk2).trans lk3, (sti.trans stT).trans (stp_f st3), er3, dp3 trivial, ei, postX_go lk3 (stp_f st3).w p2⟩
        · rename_i ρb eb
          refine ⟨B, ρa, _, hl2, er2, dp2, eb, fun σ3 H3 lk3 st3 er3 dp3 => ?_⟩
          exact ⟨ρb, o', (lk3.len.trans hl2).trans lk3.slen.symm, (lki.trans lk2).trans lk3, (sti.trans stT).trans (stp_f st3), er3, dp3 trivial, ei, postX_go lk3 (stp_f st3).w p2⟩
        · rename_i ρb eb
          cases ei
          exact ⟨B, ρa, _, hl2, er2, dp2, eb, fun σ3 H3 lk3 st3 er3 dp3 => p2 σ3 H3 lk3 (stp_f st3).w er3 dp3⟩
        · rename_i r ρb eb
          cases ei
          exact ⟨B, ρa, _, hl2, er2, dp2, eb, fun v σ3 H3 hl3 lk3 st3 rr3 => p2 v σ3 H3 hl3 lk3 (stp_f st3).w rr3⟩
        · cases ei
      · cases ei
    · obtain ⟨ρi, o', hli, lki, sti, eri, dpi, ei, pi⟩ := hP
      rw [List.drop_length] at ei
      unfold loopF at ei
      cases ei
      exact pi σn Hn (.refl _ _) (Stp.refl).w eri fun _ => dpi
  · cases e
end
/-! ### a source of things without lists -/
def StayL (H H' : Hp) : Prop := ∀ b o, H b = some o → (∀ xs, o ≠ .lst xs) → H' b = some o
def SrcF (K : PySem.W.Frag) (H : Hp) (J : It) (its : List D) : Prop := ∃ Y, Walk J its.length (StayL H) Y ∧
  ∀ i H1 x H2, i < its.length → StayL H H1 → Y i H1 x H2 → Same H1 H2 ∧ ∃ d, its[i]? = some d ∧ ∀ A' : Addr → Prop, Rep K H2 A' d x
def rdIF (K : PySem.W.Frag) (ts : TSr) : TI := fun σ H R => ∃ B ρ its ρ', ρ.length = σ.length ∧ ER K H B (Z ρ σ) ∧ ts ρ = some (its, ρ') ∧
  ∀ J H1, Lk ρ ρ' → Stp (Z ρ σ) H (Z ρ' σ) H1 → ER K H1 B (Z ρ' σ) → SrcF K H1 J its → R J H1
def DIF (X : Cx) (tg e : Expr) (ts : TSr) : Prop := PI X tg e (rdIF X.K ts)
theorem stayL_tup {K : PySem.W.Frag} {H H1 : Hp} {a : Addr} {xs : List V} (hr : SqT K H a xs) (st : StayL H H1) : SqT K H1 a xs := by
  rcases hr with (hr | ⟨o, hr⟩) | hr
  · exact .inl (.inl (st _ _ hr (fun _ z => by cases z)))
  · exact .inl (.inr ⟨o, st _ _ hr (fun _ z => by cases z)⟩)
  · exact .inr hr
theorem srcF_rg {K : PySem.W.Frag} {H : Hp} (a b : Int) : SrcF K H (Itr a (b - a).toNat) (rgD a b) := by
  refine ⟨YFn fun i => .int (a + i), ?_, fun i H1 x H2 hi st y => ?_⟩
  · rw [rgD_len]
    exact walk_range.mono (fun _ _ => trivial) fun _ _ _ _ _ _ y => y
  · obtain ⟨rfl, rfl⟩ := y
    rw [rgD_len] at hi
    exact ⟨.refl _, _, rgD_get hi, fun _ => rep_int⟩
def sEnumF (t : TD) : TSr := fun ρ => match t ρ with
  | some (r, ρ1) => match frz [r] ρ1 with
    | some ([.tuple as], ρ2) => if flats as then some (enumD 0 as, ρ2) else none
    | _ => none
  | none => none
def sSeqF (t : TD) : TSr := fun ρ => match t ρ with
  | some (r, ρ1) => match frz [r] ρ1 with
    | some ([.tuple as], ρ2) => if flats as then some (as, ρ2) else none
    | _ => none
  | none => none
theorem flats_get : ∀ {ds : List D} {i : Nat} {d : D}, flats ds = true → ds[i]? = some d → flat d = true
  | [], _, _, _, e => by simp at e
  | x :: ds, 0, d, h, e => by simp only [flats, Bool.and_eq_true] at h; simp at e; subst e; exact h.1
  | x :: ds, i + 1, d, h, e => by simp only [flats, Bool.and_eq_true] at h; exact flats_get h.2 (by simpa using e)
section
variable {X : Cx} {tg l e e2 : Expr} {t t2 : TD} {p pos tpos : Pos}
theorem dif_rg1 (hg : Gl X "range") (hm : X.mg "range" = none) (h : DE X e t) (hs : starEach [e] X.env = [(false, eval e X.env)]) : DIF X tg (.Call (.Name "range" p) [e] [] pos) (sRg1 t) := by
  refine pi_weak (pi_range1 hg hm (pa_cons h pa_nil hs) hs) fun σ H R q => ?_
  obtain ⟨B, ρ, its, ρ', hl, er, e, k⟩ := q
  unfold sRg1 at e
  split at e
  · rename_i r ρ1 e1
    split at e
    · rename_i j e2
      obtain rfl := asI_some e2
      split at e
      · rename_i ok
        cases e
        refine ⟨B, ρ, _, ρ', hl, er, e1, fun v H1 lk st rr => ?_⟩
        obtain ⟨o1, o2, o3, o4, o5⟩ := rgOk_ok ok
        refine ⟨j, by rw [rr.int], o3, o4, ?_⟩
        have := k (Itr 0 (j - 0).toNat) H1 lk st rr.er.left (srcF_rg 0 j)
        simpa using this
      · cases e
    · cases e
  · cases e
theorem dif_rg2 (hg : Gl X "range") (hm : X.mg "range" = none) (h : DE X e t) (h2 : DE X e2 t2) (hs : starEach [e, e2] X.env = [(false, eval e X.env), (false, eval e2 X.env)]) (hs2 : starEach [e2] X.env = [(false, eval e2 X.env)]) :
    DIF X tg (.Call (.Name "range" p) [e, e2] [] pos) (sRg2 t t2) := by
  refine pi_weak (pi_range2 hg hm (pa_cons h (pa_cons h2 pa_nil hs2) (by simp only [hs, hs2])) hs hs2) fun σ H R q => ?_
  obtain ⟨B, ρ, its, ρ', hl, er, e, k⟩ := q
  unfold sRg2 at e
  split at e
  · rename_i r ρ1 e1
    split at e
    · rename_i i ei
      obtain rfl := asI_some ei
      split at e
      · rename_i r2 ρ2 e2
        split at e
        · rename_i j ej
          obtain rfl := asI_some ej
          split at e
          · rename_i ok
            cases e
            refine ⟨B, ρ, _, ρ1, hl, er, e1, fun v H1 lk st rr => ⟨B, ρ1, _, ρ', lk.len.trans hl, rr.er.left, e2, fun u H2 lk2 st2 rr2 => ?_⟩⟩
            obtain ⟨o1, o2, o3, o4, o5⟩ := rgOk_ok ok
            refine ⟨i, j, by rw [rr.int, rr2.int], ⟨o1, o2, o3, o4⟩, ?_⟩
            exact k _ H2 (lk.trans lk2) (st.trans st2) rr2.er.left (srcF_rg i j)
          · cases e
        · cases e
      · cases e
    · cases e
  · cases e
theorem dif_enum {elts : List Expr} {kk : Nat} (hg : Gl X "enumerate") (hm : X.mg "enumerate" = none) (h : DE X e t) (hs : starEach [e] X.env = [(false, eval e X.env)]) : DIF X (.Tuple elts kk tpos) (.Call (.Name "enumerate" p) [e] [] pos) (sEnumF t) := by
  refine pi_weak (pi_enumA hg hm (pa_cons h pa_nil hs) hs) fun σ H R q => ?_
  obtain ⟨B, ρ, its, ρ', hl, er, e, k⟩ := q
  unfold sEnumF at e
  split at e
  · rename_i r ρ1 e1
    split at e
    · rename_i as ρ2 e2
      split at e
      · rename_i hf
        cases e
        refine ⟨B, ρ, r, ρ1, hl, er, e1, fun v H1 lk st rr => ?_⟩
        obtain ⟨h1, h2, h3, h4⟩ := frz_ok (lk.len.trans hl) e2 rr
        have rp := h2.one
        unfold Rep at rp
        obtain ⟨a, xs, rfl, ha, ra⟩ := rp
        refine ⟨a, xs, rfl, .inr ⟨ha, k _ H1 (lk.trans h3) (st.trans (stp_own h4)) h1 ?_⟩⟩
        refine ⟨YPair (fun i => some (.int (i : Nat))) (fun i => xs[i]?), ?_, fun i H2 x H3 hi st2 y => ?_⟩
        · rw [enumD_len, ← ra.len]
          exact walk_enumT.mono (fun H2 st2 => stayL_tup ha st2) fun _ _ _ _ _ _ y => y
        · obtain ⟨T, x1, y1, rfl, nT, rfl, f1, f2⟩ := y
          cases f1
          obtain ⟨b, eb, rb⟩ := ra.get' f2
          refine ⟨upd_same_of nT, _, enumD_get eb, fun A' => rep_tup nT (.cons ?_ (.cons (rb.flat (flats_get hf eb) st2) .nil))⟩
          rw [Nat.zero_add]
          exact rep_int
      · cases e
    · cases e
  · cases e
theorem dif_seq (h : DE X l t) : DIF X tg l (sSeqF t) := by
  refine pi_weak (pi_seq h) fun σ H R q => ?_
  obtain ⟨B, ρ, its, ρ', hl, er, e, k⟩ := q
  unfold sSeqF at e
  split at e
  · rename_i r ρ1 e1
    split at e
    · rename_i as ρ2 e2
      split at e
      · rename_i hf
        cases e
        refine ⟨B, ρ, r, ρ1, hl, er, e1, fun v H1 lk st rr => ?_⟩
        obtain ⟨h1, h2, h3, h4⟩ := frz_ok (lk.len.trans hl) e2 rr
        have rp := h2.one
        unfold Rep at rp
        obtain ⟨a, xs, rfl, ha, ra⟩ := rp
        refine ⟨a, rfl, .inr ⟨xs, ha, k _ H1 (lk.trans h3) (st.trans (stp_own h4)) h1 ?_⟩⟩
        refine ⟨YAt xs, ?_, fun i H1 x H2 hi st y => ?_⟩
        · rw [← ra.len]
          exact walk_tup.mono (fun H1 st => stayL_tup ha st) fun _ _ _ _ _ _ y => y
        · obtain ⟨rfl, y⟩ := y
          obtain ⟨d, e, r⟩ := ra.get' y
          exact ⟨.refl _, d, e, fun A' => r.flat (flats_get hf e) st⟩
      · cases e
    · cases e
  · cases e
end
section
variable {X : Cx} {pos : Pos} {is : List Nat}
theorem stayL_of {K : PySem.W.Frag} {H H' : Hp} {B : Addr → Prop} {ρ ρ' : Rho} {σ σ' : St} {dz : Dz} {w : Bool} (er : ER K H B (Z ρ σ)) (dp : DpOk H B ρ σ dz) (st : StpW (Wd dz w) (Z ρ σ) H (Z ρ' σ') H') : StayL H H' := fun b o hb hn => by
  refine st.keep b o hb (fun z => ?_) fun z => ?_
  · obtain ⟨vs, q⟩ := er.lst z
    rw [hb] at q; cases q
    exact hn _ rfl
  · obtain ⟨⟨us, q⟩, _⟩ := dp.inn b z.2
    rw [hb] at q; cases q
    exact hn _ rfl
/-- a loop that changes lists within -/
theorem dx_forF {tg iter : Expr} {body : List Stmt} {src : TSr} {tgt : TGD} {tb : TSD} {js : List Nat} (hp : PassesOwn (model X.prog X.w) X.A X.env X.xe) (hc : X.calm = true) (hi : DIF X tg iter src) (hg : DG X tg js tgt) (hj : ∀ j ∈ js, j ∉ is) (hb : DXs X is true True body tb) (hs : ∀ x, foldedSetIterable iter X.env x = pure x) :
    DX X is true (.For tg iter body [] pos) (sFor src tgt tb) := fun dz hd => ps_weak (ps_for hp hc hi hg (hb dz hd) hs) fun D σ H q => by
  obtain ⟨B, ρ, o, hl, er, dp, e, p⟩ := q
  unfold sFor at e
  split at e
  · rename_i its ρ1 e1
    refine ⟨B, ρ, its, ρ1, hl, er, e1, fun J H1 lk st er1 sok => ?_⟩
    obtain ⟨Y, wk, hY⟩ := sok
    have hl1 := lk.len.trans hl
    have dp1 : DpOk H1 B ρ1 σ dz := dp.step st (fun _ _ => rfl)
    let Pv : Nat → St → Hp → Prop := fun i σi Hi => ∃ ρi o', ρi.length = σi.length ∧ LkS ρ1 ρi σ σi ∧ StpW (Wd dz true) (Z ρ1 σ) H1 (Z ρi σi) Hi ∧ ER X.K Hi B (Z ρi σi) ∧ DpOk Hi B ρi σi dz ∧ loopF tgt tb (its.drop i) ρi = some o' ∧ postX X.K D B dz true True ρi σi Hi o'
    refine for_it wk Pv ⟨ρ1, o, hl1, .refl _ _, (Stp.refl).w, er1, dp1, e, postX_go (lk.s σ) st.w p⟩ (fun i σi Hi _ hP => ?_) (fun i x σi Hi Hi' hi hP hy => ?_) (fun σn Hn hP => ?_)
    · obtain ⟨ρi, o', _, _, sti, _⟩ := hP
      exact stayL_of er1 dp1 sti
    · obtain ⟨ρi, o', hli, lki, sti, eri, dpi, ei, pi⟩ := hP
      obtain ⟨sm, d, hd2, hrep⟩ := hY i Hi x Hi' hi (stayL_of er1 dp1 sti) hy
      have hdrop : its.drop i = d :: its.drop (i + 1) := by
        have := List.drop_eq_getElem_cons hi
        rw [this]
        congr 1
        have h2 := List.getElem?_eq_getElem hi
        rw [hd2] at h2
        exact (Option.some.inj h2).symm
      rw [hdrop] at ei
      unfold loopF at ei
      split at ei
      · rename_i ρa ea
        have eri' := er_same eri sm
        have erT := (eri'.dup (hrep _)).perm (List.perm_append_comm (l₁ := [(some (Slot.val d), some x)]))
        refine ⟨B, ρi, .v d, ρa, hli, erT, rfl, ea, fun σ2 H2 lk2 st2 er2 off2 => ?_⟩
        have hl2 : ρa.length = σ2.length := by rw [lk2.len, hli, lk2.slen]
        have st2' : Stp (Z ρi σi) Hi' (Z ρa σ2) H2 := ⟨fun b o q n => st2.keep b o q fun z => (own_app.mp z).elim n fun z => own_nil (own_valcons z), fun b t z => (own_app.mp (st2.own b t z)).elim id fun z => (own_nil (own_valcons z)).elim, st2.trk⟩
        have stT : Stp (Z ρi σi) Hi (Z ρa σ2) H2 := (Stp.same sm).trans st2'
        have p2 := postX_go lk2 stT.w pi
        have dp2 := dpi.step stT (off_dz hd hj off2)
        split at ei
        · rename_i ρb eb
          refine ⟨B, ρa, _, hl2, er2, dp2, eb, fun σ3 H3 lk3 st3 er3 dp3 => ?_⟩
          exact ⟨ρb, o', (lk3.len.trans hl2).trans lk3.slen.symm, (lki.trans lk2).trans lk3, (sti.trans stT.w).trans st3, er3, dp3 trivial, ei, postX_go lk3 st3 p2⟩
        · rename_i ρb eb
          refine ⟨B, ρa, _, hl2, er2, dp2, eb, fun σ3 H3 lk3 st3 er3 dp3 => ?_⟩
          exact ⟨ρb, o', (lk3.len.trans hl2).trans lk3.slen.symm, (lki.trans lk2).trans lk3, (sti.trans stT.w).trans st3, er3, dp3 trivial, ei, postX_go lk3 st3 p2⟩
        · rename_i ρb eb
          cases ei
          exact ⟨B, ρa, _, hl2, er2, dp2, eb, fun σ3 H3 lk3 st3 er3 dp3 => p2 σ3 H3 lk3 st3 er3 dp3⟩
        · rename_i r ρb eb
          cases ei
          exact ⟨B, ρa, _, hl2, er2, dp2, eb, p2⟩
        · cases ei
      · cases ei
    · obtain ⟨ρi, o', hli, lki, sti, eri, dpi, ei, pi⟩ := hP
      rw [List.drop_length] at ei
      unfold loopF at ei
      cases ei
      exact pi σn Hn (.refl _ _) (Stp.refl).w eri fun _ => dpi
  · cases e
end
end Dn

set_option Elab.async false
set_option linter.all false
set_option maxRecDepth 100000
set_option maxHeartbeats 2000000
namespace Dn
open PySem PySem.Spec PyProof.Rows L2 RZ

/-! ### a list within is changed -/
def thin : Option Slot → Option Slot
  | some (.val d) => if flat d then some (.val d) else none
  | some (.own p xs) => if flats xs then some (.own p xs) else none
  | none => none
def pinsFlat (ρ : Rho) : Bool := ρ.all fun s => match s with
  | some (.own true xs) => flats xs
  | _ => true
def flatL : D → Bool
  | .list xs => flats xs
  | _ => false
theorem thin_cases (s : Option Slot) : thin s = none ∨ (thin s = s ∧ (∀ d, s = some (.val d) → flat d = true) ∧ ∀ p xs, s = some (.own p xs) → flats xs = true) := by
  match s with
  | none => exact .inl rfl
  | some (.val d) =>
    by_cases h : flat d = true
    · exact .inr ⟨by simp [thin, h], fun d' e => (by cases e; exact h), fun p xs e => (by cases e)⟩
    · exact .inl (by simp [thin, h])
  | some (.own p xs) =>
    by_cases h : flats xs = true
    · exact .inr ⟨by simp [thin, h], fun d' e => (by cases e), fun p xs e => (by cases e; exact h)⟩
    · exact .inl (by simp [thin, h])
section
variable {K : PySem.W.Frag} {H H' : Hp} {A : Addr → Prop} {B : Addr → Prop}
theorem repA_of : ∀ {ds : List D} {vs : List V}, ds.length = vs.length → (∀ (i : Nat) (d : D) (v : V), ds[i]? = some d → vs[i]? = some v → Rep K H A d v) → RepA K H A ds vs
  | [], [], _, _ => .nil
  | d :: ds, v :: vs, hl, h => .cons (h 0 d v rfl rfl) (repA_of (by simpa using hl) fun i d v e1 e2 => h (i + 1) d v (by simpa using e1) (by simpa using e2))
  | [], _ :: _, hl, _ => by simp at hl
  | _ :: _, [], hl, _ => by simp at hl
/-- a list within gets new contents: slot i, its list a, the lists bs, at k the list b -/
theorem deep_set {ρ : Rho} {σ : St} {dz : Dz} {i k : Nat} {a b : Addr} {bs : List Addr} {ds : List D} {xs xs' : List D} {us us' : List V} (hl : ρ.length = σ.length) (er : ER K H B (Z ρ σ)) (dp : DpOk H B ρ σ dz) (hm : (i, a, bs) ∈ dz) (hb : bs[k]? = some b)
    (hρ : ρ[i]? = some (some (.val (.list ds)))) (hf : ds.all flatL = true) (hp : pinsFlat ρ = true) (hlen : ds.length = bs.length) (hk : ds[k]? = some (.list xs)) (hub : H b = some (.lst us)) (hx : RepA K (upd H b (.lst us')) A xs' us') (hfx : flats xs' = true)
    (hin : ∀ (j : Nat) (ys : List D) c, ds[j]? = some (.list ys) → bs[j]? = some c → ∃ vs, H c = some (.lst vs) ∧ RepA K H A ys vs) :
    ER K (upd H b (.lst us')) B (Z ((ρ.map thin).set i (some (.val (.list (ds.set k (.list xs')))))) σ) ∧ DpOk (upd H b (.lst us')) B ((ρ.map thin).set i (some (.val (.list (ds.set k (.list xs')))))) σ dz ∧
      StpW (Wd dz true) (Z ρ σ) H (Z ((ρ.map thin).set i (some (.val (.list (ds.set k (.list xs')))))) σ) (upd H b (.lst us')) ∧ Lk ρ ((ρ.map thin).set i (some (.val (.list (ds.set k (.list xs')))))) := by
  obtain ⟨ht1, ht2, ht3, ht4, ht5⟩ := dp.top _ hm
  simp only at ht1 ht2 ht3 ht4 ht5
  have hbD : inD dz b := ⟨_, hm, List.mem_of_getElem? hb⟩
  obtain ⟨_, hnB, hnO⟩ := dp.inn b hbD
  have hi : i < ρ.length := (List.getElem?_eq_some_iff.mp hρ).1
  let ρt : Rho := (ρ.map thin).set i none
  have hlt : ρt.length = σ.length := by simp [ρt, hl]
  -- all but flat things blanked
  have ent : ∀ (j : Nat) (p : Option Slot × Option V), (Z ρt σ)[j]? = some p → p.1 = none ∨ ((Z ρ σ)[j]? = some p ∧ (∀ d, p.1 = some (.val d) → flat d = true) ∧ ∀ q xs, p.1 = some (.own q xs) → flats xs = true) := fun j p e => by
    obtain ⟨e1, e2⟩ := Z_get.mp e
    by_cases hj : i = j
    · subst hj
      left
      have : ρt[i]? = some none := by simp [ρt, hi]
      rw [this] at e1
      exact (Option.some.inj e1).symm
    · have e3 : (ρ.map thin)[j]? = some p.1 := by
        have : ρt[j]? = (ρ.map thin)[j]? := List.getElem?_set_ne hj
        rw [← this]; exact e1
      rw [List.getElem?_map] at e3
      obtain ⟨s, e4, e5⟩ := Option.map_eq_some_iff.mp e3
      rcases thin_cases s with h | ⟨h1, h2, h3⟩
      · left; rw [← e5, h]
      · right
        rw [h1] at e5
        subst e5
        exact ⟨Z_get.mpr ⟨e4, e2⟩, h2, h3⟩
  obtain ⟨ert, ownt⟩ := er_entries (E := Z ρ σ) (F := Z ρt σ) (T := []) (by rw [Z_len hl, Z_len hlt]) (fun j p e => (ent j p e).imp id (·.1)) (by simpa using er)
  simp only [List.append_nil] at ert ownt
  have flatE : ∀ s v, (s, v) ∈ Z ρt σ → (∀ d, s = some (.val d) → flat d = true) ∧ ∀ q xs, s = some (.own q xs) → flats xs = true := fun s v m => by
    obtain ⟨j, hj⟩ := List.mem_iff_getElem?.mp m
    rcases ent j _ hj with h | ⟨_, h⟩
    · simp only at h
      subst h
      exact ⟨fun d e => (by cases e), fun q xs e => (by cases e)⟩
    · exact h
  have hH : ∀ c o, H c = some o → (∀ xs, o ≠ .lst xs) → (upd H b (.lst us')) c = some o := fun c o e n => by
    rw [upd_ne]
    · exact e
    · intro z; subst z; rw [hub] at e; cases e; exact n _ rfl
  have er3 : ER K (upd H b (.lst us')) B (Z ρt σ) := by
    refine ⟨fun d v m => ?_, fun p ys v m => ?_, ert.nd, fun c z => ?_⟩
    · obtain ⟨u, e, r⟩ := ert.val d v m
      exact ⟨u, e, r.flat ((flatE _ _ m).1 d rfl) hH⟩
    · obtain ⟨c, vs, e, h1, r, nb⟩ := ert.own p ys v m
      have hcb : c ≠ b := fun z => by subst z; subst e; exact hnO (ownt _ ⟨p, ys, m⟩)
      exact ⟨c, vs, e, by rw [upd_ne hcb]; exact h1, r.flat ((flatE _ _ m).2 p ys rfl) hH, nb⟩
    · by_cases hc : c = b
      · subst hc; rw [upd_same]; simp
      · rw [upd_ne hc]; exact ert.trk c z
  have hab : a ≠ b := fun z => ht5 (by rw [z]; exact hbD)
  have hnt : ∀ c, ¬ B c → ¬ Own (Z ρ σ) c → ¬ AO B (Z ρt σ) c := fun c h1 h2 z => z.elim h1 fun z => h2 (ownt c z)
  -- the slot's own value
  have rl : Rep K (upd H b (.lst us')) (AO B (Z ρt σ)) (.list (ds.set k (.list xs'))) (.ref a) := by
    unfold Rep
    refine ⟨a, bs.map .ref, rfl, .inl ⟨hnt a ht3 ht4, .inl (by rw [upd_ne hab]; exact ht2)⟩, repA_of (by simp [hlen]) fun j d v e1 e2 => ?_⟩
    rw [List.getElem?_map] at e2
    obtain ⟨c, e3, e4⟩ := Option.map_eq_some_iff.mp e2
    subst e4
    have hcD : inD dz c := ⟨_, hm, List.mem_of_getElem? e3⟩
    obtain ⟨_, hcB, hcO⟩ := dp.inn c hcD
    by_cases hj : k = j
    · subst hj
      rw [hb] at e3; cases e3
      have hkl : k < ds.length := (List.getElem?_eq_some_iff.mp hk).1
      rw [List.getElem?_set_self hkl] at e1
      cases e1
      unfold Rep
      exact ⟨b, us', rfl, .inl ⟨hnt b hnB hnO, .inl upd_same⟩, hx.flat hfx fun _ _ z _ => z⟩
    · rw [List.getElem?_set_ne hj] at e1
      have hfl := List.all_eq_true.mp hf d (List.mem_of_getElem? e1)
      cases d with
      | list ys =>
        have hcb : c ≠ b := fun z => by
          subst z
          exact hj ((dp.one _ hm _ hm _ _ _ hb e3).2)
        obtain ⟨vs, h1, h2⟩ := hin j ys c e1 e3
        unfold Rep
        exact ⟨c, vs, rfl, .inl ⟨hnt c hcB hcO, .inl (by rw [upd_ne hcb]; exact h1)⟩, h2.flat (by simpa [flatL] using hfl) hH⟩
      | _ => simp [flatL] at hfl
  have er4 := (er3.dup rl).perm (List.perm_append_comm (l₁ := [(some (Slot.val (.list (ds.set k (.list xs')))), some (V.ref a))]))
  obtain ⟨er5, own5⟩ := put_er (T := []) hlt (by simpa [ρt] using hi) er4
  rw [List.append_nil] at er5 own5
  have hσ : σ.set i (some (.ref a)) = σ := by
    apply List.ext_getElem?
    intro j
    by_cases hj : i = j
    · subst hj
      rw [List.getElem?_set_self (by omega), ht1]
    · rw [List.getElem?_set_ne hj]
  rw [hσ] at er5 own5
  have hset : ρt.set i (some (.val (.list (ds.set k (.list xs'))))) = (ρ.map thin).set i (some (.val (.list (ds.set k (.list xs'))))) := by simp [ρt]
  rw [hset] at er5 own5
  have own6 : ∀ c, Own (Z ((ρ.map thin).set i (some (.val (.list (ds.set k (.list xs')))))) σ) c → Own (Z ρ σ) c := fun c z => by
    rcases own_app.mp (own5 c z) with z | z
    · exact ownt c z
    · exact (own_nil (own_valcons z)).elim
  refine ⟨er5, ⟨fun e he => ?_, fun c hc => ?_, dp.one⟩, ⟨fun c o h1 h2 h3 => ?_, fun c _ z => own6 c z, fun c h => ?_⟩, ⟨by simp, fun j ys h => ?_⟩⟩
  · obtain ⟨g1, g2, g3, g4, g5⟩ := dp.top e he
    have hne : e.2.1 ≠ b := fun z => g5 (by rw [z]; exact hbD)
    exact ⟨g1, by rw [upd_ne hne]; exact g2, g3, fun z => g4 (own6 _ z), g5⟩
  · obtain ⟨⟨vs, g1⟩, g2, g3⟩ := dp.inn c hc
    refine ⟨?_, g2, fun z => g3 (own6 _ z)⟩
    by_cases h : c = b
    · subst h; exact ⟨us', upd_same⟩
    · exact ⟨vs, by rw [upd_ne h]; exact g1⟩
  · rw [upd_ne fun z => h3 (by subst z; exact ⟨rfl, hbD⟩)]; exact h1
  · by_cases hc : c = b
    · subst hc; rw [upd_same]; simp
    · rw [upd_ne hc]; exact h
  · refine ⟨ys, ?_⟩
    have hij : i ≠ j := fun z => by subst z; rw [hρ] at h; cases h
    rw [List.getElem?_set_ne hij, List.getElem?_map, h]
    have := List.all_eq_true.mp hp _ (List.mem_of_getElem? h)
    simp only at this
    simp [thin, this]
/-- what a slot's list holds -/
theorem deep_get {X : Cx} {pins : List (Addr × Obj)} {s : Shared} {σ0 : St} {H0 H : Hp} {B : Addr → Prop} {ρ : Rho} {σ : St} {dz : Dz} {i : Nat} {a : Addr} {bs : List Addr} {ds : List D} (I : Inv X pins σ0 H0 s) (er : ER X.K H B (Z ρ σ)) (dp : DpOk H B ρ σ dz) (hm : (i, a, bs) ∈ dz)
    (hρ : ρ[i]? = some (some (.val (.list ds)))) (h0 : ∀ c vs, (c = a ∨ c ∈ bs) → H c = some (.lst vs) → H0 c = some (.lst vs)) :
    ds.length = bs.length ∧ ∀ (j : Nat) (ys : List D), ds[j]? = some (.list ys) → ∃ c vs, bs[j]? = some c ∧ H c = some (.lst vs) ∧ RepA X.K H (AO B (Z ρ σ)) ys vs := by
  obtain ⟨ht1, ht2, ht3, ht4, ht5⟩ := dp.top _ hm
  simp only at ht1 ht2 ht3 ht4 ht5
  obtain ⟨u, eu, r⟩ := er.val _ _ (mem_Z hρ ht1)
  cases eu
  unfold Rep at r
  obtain ⟨a', xs, ea, hla, hra⟩ := r
  cases ea
  have hxs : xs = bs.map .ref := by
    rcases hla with ⟨_, h | ⟨o, h⟩⟩ | h
    · rw [ht2] at h; cases h; rfl
    · rw [ht2] at h; cases h
    · exact kl_eq I (h0 a _ (.inl rfl) ht2) h
  subst hxs
  refine ⟨by simpa using hra.len.symm, fun j ys e => ?_⟩
  obtain ⟨v, e1, r⟩ := hra.get e
  rw [List.getElem?_map] at e1
  obtain ⟨c, e2, e3⟩ := Option.map_eq_some_iff.mp e1
  subst e3
  have hcD : inD dz c := ⟨_, hm, List.mem_of_getElem? e2⟩
  obtain ⟨⟨vs, h1⟩, _, _⟩ := dp.inn c hcD
  unfold Rep at r
  obtain ⟨c', ws, ec, hlc, hrc⟩ := r
  cases ec
  have : ws = vs := by
    rcases hlc with ⟨_, h | ⟨o, h⟩⟩ | h
    · rw [h1] at h; cases h; rfl
    · rw [h1] at h; cases h
    · exact kl_eq I (h0 c _ (.inr (List.mem_of_getElem? e2)) h1) h
  subst this
  exact ⟨c, ws, e2, h1, hrc⟩
end
/-- x[..].append(..), x a slot that holds lists of its own -/
def sApp2 (i : Nat) (tx te : TD) : TSD := fun ρ => match tx ρ with
  | some (r1, ρ1) => match asI r1 with
    | some j => match ρ1[i]? with
      | some (some (.val (.list ds1))) => match ixN ds1.length j with
        | some k => match te ρ1 with
          | some (.v d, ρ2) => match ρ2[i]? with
            | some (some (.val (.list ds))) => match ds[k]? with
              | some (.list xs) => if flat d && ds.all flatL && pinsFlat ρ2 && decide (xs.length < 1000000) then some (.nx ((ρ2.map thin).set i (some (.val (.list (ds.set k (.list (xs ++ [d]))))))) ) else none
              | _ => none
            | _ => none
          | _ => none
        | none => none
      | _ => none
    | none => none
  | none => none
theorem sApp2_some {i : Nat} {tx te : TD} {ρ : Rho} {o : Out} (h : sApp2 i tx te ρ = some o) : ∃ j ρ1 ds1 k d ρ2 ds xs, tx ρ = some (.v (.int j), ρ1) ∧ ρ1[i]? = some (some (.val (.list ds1))) ∧ ixN ds1.length j = some k ∧ te ρ1 = some (.v d, ρ2) ∧ ρ2[i]? = some (some (.val (.list ds))) ∧ ds[k]? = some (.list xs) ∧
    flat d = true ∧ ds.all flatL = true ∧ pinsFlat ρ2 = true ∧ xs.length < 1000000 ∧ o = .nx ((ρ2.map thin).set i (some (.val (.list (ds.set k (.list (xs ++ [d]))))))) := by
  unfold sApp2 at h
  split at h
  · rename_i r1 ρ1 e1
    split at h
    · rename_i j ej
      obtain rfl := asI_some ej
      split at h
      · rename_i ds1 e2
        split at h
        · rename_i k ek
          split at h
          · rename_i d ρ2 e3
            split at h
            · rename_i ds e4
              split at h
              · rename_i xs e5
                split at h
                · rename_i hc
                  cases h
                  simp only [Bool.and_eq_true, decide_eq_true_eq] at hc
                  exact ⟨j, ρ1, ds1, k, d, ρ2, ds, xs, e1, e2, ek, e3, e4, e5, hc.1.1.1, hc.1.1.2, hc.1.2, hc.2, rfl⟩
                · cases h
              · cases h
            · cases h
          · cases h
        · cases h
      · cases h
    · cases h
  · cases h
theorem ixN_lt {n : Nat} {j : Int} {k : Nat} (h : ixN n j = some k) : k < n := (ixN_seq h).2.1
section
variable {X : Cx} {pos : Pos} {is : List Nat}
theorem dx_app2 {o ix e : Expr} {i : Nat} {tx te : TD} {ipos apos cpos : Pos} (ho : PE X o (tVar i)) (hx : DE X ix tx) (hpl : PlainIx ix) (he : DE X e te)
    (hpe : ∀ {r : V → List V → Hp → VK → Prop} {to : TE} {ta : TA}, MtM X "list.append" r → PE X (.Subscript o ix ipos) to → PA X [e] ta → PE X (.Call (.Attribute (.Subscript o ix ipos) "append" apos) [e] [] cpos) (tBM X.K "list" r to ta))
    (hs : starEach [e] X.env = (false, eval e X.env) :: starEach [] X.env) (hsw : swapsWith (.Call (.Attribute (.Subscript o ix ipos) "append" apos) [e] [] cpos) none pos.line X.env = pure false) (hii : i ∈ is) :
    DX X is true (.Expr (.Call (.Attribute (.Subscript o ix ipos) "append" apos) [e] [] cpos) pos) (sApp2 i tx te) := fun dz hd => ⟨fun pins s σ H D I q => (ps_expr (hpe mt_append (pe_ix ix_list ho hx hpl) (pa_cons he pa_nil hs)) hsw).run pins s σ H D I (by
  obtain ⟨B, ρ, ot, hl, er, dp, e, p⟩ := q
  obtain ⟨j, ρ1, ds1, k, d, ρ2, ds, xs, e1, e2, ek, e3, e4, e5, hfd, hfl, hpf, hlen, rfl⟩ := sApp2_some e
  obtain ⟨⟨i', a, bs⟩, hm, hi'⟩ : ∃ e ∈ dz, e.1 = i := by
    rw [← hd] at hii
    obtain ⟨x, hx1, hx2⟩ := List.mem_map.mp hii
    exact ⟨x, hx1, hx2⟩
  simp only at hi'
  subst hi'
  obtain ⟨ht1, ht2, ht3, ht4, ht5⟩ := dp.top _ hm
  simp only at ht1 ht2 ht3 ht4 ht5
  refine ⟨.ref a, ht1, B, ρ, _, ρ1, hl, er, e1, fun y H1 lk st rr => ?_⟩
  have hl1 := lk.len.trans hl
  have dp1 : DpOk H1 B ρ1 σ dz := dp.step st (fun _ _ => rfl)
  have h01 : ∀ c vs, (c = a ∨ c ∈ bs) → H1 c = some (.lst vs) → H c = some (.lst vs) := fun c vs hc h => by
    rcases hc with hc | hc
    · subst hc
      have := st.keep _ _ ht2 ht4
      rw [this] at h; rw [ht2]; exact h
    · obtain ⟨⟨ws, g1⟩, g2, g3⟩ := dp.inn c ⟨_, hm, hc⟩
      have := st.keep _ _ g1 g3
      rw [this] at h; rw [g1]; exact h
  obtain ⟨len1, _⟩ := deep_get I rr.er.left dp1 hm e2 h01
  have hkb : k < bs.length := by rw [← len1]; exact ixN_lt ek
  obtain ⟨b, hb⟩ : ∃ b, bs[k]? = some b := ⟨_, List.getElem?_eq_getElem hkb⟩
  have hbD : inD dz b := ⟨_, hm, List.mem_of_getElem? hb⟩
  obtain ⟨_, hA1, _, _, _⟩ := dp1.top _ hm
  simp only at hA1
  refine ⟨a, bs.map .ref, j, .ref b, rfl, rr.int, .inl (.inl hA1), ?_, ?_⟩
  · unfold atI
    rw [List.length_map, ← len1, ek]
    simp [hb]
  obtain ⟨⟨us1, hb1⟩, _, _⟩ := dp1.inn b hbD
  refine ⟨.inl ⟨rfl, us1, .inl (.inl hb1)⟩, B, ρ1, _, ρ2, hl1, rr.er.left, e3, fun v H2 lk2 st2 rr2 => ?_⟩
  have hl2 := lk2.len.trans hl1
  have dp2 : DpOk H2 B ρ2 σ dz := dp1.step st2 (fun _ _ => rfl)
  have h02 : ∀ c vs, (c = a ∨ c ∈ bs) → H2 c = some (.lst vs) → H c = some (.lst vs) := fun c vs hc h => by
    refine h01 c vs hc ?_
    rcases hc with hc | hc
    · subst hc
      obtain ⟨_, g2, _, g4, _⟩ := dp1.top _ hm
      have := st2.keep _ _ g2 g4
      simp only at this g2
      rw [this] at h; rw [g2]; exact h
    · obtain ⟨⟨ws, g1⟩, g2, g3⟩ := dp1.inn c ⟨_, hm, hc⟩
      have := st2.keep _ _ g1 g3
      rw [this] at h; rw [g1]; exact h
  obtain ⟨len2, get2⟩ := deep_get I rr2.er.left dp2 hm e4 h02
  obtain ⟨b', us, hb', hus, rus⟩ := get2 k xs e5
  rw [hb] at hb'; cases hb'
  obtain ⟨w, ew, rv⟩ := rr2.er.val d _ (List.mem_append_right _ List.mem_cons_self)
  cases ew
  refine ⟨b, us, v, rfl, rfl, hus, by rw [rus.len]; exact Nat.lt_of_lt_of_le hlen (by decide), ?_⟩
  have hH : ∀ c o, H2 c = some o → (∀ xs, o ≠ .lst xs) → (upd H2 b (.lst (us ++ [v]))) c = some o := fun c o e n => by
    rw [upd_ne]
    · exact e
    · intro z; subst z; rw [hus] at e; cases e; exact n _ rfl
  have hfx : flats xs = true := by
    have := List.all_eq_true.mp hfl _ (List.mem_of_getElem? e5)
    simpa [flatL] using this
  have hfx' : flats (xs ++ [d]) = true := by rw [flats_app, hfx]; simp [flats, hfd]
  obtain ⟨q1, q2, q3, q4⟩ := deep_set (K := X.K) (A := AO B (Z ρ2 σ)) (us' := us ++ [v]) (xs' := xs ++ [d]) hl2 rr2.er.left dp2 hm hb e4 hfl hpf len2 e5 hus ((rus.flat hfx hH).app (.cons (rv.flat hfd hH) .nil)) hfx' (fun j ys c h1 h2 => by
    obtain ⟨c', vs, g1, g2, g3⟩ := get2 j ys h1
    rw [h2] at g1; cases g1
    exact ⟨vs, g2, g3⟩)
  exact p σ _ (((lk.trans lk2).trans q4).s σ) ((st.trans st2).w.trans q3) q1 fun _ => q2)⟩
end
/-! ### a list of new lists -/
def loopN (vs : List Nat) (tgt : TGD) (elt : TD) : List D → Rho → List D → Option (List D × Rho)
  | [], ρ, acc => some (acc, ρ)
  | d :: ds, ρ, acc => match tgt (.v d) ρ with
    | some ρ1 => match elt ρ1 with
      | some (.o xs, ρ3) => if acc.length < 1000000 && flats xs then loopN vs tgt elt ds (wipeR ρ3 vs) (acc ++ [.list xs]) else none
      | _ => none
    | none => none
def sNew (vs : List Nat) (src : TSr) (tgt : TGD) (elt : TD) (i : Nat) : TSD := fun ρ => match src ρ with
  | some (its, ρ1) => if noPins ρ1 vs then match loopN vs tgt elt its (wipeR ρ1 vs) [] with
      | some (ys, ρ2) => if isPin ρ2[i]? || !decide (i < ρ2.length) then none else some (.nx (ρ2.set i (some (.val (.list ys)))))
      | none => none
    else none
  | none => none
theorem sNew_some {vs : List Nat} {src : TSr} {tgt : TGD} {elt : TD} {i : Nat} {ρ : Rho} {o : Out} (h : sNew vs src tgt elt i ρ = some o) : ∃ its ρ1 ys ρ2, src ρ = some (its, ρ1) ∧ noPins ρ1 vs = true ∧ loopN vs tgt elt its (wipeR ρ1 vs) [] = some (ys, ρ2) ∧ isPin ρ2[i]? = false ∧ i < ρ2.length ∧ o = .nx (ρ2.set i (some (.val (.list ys)))) := by
  unfold sNew at h
  split at h
  · rename_i its ρ1 e1
    split at h
    · rename_i hp
      split at h
      · rename_i ys ρ2 e2
        split at h
        · cases h
        · rename_i hq
          cases h
          simp only [Bool.not_eq_true, Bool.or_eq_false_iff, Bool.not_eq_false', decide_eq_true_eq] at hq
          exact ⟨its, ρ1, ys, ρ2, e1, hp, e2, hq.1, hq.2, rfl⟩
      · cases h
    · cases h
  · cases h
/-- the list under way: at Dd, lists bs, all new since H1 -/
structure NewOk (K : PySem.W.Frag) (H1 : Hp) (B : Addr → Prop) (E : Ent) (H : Hp) (Dd : Addr) (acc : List D) (bs : List Addr) : Prop where
  top : H Dd = some (.lst (bs.map .ref))
  len : acc.length = bs.length
  inn : ∀ (k : Nat) b, bs[k]? = some b → H1 b = none ∧ b ≠ Dd ∧ ¬ Own E b ∧ ∃ xs us, acc[k]? = some (.list xs) ∧ flats xs = true ∧ H b = some (.lst us) ∧ RepA K H B xs us
  one : ∀ (k k' : Nat) b, bs[k]? = some b → bs[k']? = some b → k = k'
section
variable {K : PySem.W.Frag} {H H' : Hp} {B : Addr → Prop} {E : Ent}
/-- a barred list is changed -/
theorem er_barred {Dd : Addr} {us : List V} {o : HO} (er : ER K H B E) (hb : B Dd) (hl : H Dd = some (.lst us)) : ER K (upd H Dd o) B E := by
  have hH : ∀ b o', H b = some o' → ¬ (b = Dd) → (upd H Dd o) b = some o' := fun b o' e n => by rw [upd_ne n]; exact e
  have hW : ∀ b, b = Dd → AO B E b ∧ ∃ xs, H b = some (.lst xs) := fun b e => by subst e; exact ⟨.inl hb, us, hl⟩
  refine ⟨fun d v m => ?_, fun p xs v m => ?_, er.nd, fun b z => ?_⟩
  · obtain ⟨u, e, r⟩ := er.val d v m
    exact ⟨u, e, r.stp hH hW fun _ _ z => z⟩
  · obtain ⟨a, vs, e, h1, r, nb⟩ := er.own p xs v m
    refine ⟨a, vs, e, hH _ _ h1 fun z => ?_, r.stp hH hW fun _ _ z => z, nb⟩
    subst z; exact nb hb
  · by_cases h : b = Dd
    · subst h; rw [upd_same]; simp
    · rw [upd_ne h]; exact er.trk b z
end
theorem new_read {X : Cx} {vs js : List Nat} {src : TSr} {tgt : TGD} {elt : TD} {i : Nat} {dz : Dz} {w : Bool} {kp : Prop} {b : TSD} {is : List Nat} {D : Ends} {σ : St} {H : Hp} (hjs : ∀ j ∈ js, j ∈ vs) (hd : dz.map (·.1) = is) (hii : i ∉ is)
    (q : rdX X.K dz w kp (sSeq2 (sNew vs src tgt elt i) b) D σ H) :
    tLc (rdI X.K src) (rdG X.K js tgt) (rdT X.K bYes) (rd X.K elt) vs σ H fun v H1 => gName i v σ H1 fun σ' H' => ∃ dz' : Dz, dz'.map (·.1) = i :: is ∧ rdX X.K dz' w kp b D σ' H' := by
  obtain ⟨B, ρ, o, hl, er, dp, e, p⟩ := q
  unfold sSeq2 at e
  split at e
  case h_2 ρ1 e1 => obtain ⟨_, _, _, _, _, _, _, _, _, z⟩ := sNew_some e1; cases z
  case h_3 ρ1 e1 => obtain ⟨_, _, _, _, _, _, _, _, _, z⟩ := sNew_some e1; cases z
  case h_4 ρ1 e1 => obtain ⟨_, _, _, _, _, _, _, _, _, z⟩ := sNew_some e1; cases z
  case h_5 e1 => cases e
  rename_i ρx ex
  obtain ⟨its, ρ1, ys, ρ2, e1, hp, e2, hpin, hi2, hx⟩ := sNew_some ex
  cases hx
  refine ⟨B, ρ, its, ρ1, hl, er, e1, fun J H1 lk st er1 sok => ?_⟩
  intro Dd hD
  obtain ⟨Y, wk, hY⟩ := sok
  have hl1 : ρ1.length = σ.length := lk.len.trans hl
  have hlw : (wipeR ρ1 vs).length = (wipe σ vs).length := by rw [wipeR_len, wipe_length, hl1]
  obtain ⟨erw, oww⟩ := wipe_er (vs := vs) (T := []) hl1 (by simpa using er1)
  simp only [List.append_nil] at erw oww
  have stw : Stp (Z ρ1 σ) H1 (Z (wipeR ρ1 vs) (wipe σ vs)) H1 := stp_own oww
  let BD : Addr → Prop := fun c => B c ∨ c = Dd
  have hDO : ¬ Own (Z (wipeR ρ1 vs) (wipe σ vs)) Dd := fun z => by
    obtain ⟨_, q⟩ := erw.lst z
    rw [hD] at q; cases q
  -- the invariant
  let Pv : Nat → Hp → Prop := fun k Hk => ∃ ρk acc bs, ρk.length = (wipe σ vs).length ∧ (∀ j s, j ∈ vs → ρk[j]? ≠ some (some s)) ∧ Lk (wipeR ρ1 vs) ρk ∧ Stp (Z (wipeR ρ1 vs) (wipe σ vs)) H1 (Z ρk (wipe σ vs)) Hk ∧
    ER X.K Hk BD (Z ρk (wipe σ vs)) ∧ NewOk X.K H1 (AO BD (Z ρk (wipe σ vs))) (Z ρk (wipe σ vs)) Hk Dd acc bs ∧ loopN vs tgt elt (its.drop k) ρk acc = some (ys, ρ2)
  refine lc_it wk Pv ?_ (fun k Hk _ hP c o hb nb => ?_) (fun k x Hk Hk' hk hP hy => ?_) (fun Hn hP => ?_)
  · -- the start
    have stU : Stp (Z (wipeR ρ1 vs) (wipe σ vs)) H1 (Z (wipeR ρ1 vs) (wipe σ vs)) (upd H1 Dd (.lst [])) := .same (upd_same_of hD)
    have erU := er_same erw (upd_same_of (o := .lst []) hD)
    refine ⟨wipeR ρ1 vs, [], [], hlw, fun j s hj => wipeR_in ρ1 hj, .refl _, stU, ?_, ⟨upd_same, rfl, fun k b z => by simp at z, fun k k' b z => by simp at z⟩, e2⟩
    have hnr : ∀ c, H1 c ≠ none → AO BD (Z (wipeR ρ1 vs) (wipe σ vs)) c → AO B (Z (wipeR ρ1 vs) (wipe σ vs)) c := fun c t z => by
      rcases z with (z | z) | z
      · exact .inl z
      · subst z; exact absurd hD t
      · exact .inr z
    refine ⟨fun d v m => ?_, fun pp xs v m => ?_, erw.nd, fun c z => ?_⟩
    · obtain ⟨u, e, r⟩ := erw.val d v m
      exact ⟨u, e, r.same (upd_same_of hD) hnr⟩
    · obtain ⟨a, us, e, h1, r, nb⟩ := erw.own pp xs v m
      have hne : a ≠ Dd := fun z => by subst z; rw [hD] at h1; cases h1
      exact ⟨a, us, e, by rw [upd_ne hne]; exact h1, r.same (upd_same_of hD) hnr, fun z => z.elim nb hne⟩
    · rcases z with z | z
      · exact erU.trk c z
      · subst z; rw [upd_same]; simp
  · obtain ⟨ρk, acc, bs, _, _, _, sti, _⟩ := hP
    exact sti.keep c o hb fun z => nb (oww c z)
  · obtain ⟨ρk, acc, bs, hlk, hwk, lkk, stk, erk, nw, ek⟩ := hP
    have hstay : Stay ρ1 σ H1 Hk := fun c o hb nb => stk.keep c o hb fun z => nb (oww c z)
    obtain ⟨sm, d, hd2, hrep⟩ := hY k Hk x Hk' hk hstay hy
    have hdrop : its.drop k = d :: its.drop (k + 1) := by
      have := List.drop_eq_getElem_cons hk
      rw [this]
      congr 1
      have h2 := List.getElem?_eq_getElem hk
      rw [hd2] at h2
      exact (Option.some.inj h2).symm
    rw [hdrop] at ek
    unfold loopN at ek
    split at ek
    case h_2 => cases ek
    rename_i ρa ea
    split at ek
    case h_2 => cases ek
    rename_i xs ρc ec
    split at ek
    case isFalse => cases ek
    rename_i hcc
    simp only [Bool.and_eq_true, decide_eq_true_eq] at hcc
    obtain ⟨hacc, hfx⟩ := hcc
    have erk' := er_same erk sm
    have hmA : ∀ c, H1 c ≠ none → AO BD (Z ρk (wipe σ vs)) c → AO B (Z ρ1 σ) c := fun c t z => by
      rcases z with (z | z) | z
      · exact .inl z
      · subst z; exact absurd hD t
      · exact .inr (oww c (stk.own c t z))
    have erT := (erk'.dup (hrep _ hmA)).perm (List.perm_append_comm (l₁ := [(some (Slot.val d), some x)]))
    refine ⟨BD, ρk, .v d, ρa, hlk, erT, rfl, ea, fun σ2 H2 lk2 st2 er2 off2 => ?_⟩
    have hl2 : ρa.length = σ2.length := by rw [lk2.len, hlk, lk2.slen]
    have hwe : wipe σ2 vs = wipe σ vs := wipe_eq (lk2.slen.trans (wipe_length _ _)) fun j hj => by
      rw [off2 j fun h => hj (hjs j h), wipe_off σ hj]
    refine ⟨hwe, ?_⟩
    have st2' : Stp (Z ρk (wipe σ vs)) Hk' (Z ρa σ2) H2 := ⟨fun c o q n => st2.keep c o q fun z => (own_app.mp z).elim n fun z => own_nil (own_valcons z), fun c t z => (own_app.mp (st2.own c t z)).elim id fun z => (own_nil (own_valcons z)).elim, st2.trk⟩
    refine ⟨BD, ρa, true, ρa, hl2, er2, rfl, fun H3 lk3 st3 er3 => ?_⟩
    refine iteT ?_
    refine ⟨BD, ρa, _, ρc, hl2, er3, ec, fun yv H4 lk4 st4 rr4 => ?_⟩
    obtain ⟨c, us, ec', hcs, rus, nb⟩ := rr4.er.own false xs _ (List.mem_append_right _ List.mem_cons_self)
    cases ec'
    have hc3 : H3 c = none := rr4.fr c (own_cons.mpr (.inl ⟨false, xs, rfl⟩))
    have stA : Stp (Z ρk (wipe σ vs)) Hk (Z ρc σ2) H4 := (((Stp.same sm).trans st2').trans st3).trans st4
    have hc1 : Hk c = none := by
      have := (((Stp.same sm).trans st2').trans st3 : Stp (Z ρk (wipe σ vs)) Hk (Z ρa σ2) H3)
      exact this.fr hc3
    have hcH1 : H1 c = none := stk.fr hc1
    have hDk : ¬ Own (Z ρk (wipe σ vs)) Dd := fun z => hDO (by
      exact absurd (.inr rfl : BD Dd) (erk.notB z))
    have hD4 : H4 Dd = some (.lst (bs.map .ref)) := stA.keep _ _ nw.top hDk
    have hcD : c ≠ Dd := fun z => by subst z; rw [nw.top] at hc1; cases hc1
    have hlc : ρc.length = σ2.length := lk4.len.trans hl2
    have er4 : ER X.K H4 BD (Z ρc σ2) := rr4.er.left
    have hcO : ¬ Own (Z ρc σ2) c := fun z => by
      obtain ⟨pp, zs, m⟩ := z
      exact (List.pairwise_append.mp rr4.er.nd).2.2 _ m _ List.mem_cons_self c ⟨pp, zs, rfl⟩ ⟨false, xs, rfl⟩
    refine ⟨bs.map .ref, hD4, by rw [List.length_map, ← nw.len]; exact Nat.lt_of_lt_of_le hacc (by decide), ?_⟩
    obtain ⟨g1, g2⟩ := wipe_er (vs := vs) (T := []) hlc (by simpa using er4)
    simp only [List.append_nil] at g1 g2
    rw [hwe] at g1 g2
    have erN : ER X.K (upd H4 Dd (.lst (bs.map .ref ++ [.ref c]))) BD (Z (wipeR ρc vs) (wipe σ vs)) := er_barred g1 (.inr rfl) hD4
    have stB : Stp (Z ρk (wipe σ vs)) Hk (Z (wipeR ρc vs) (wipe σ vs)) H4 := stA.trans (stp_own g2)
    refine ⟨wipeR ρc vs, acc ++ [.list xs], bs ++ [c], by rw [wipeR_len, hlc, lk2.slen], fun j s hj => wipeR_in ρc hj, ?_, ⟨fun z o hz nb => ?_, fun z t oz => stk.own z t (stB.own z (stk.trk z t) oz), fun z t => ?_⟩, erN, ⟨?_, by simp [nw.len], fun m z hz => ?_, fun m m' z h1 h2 => ?_⟩, ek⟩
    · exact lk_rewipe ((lkk.trans lk2.lk).trans lk4) fun j s hj => wipeR_in ρ1 hj
    · rw [upd_ne (fun q => by subst q; rw [hD] at hz; cases hz)]
      exact stB.keep z o (stk.keep z o hz nb) fun q => nb (stk.own z (by rw [hz]; simp) q)
    · by_cases q : z = Dd
      · subst q; rw [upd_same]; simp
      · rw [upd_ne q]; exact stB.trk z (stk.trk z t)
    · rw [upd_same, List.map_append]; rfl
    · by_cases hm : m < bs.length
      · rw [List.getElem?_append_left hm] at hz
        obtain ⟨n1, n2, n3, zs, ws, n4, n5, n6, n7⟩ := nw.inn m z hz
        have n6' : H4 z = some (.lst ws) := stA.keep _ _ n6 n3
        refine ⟨n1, n2, fun q => n3 (stB.own z (by rw [n6]; simp) q), zs, ws, by rw [List.getElem?_append_left (by rw [nw.len]; exact hm)]; exact n4, n5, by rw [upd_ne n2]; exact n6', ?_⟩
        refine n7.flat n5 fun b o hb hn => ?_
        have hnO : ¬ Own (Z ρk (wipe σ vs)) b := fun q => by
          obtain ⟨_, q⟩ := erk.lst q
          rw [hb] at q; cases q; exact hn _ rfl
        rw [upd_ne (fun q => by subst q; rw [nw.top] at hb; cases hb; exact hn _ rfl)]
        exact stA.keep _ _ hb hnO
      · have hz2 := List.getElem?_eq_some_iff.mp hz
        have hme : m = bs.length := by
          have := hz2.1
          simp at this; omega
        subst hme
        have hzc : z = c := by simpa using hz.symm
        subst hzc
        refine ⟨hcH1, hcD, fun q => hcO (g2 z q), xs, us, by rw [← nw.len]; simp, hfx, by rw [upd_ne hcD]; exact hcs, ?_⟩
        refine rus.flat hfx fun b o hb hn => ?_
        rw [upd_ne (fun q => by subst q; rw [hD4] at hb; cases hb; exact hn _ rfl)]
        exact hb
    · have cases1 : ∀ {m : Nat}, (bs ++ [c])[m]? = some z → (m < bs.length ∧ bs[m]? = some z) ∨ (m = bs.length ∧ z = c) := fun {m} h => by
        by_cases hm : m < bs.length
        · rw [List.getElem?_append_left hm] at h
          exact .inl ⟨hm, h⟩
        · have hz2 := (List.getElem?_eq_some_iff.mp h).1
          have hme : m = bs.length := by simp at hz2; omega
          subst hme
          exact .inr ⟨rfl, by simpa using h.symm⟩
      have old : ∀ {m : Nat}, bs[m]? = some z → z ≠ c := fun {m} h q => by
        obtain ⟨_, _, _, zs, ws, _, _, n6, _⟩ := nw.inn m z h
        subst q; rw [hc1] at n6; cases n6
      rcases cases1 h1 with ⟨a1, a2⟩ | ⟨a1, a2⟩ <;> rcases cases1 h2 with ⟨b1, b2⟩ | ⟨b1, b2⟩
      · exact nw.one m m' z a2 b2
      · exact absurd b2 (old a2)
      · exact absurd a2 (old b2)
      · rw [a1, b1]
  · obtain ⟨ρk, acc, bs, hlk, hwk, lkk, stk, erk, nw, ek⟩ := hP
    have : its.drop its.length = [] := List.drop_length
    rw [this] at ek
    unfold loopN at ek
    cases ek
    have hl2 : ρ2.length = σ.length := by rw [hlk, wipe_length]
    obtain ⟨g1, g2⟩ := unwipe_er (T := []) hl2 hwk (by simpa using erk)
    simp only [List.append_nil] at g1 g2
    have stE : Stp (Z ρ σ) H (Z ρ2 σ) Hn := ((st.trans stw).trans stk).trans (stp_own g2)
    have hD0 : H Dd = none := st.fr hD
    have hDk : ¬ Own (Z ρ2 (wipe σ vs)) Dd := fun z => absurd (.inr rfl : BD Dd) (erk.notB z)
    have hDσ : ¬ Own (Z ρ2 σ) Dd := fun z => hDk (g2 Dd z)
    have hDB : ¬ B Dd := fun z => er.trk Dd z hD0
    have g3 : ER X.K Hn B (Z ρ2 σ) := g1.monoB fun _ z => .inl z
    have hbN : ∀ (k : Nat) c, bs[k]? = some c → H c = none ∧ c ≠ Dd ∧ ¬ Own (Z ρ2 σ) c ∧ ¬ B c := fun k c hc => by
      obtain ⟨n1, n2, n3, _⟩ := nw.inn k c hc
      have : H c = none := st.fr n1
      exact ⟨this, n2, fun z => n3 (g2 c z), fun z => er.trk c z this⟩
    have rl : Rep X.K Hn (AO B (Z ρ2 σ)) (.list ys) (.ref Dd) := by
      unfold Rep
      refine ⟨Dd, bs.map .ref, rfl, .inl ⟨fun z => z.elim hDB hDσ, .inl nw.top⟩, repA_of (by simp [nw.len]) fun m d v h1 h2 => ?_⟩
      rw [List.getElem?_map] at h2
      obtain ⟨c, h3, h4⟩ := Option.map_eq_some_iff.mp h2
      subst h4
      obtain ⟨n1, n2, n3, zs, ws, n4, n5, n6, n7⟩ := nw.inn m c h3
      rw [n4] at h1
      cases h1
      obtain ⟨_, _, m3, m4⟩ := hbN m c h3
      unfold Rep
      exact ⟨c, ws, rfl, .inl ⟨fun z => z.elim m4 m3, .inl n6⟩, n7.flat n5 fun b o hb _ => hb⟩
    have er4 := (g3.dup rl).perm (List.perm_append_comm (l₁ := [(some (Slot.val (.list ys)), some (V.ref Dd))]))
    obtain ⟨er5, own5⟩ := put_er (T := []) hl2 hi2 er4
    rw [List.append_nil] at er5 own5
    have own6 : ∀ c, Own (Z (ρ2.set i (some (.val (.list ys)))) (σ.set i (some (.ref Dd)))) c → Own (Z ρ2 σ) c := fun c z => by
      rcases own_app.mp (own5 c z) with z | z
      · exact z
      · exact (own_nil (own_valcons z)).elim
    have stF : Stp (Z ρ σ) H (Z (ρ2.set i (some (.val (.list ys)))) (σ.set i (some (.ref Dd)))) Hn := stE.trans (stp_own own6)
    have dpO : DpOk Hn B (ρ2.set i (some (.val (.list ys)))) (σ.set i (some (.ref Dd))) dz := dp.step stF fun e he => List.getElem?_set_ne fun z => hii (by rw [← hd, z]; exact List.mem_map.mpr ⟨e, he, rfl⟩)
    have oldD : ∀ e ∈ dz, H e.2.1 ≠ none := fun e he => by
      obtain ⟨_, h2, _⟩ := dp.top e he
      rw [h2]; simp
    have oldI : ∀ c, inD dz c → H c ≠ none := fun c hc => by
      obtain ⟨⟨us, h2⟩, _⟩ := dp.inn c hc
      rw [h2]; simp
    have newI : ∀ c ∈ bs, H c = none ∧ c ≠ Dd ∧ ¬ Own (Z ρ2 σ) c ∧ ¬ B c ∧ ∃ us, Hn c = some (.lst us) := fun c hc => by
      obtain ⟨k, hk⟩ := List.mem_iff_getElem?.mp hc
      obtain ⟨m1, m2, m3, m4⟩ := hbN k c hk
      obtain ⟨_, _, _, zs, ws, _, _, n6, _⟩ := nw.inn k c hk
      exact ⟨m1, m2, m3, m4, ws, n6⟩
    have inC : ∀ c, inD ((i, Dd, bs) :: dz) c → c ∈ bs ∨ inD dz c := fun c ⟨e, he, hc⟩ => by
      rcases List.mem_cons.mp he with he | he
      · subst he; exact .inl hc
      · exact .inr ⟨e, he, hc⟩
    have lkE : Lk ρ ρ2 := (lk.trans (lk_wipe hp)).trans lkk
    refine ⟨(i, Dd, bs) :: dz, by simp [hd], B, ρ2.set i (some (.val (.list ys))), o, by simp [hl2], er5, ⟨fun e he => ?_, fun c hc => ?_, fun e he e' he' m m' c h1 h2 => ?_⟩, e, ?_⟩
    · rcases List.mem_cons.mp he with he | he
      · subst he
        refine ⟨by rw [List.getElem?_set_self (by omega)], nw.top, hDB, fun z => hDσ (own6 _ z), fun z => ?_⟩
        rcases inC _ z with z | z
        · exact (newI _ z).2.1 rfl
        · exact oldI _ z hD0
      · obtain ⟨q1, q2, q3, q4, q5⟩ := dpO.top e he
        refine ⟨q1, q2, q3, q4, fun z => ?_⟩
        rcases inC _ z with z | z
        · exact oldD e he (newI _ z).1
        · exact q5 z
    · rcases inC _ hc with hc | hc
      · obtain ⟨m1, m2, m3, m4, m5⟩ := newI c hc
        exact ⟨m5, m4, fun z => m3 (own6 _ z)⟩
      · exact dpO.inn c hc
    · rcases List.mem_cons.mp he with he | he <;> rcases List.mem_cons.mp he' with he' | he'
      · subst he he'
        exact ⟨rfl, nw.one m m' c h1 h2⟩
      · subst he
        exact absurd (newI c (List.mem_of_getElem? h1)).1 (oldI c ⟨e', he', List.mem_of_getElem? h2⟩)
      · subst he'
        exact absurd (newI c (List.mem_of_getElem? h2)).1 (oldI c ⟨e, he, List.mem_of_getElem? h1⟩)
      · exact dpO.one e he e' he' m m' c h1 h2
    · -- the rest's ends
      have lkS : LkS ρ (ρ2.set i (some (.val (.list ys)))) σ (σ.set i (some (.ref Dd))) := (lkE.s σ).trans (lks_put hpin)
      have cut : ∀ {ρ' : Rho} {σ' : St} {H' : Hp}, StpW (Wd ((i, Dd, bs) :: dz) w) (Z (ρ2.set i (some (.val (.list ys)))) (σ.set i (some (.ref Dd)))) Hn (Z ρ' σ') H' → StpW (Wd dz w) (Z ρ σ) H (Z ρ' σ') H' := fun s =>
        ⟨fun c o hc n1 n2 => s.keep c o (stF.keep c o hc n1) (fun z => n1 (stF.own c (by rw [hc]; simp) z)) fun z => by
            rcases inC c z.2 with q | q
            · rw [(newI c q).1] at hc; cases hc
            · exact n2 ⟨z.1, q⟩, fun c t z => stF.own c t (s.own c (stF.trk c t) z), fun c t => s.trk c (stF.trk c t)⟩
      have dcut : ∀ {ρ' : Rho} {σ' : St} {H' : Hp}, DpOk H' B ρ' σ' ((i, Dd, bs) :: dz) → DpOk H' B ρ' σ' dz := fun q => by
        have hin : ∀ c, inD dz c → inD ((i, Dd, bs) :: dz) c := fun c ⟨e, he, hc⟩ => ⟨e, List.mem_cons_of_mem _ he, hc⟩
        refine ⟨fun e he => ?_, fun c hc => q.inn c (hin c hc), fun e he e' he' => q.one e (List.mem_cons_of_mem _ he) e' (List.mem_cons_of_mem _ he')⟩
        obtain ⟨q1, q2, q3, q4, q5⟩ := q.top e (List.mem_cons_of_mem _ he)
        exact ⟨q1, q2, q3, q4, fun z => q5 (hin _ z)⟩
      cases o with
      | nx ρ' => exact fun σ' H' lk2 st2 er2 dp2 => p σ' H' (lkS.trans lk2) (cut st2) er2 fun k => dcut (dp2 k)
      | bk ρ' => exact fun σ' H' lk2 st2 er2 dp2 => p σ' H' (lkS.trans lk2) (cut st2) er2 fun k => dcut (dp2 k)
      | ct ρ' => exact fun σ' H' lk2 st2 er2 dp2 => p σ' H' (lkS.trans lk2) (cut st2) er2 fun k => dcut (dp2 k)
      | rt r ρ' => exact fun v σ' H' hl' lk2 st2 rr => p v σ' H' hl' (lkS.trans lk2) (cut st2) (rr.from fun a h => stF.fr h)
section
variable {X : Cx} {pos : Pos} {is : List Nat} {w : Bool} {kp : Prop}
theorem dxs_new {i : Nat} {y : Str} {py spos : Pos} {elt tg iter : Expr} {scope : Scope} {own : List (Str × Nat)} {js : List Nat} {src : TSr} {tgt : TGD} {te : TD} {ss : List Stmt} {b : TSD} (hc : X.calm = true) (hN : X.N.Nodup) (hy : X.N[i]? = some y) (hyl : X.env.scope.names.lookup y = some .local)
    (hsw : swapsWith (.ListComp elt [⟨tg, iter, [], 0⟩] scope pos) (some (.Name y py)) spos.line X.env = pure true) (hi : DI X tg iter src) (ok : BlkOk X.N X.env.scope scope own)
    (hg : ∀ (s : Shared) (H : Hp) (C : Addr) (cl : List (Str × Addr)) (fp : List Addr), DG (X.blk s H scope (compEnvC scope cl C X.env) fp) tg js tgt)
    (he : ∀ (s : Shared) (H : Hp) (C : Addr) (cl : List (Str × Addr)) (fp : List Addr), DE (X.blk s H scope (compEnvC scope cl C X.env) fp) elt te)
    (hs : ∀ x, foldedSetIterable iter X.env x = pure x) (hjs : ∀ j ∈ js, j ∈ own.map (·.2)) (hii : i ∉ is) (hr : DXs X (i :: is) w kp ss b) :
    DXs X is w kp (.Assign [.Name y py] (.ListComp elt [⟨tg, iter, [], 0⟩] scope pos) spos :: ss) (sSeq2 (sNew (own.map (·.2)) src tgt te i) b) := fun dz hd =>
  pss_weak (pss_cons (ps_setLc (g := rdG X.K js tgt) (tt := rdT X.K bYes) (te := rd X.K te) hc hN hy hyl hsw hi ok (fun s H C cl fp => hg s H C cl fp) (fun _ _ _ _ _ => pts_yes) (fun s H C cl fp => he s H C cl fp) hs)
    (u := fun D σ H => ∃ dz' : Dz, dz'.map (·.1) = i :: is ∧ rdX X.K dz' w kp b D σ H) ⟨fun pins s σ H D I ⟨dz', h, q⟩ => (hr dz' h).run pins s σ H D I q⟩) fun D σ H q => new_read hjs hd hii q
end
end Dn

set_option Elab.async false
set_option linter.all false
set_option maxRecDepth 100000
set_option maxHeartbeats 2000000
namespace Dn
open PySem PySem.Spec PyProof.Rows L2
/-! ### is True, len(set(..)) -/
def pIsB : List D → Option R
  | [.bool a, .bool b] => some (.v (.bool (a == b)))
  | _ => none
def pIsNotB : List D → Option R
  | [.bool a, .bool b] => some (.v (.bool (a != b)))
  | _ => none
section
variable {X : Cx}
theorem o_isB : OpR X (compareOp .Is) (r2 X.K pIsB) := by
  refine opR2 fun pins s σ H v u Q A d e x y r I rx ry hA h1 h2 er k => ?_
  unfold pIsB at er
  split at er
  · rename_i a b z; cases z; cases er
    have e1 := h1.bl
    have e2 := h2.bl
    subst e1 e2
    cases rx
    cases ry
    exact is_bool ⟨.bl _, H, I, rfl, k _ H (.refl _) rn_bl⟩
  · cases er
theorem o_isnotB : OpR X (compareOp .IsNot) (r2 X.K pIsNotB) := by
  refine opR2 fun pins s σ H v u Q A d e x y r I rx ry hA h1 h2 er k => ?_
  unfold pIsNotB at er
  split at er
  · rename_i a b z; cases z; cases er
    have e1 := h1.bl
    have e2 := h2.bl
    subst e1 e2
    cases rx
    cases ry
    exact isnot_bool ⟨.bl _, H, I, rfl, k _ H (.refl _) rn_bl⟩
  · cases er
end
def asInts : List D → Option (List Int)
  | [] => some []
  | .int i :: ds => match asInts ds with
    | some ns => some (i :: ns)
    | none => none
  | _ => none
theorem asInts_some : ∀ {ds : List D} {ns : List Int}, asInts ds = some ns → ds = ns.map .int
  | [], ns, h => by simp only [asInts] at h; cases h; rfl
  | d :: ds, ns, h => by
    cases d with
    | int i =>
      simp only [asInts] at h
      split at h
      · rename_i ms e
        cases h
        rw [asInts_some e]; rfl
      · cases h
    | _ => simp [asInts] at h
theorem asInts_of : ∀ (ns : List Int), asInts (ns.map PyData.int) = some ns
  | [] => rfl
  | n :: ns => by simp [asInts, asInts_of ns]
/-- the distinct ones -/
def uniq (ns : List Int) : List Int := firstMet (fun i => ns.getD i 0) ns.length
def pLenSet : List D → Option R
  | [.list ds] => match asInts ds with
    | some ns => if ns.length ≤ 1000 then some (.v (.int ((uniq ns).length : Nat))) else none
    | none => none
  | _ => none
def tLenS (K : PySem.W.Frag) (ta : TE) : TE := fun σ H Q => ta σ H fun x H1 => ∃ (l : Addr) (ns : List Int), x = .ref l ∧ SqL K H1 l (ns.map V.int) ∧ ns.length ≤ 1000 ∧ Q (.int ((uniq ns).length : Nat)) H1
theorem pe_lenS {X : Cx} {a : Expr} {ta : TE} {p p2 q pos : Pos} (hg : Gl X "len") (hm : X.mg "len" = none) (hg2 : Gl X "set") (hm2 : X.mg "set" = none) (ha : PE X a ta) (hc : X.calm = true)
    (na : starEach [a] X.env = (false, eval a X.env) :: starEach [] X.env) : PE X (.Call (.Name "len" p) [.Call (.Name "set" p2) [a] [] q] [] pos) (tLenS X.K ta) := by
  refine ⟨fun pins s σ H Q I h => ?_⟩
  refine Call_ (ld_blt I hg hm boot_len ?_)
  refine PyProof.Rows.callWith_builtin1 (PyProof.Rows.args_cons ?_ rfl) rfl rfl
  refine Call_ (ld_blt I hg2 hm2 boot_set ?_)
  refine PyProof.Rows.callWith_type1 (PyProof.Rows.args_cons (thn (ha.run pins s σ H _ I h) fun v s1 ⟨x, H1, I1, r1, q1⟩ => PyProof.Rows.args_nil ?_) na) na rfl
  obtain ⟨l, ns, rfl, hq, hl, q1⟩ := q1
  cases r1
  obtain ⟨its, r, pl, hz⟩ := I1.list hq
  have hlen : its.toArray.size = ns.length := by rw [List.size_toArray, ← r.length, List.length_map]
  refine call_set_list (I1.ok.hd hc) pl.isList (by simpa using RZ.intsAre_vals r) (by rw [hlen]; unfold scanBound; omega) fun h' tk hS hk => ?_
  refine PyProof.Rows.args_nil ?_
  rw [hlen] at hS
  obtain ⟨o, es, ep, t, ho, hex, hd, _, _, _, hf, hn⟩ := hS
  have hle : (firstMet (fun i => ns.getD i 0) ns.length).length ≤ ns.length := firstMet_length_le _ _
  have I2 : Inv X pins σ H1 { s1 with heap := h', toks := tk } := I1.kept fun b o e => hk b o (Heap.lt_size e) e
  exact call_len_set ho hex hd hf (by rw [hn] <;> omega) ⟨.int ((uniq ns).length : Nat), H1, I2.tok _, ⟨_, by rw [hn]; rfl⟩, q1⟩
theorem de_lenSet {X : Cx} {a : Expr} {t : TD} {p p2 q pos : Pos} (hg : Gl X "len") (hm : X.mg "len" = none) (hg2 : Gl X "set") (hm2 : X.mg "set" = none) (hc : X.calm = true) (ha : DE X a t)
    (na : starEach [a] X.env = (false, eval a X.env) :: starEach [] X.env) : DE X (.Call (.Name "len" p) [.Call (.Name "set" p2) [a] [] q] [] pos) (dOp pLenSet (dCons t dNil)) := by
  refine pe_weak (pe_lenS hg hm hg2 hm2 ha hc na) fun σ H Q z => ?_
  have q1 := one_read (op_read z)
  obtain ⟨B, ρ, r, ρ', hlen, er, e, k⟩ := q1
  refine ⟨B, ρ, r, ρ', hlen, er, e, fun v H1 lk st rr => ?_⟩
  obtain ⟨A, ds, r', hA, hv', er', k'⟩ := k v H1 lk st rr
  unfold pLenSet at er'
  split at er'
  · rename_i ds
    split at er'
    · rename_i ns en
      split at er'
      · rename_i hl
        cases er'
        obtain ⟨w, ew, h1⟩ := hv'.of1
        cases ew
        have := asInts_some en
        subst this
        obtain ⟨b, xs, rfl, hb, rx⟩ := h1.lst
        have := rx.ints
        subst this
        exact ⟨b, ns, rfl, hb.sq, hl, k' _ H1 (.refl _) rn_int⟩
      · cases er'
    · cases er'
  · cases er'
end Dn

set_option Elab.async false
set_option linter.all false
set_option maxRecDepth 100000
set_option maxHeartbeats 2000000
namespace Dn
open PySem PySem.Spec PyProof.Rows L2

/-! ### zip of lists and tuples in any mix (true: a tuple) -/
def SqM (K : PySem.W.Frag) (H : Hp) : Bool → Addr → List V → Prop
  | true, a, xs => SqT K H a xs
  | false, a, xs => SqL K H a xs
def IsM (h : Heap) : Bool → Addr → Array Value → Prop
  | true, a, xs => h.IsTuple a xs
  | false, a, xs => h.IsList a xs
def ItM (h : Heap) : Bool → Addr → Addr → Nat → Prop
  | true, i, a, n => h.IsTupleIter i a n
  | false, i, a, n => h.IsListIter i a n
def obM : Bool → Addr → Obj
  | true, a => { cls := .type "tuple_iterator", data := .fields #[.ref a, .int 0 0] }
  | false, a => { cls := .type "list_iterator", data := .fields #[.ref a, .int 0 0] }
theorem beginsM (t : Bool) (a : Addr) (xs : Array Value) : Begins (.ref a) (obM t a) (fun h => IsM h t a xs) := by
  cases t
  · exact begins_list a xs
  · exact begins_tuple a xs
theorem itM_new {t : Bool} {h : Heap} {i a : Addr} (e : h.get? i = some (obM t a)) : ItM h t i a 0 := by
  cases t
  · exact ⟨_, e, rfl, rfl⟩
  · exact ⟨_, e, rfl, rfl⟩
theorem ItM.at {t : Bool} {h h' : Heap} {i a : Addr} {n : Nat} (x : ItM h t i a n) (k : ∀ o, h.get? i = some o → h'.get? i = some o) : ItM h' t i a n := by
  cases t
  · exact Heap.IsListIter.at x k
  · exact Heap.IsTupleIter.at x k
theorem IsM.at {t : Bool} {h h' : Heap} {a : Addr} {xs : Array Value} (x : IsM h t a xs) (k : ∀ o, h.get? a = some o → h'.get? a = some o) : IsM h' t a xs := by
  cases t
  · exact Heap.IsList.at x k
  · exact Heap.IsTuple.at x k
theorem ItM.obj {t : Bool} {h : Heap} {i a : Addr} {n : Nat} (x : ItM h t i a n) : ∃ o, h.get? i = some o ∧ ∀ v, o.data ≠ .cell v := by
  cases t
  · obtain ⟨o, e, _, d⟩ := x
    exact ⟨o, e, fun v q => by rw [d] at q; cases q⟩
  · obtain ⟨o, e, _, d⟩ := x
    exact ⟨o, e, fun v q => by rw [d] at q; cases q⟩
theorem IsM.lt {t : Bool} {h : Heap} {a : Addr} {xs : Array Value} (x : IsM h t a xs) : a < h.objs.size := by
  cases t
  · obtain ⟨o, e, _⟩ := x; exact Heap.lt_size e
  · obtain ⟨o, e, _⟩ := x; exact Heap.lt_size e
section
variable {X : Cx} {pins : List (Addr × Obj)} {σ : St} {H : Hp} {s : Shared} {t : Bool} {a i : Addr} {xs ys : List V}
theorem seqM (I : Inv X pins σ H s) (h : SqM X.K H t a xs) : ∃ its : List Value, Vals xs its ∧ IsM s.heap t a its.toArray := by
  cases t
  · obtain ⟨its, r, p, _⟩ := I.list h
    exact ⟨its, r, p.isList⟩
  · obtain ⟨its, r, p, _⟩ := I.tuple h
    exact ⟨its, r, p⟩
theorem seqM_inj (I : Inv X pins σ H s) (h : SqM X.K H t a xs) (h2 : SqM X.K H t a ys) : xs = ys := by
  cases t
  · exact I.list_inj h h2
  · exact I.tuple_inj h h2
theorem drawsM {prog : Program} {w : World} {A : Around} (hh : A.handled = none) (t : Bool) (i a : Addr) (ne : a ≠ i) (its : Array Value) :
    Draws prog w A i [i, a] its.size (fun n v => its[n]? = some v) (fun n h => ItM h t i a n ∧ IsM h t a its) := by
  cases t
  · exact Draws.list hh i a ne its
  · exact Draws.tuple hh i a ne its
/-- .. at turn n, its end perhaps -/
theorem drawsM_at {prog : Program} {w : World} {A : Around} (hh : A.handled = none) (t : Bool) (i a : Addr) (ne : a ≠ i) (its : Array Value) (n : Nat) {h : Heap} (h1 : ItM h t i a n) (h2 : IsM h t a its) :
    ∃ m P St, Draws prog w A i [i, a] m P St ∧ St n h ∧ n ≤ m ∧ (its.size ≤ n → m = n) := by
  by_cases hn : its.size ≤ n
  · refine ⟨n, fun _ _ => True, fun j h => j = n ∧ ItM h t i a n ∧ IsM h t a its, ?_, ⟨rfl, h1, h2⟩, Nat.le_refl _, fun _ => rfl⟩
    have none' : its[n]? = none := Array.getElem?_eq_none hn
    exact
      { live := fun j h st => by obtain ⟨_, q, _⟩ := st; obtain ⟨o, e, _⟩ := q.obj; exact ⟨o, e⟩
        frame := fun j h h' st k => ⟨st.1, st.2.1.at fun o q => k i (by simp) o q, st.2.2.at fun o q => k a (by simp) o q⟩
        item := fun j s Q E hj st _ => by have := st.1; omega
        done := fun s Q E st hE => by
          cases t
          · exact wpAny_nextOf_list_end hh st.2.1 st.2.2 none' hE
          · exact wpAny_nextOf_tuple_end hh st.2.1 st.2.2 none' hE }
  · exact ⟨its.size, _, _, drawsM hh t i a ne its, ⟨h1, h2⟩, by omega, fun z => absurd z hn⟩
end
def ItzM (K : PySem.W.Frag) (t1 t2 : Bool) (a b : Addr) : It where
  go := fun n H => ∃ (xs ys : List V) (x y : V), SqM K H t1 a xs ∧ SqM K H t2 b ys ∧ xs[n]? = some x ∧ ys[n]? = some y
  yld := fun n H v H' => ∃ T x y, v = .ref T ∧ H T = none ∧ H' = upd H T (.tup [x, y]) ∧ (∀ xs, SqM K H t1 a xs → xs[n]? = some x) ∧ ∀ ys, SqM K H t2 b ys → ys[n]? = some y
  stop := fun n H => ∃ xs ys : List V, SqM K H t1 a xs ∧ SqM K H t2 b ys ∧ (xs.length ≤ n ∨ ys.length ≤ n)
theorem sep_of {z TI TO i1 i2 l1 l2 : Addr} (D : ZipApart z TI TO i1 i2 l1 l2) : ZipSep2 z TI TO i1 i2 [i1, l1] [i2, l2] := by
  refine ⟨D.TIz, D.TOz, D.TITO, D.TIi1, by simp, ?_, ?_, D.TIi2, by simp, ?_, ?_, ?_, ?_⟩ <;> simp only [List.mem_cons, List.not_mem_nil, or_false, not_or]
  · exact ⟨D.i1z.symm, D.l1z.symm⟩
  · exact ⟨D.TOi1, D.l1TO.symm⟩
  · exact ⟨D.i2z.symm, D.l2z.symm⟩
  · exact ⟨D.TOi2, D.l2TO.symm⟩
  · exact ⟨D.i12, D.l2i1.symm⟩
  · exact ⟨D.i12.symm, D.l1i2.symm⟩
theorem mem5 {c z TI TO i1 i2 : Addr} (h : c ∈ [z, TI, TO, i1, i2]) : c = z ∨ c = TI ∨ c = TO ∨ c = i1 ∨ c = i2 := by simpa using h
theorem turn_zipM {P : Program} {w : World} {K : PySem.W.Frag} {elts : List Expr} {kk : Nat} {tpos : Pos} {t1 t2 : Bool} {a b z TI TO i1 i2 : Addr} (D : ZipApart z TI TO i1 i2 a b) :
    Turn P w K (.Tuple elts kk tpos) (ItzM K t1 t2 a b) [z, TI, TO, i1, i2] z (fun n h => (IsZip h z TI TO .none ∧ IsPair h TI (.ref i1) (.ref i2)) ∧ (∃ x y, IsPair h TO x y) ∧ ItM h t1 i1 a n ∧ ItM h t2 i2 b n) where
  mem := List.mem_cons_self
  obj := fun n h st c hc => by
    obtain ⟨⟨q1, q2⟩, ⟨x, y, q3⟩, q4, q5⟩ := st
    rcases mem5 hc with e | e | e | e | e <;> subst e
    · exact ⟨_, q1, fun v q => (nomatch q)⟩
    · exact ⟨_, q2, fun v q => (nomatch q)⟩
    · exact ⟨_, q3, fun v q => (nomatch q)⟩
    · exact q4.obj
    · exact q5.obj
  keep := fun n h h' st k => by
    obtain ⟨⟨q1, q2⟩, ⟨x, y, q3⟩, q4, q5⟩ := st
    refine ⟨⟨k _ (by simp) _ q1, k _ (by simp) _ q2⟩, ⟨x, y, k _ (by simp) _ q3⟩, q4.at ?_, q5.at ?_⟩
    · exact fun o e => k _ (by simp) o e
    · exact fun o e => k _ (by simp) o e
  item := by
    intro X hP hw hK hc n pins s σ H E I hf st hg
    subst hP hw hK
    obtain ⟨⟨q1, q2⟩, ⟨x0, y0, q3⟩, q4, q5⟩ := st
    obtain ⟨xs, ys, x, y, sx, sy, ex, ey⟩ := hg
    obtain ⟨its, rx, mx⟩ := seqM I sx
    obtain ⟨jts, ry, my⟩ := seqM I sy
    obtain ⟨u, hu, ru⟩ := rx.get ex
    obtain ⟨v, hv, rv⟩ := ry.get ey
    have lz : z < s.heap.objs.size := Heap.lt_size q1
    have ln : n < its.length := (List.getElem?_eq_some_iff.mp hu).1
    have lm : n < jts.length := (List.getElem?_eq_some_iff.mp hv).1
    have hd := I.ok.hd hc
    have d1 := drawsM (prog := X.prog) (w := X.w) (A := X.A.in1) hd t1 i1 a D.l1i1 its.toArray
    have d2 := drawsM (prog := X.prog) (w := X.w) (A := X.A.in1) hd t2 i2 b D.l2i2 jts.toArray
    refine wpAny_pyNext_zipD2_item (sep_of D) d1 d2 q1 q2 q3 ⟨q4, mx⟩ ⟨q5, my⟩ (by simpa using ln) (by simpa using lm) fun p q h1 tk ep eq z1 T1 s1 s2 T2 hsz hk => ?_
    have ep : its[n]? = some p := by simpa using ep
    have eq : jts[n]? = some q := by simpa using eq
    obtain rfl : p = u := Option.some.inj (ep.symm.trans hu)
    obtain rfl : q = v := Option.some.inj (eq.symm.trans hv)
    refine ⟨_, rfl, wpAny_letOwnedTupleGo_zip (s := { s with heap := h1, toks := tk }) z1 fun h2 z2 sb => ?_⟩
    have T3 : h2.get? s.heap.objs.size = some { cls := .type "tuple", data := .seq #[p, q] } := (sb.2 _ (Nat.ne_of_gt lz)).trans T2
    have new : ObjOk X.prog X.w (upd H s.heap.objs.size (.tup [x, y])) h2 s.heap.objs.size (.tup [x, y]) := by
      refine ⟨?_, [p, q], .cons ru (.cons rv .nil), _, T3, rfl, _, rfl⟩
      show 2 ≤ sizeLine
      decide
    have I1 : Inv X pins σ (upd H s.heap.objs.size (.tup [x, y])) { s with heap := h2, toks := tk } := by
      refine I.turnedNew (ch := [z, TI, TO, i1, i2]) (fun c o hb e => ?_) hf (Nat.le_refl _) new
      have nz : c ≠ z := fun e => hb (by simp [e])
      have nO : c ≠ TO := fun e => hb (by simp [e])
      have n1 : c ≠ i1 := fun e => hb (by simp [e])
      have n2 : c ≠ i2 := fun e => hb (by simp [e])
      exact (sb.2 c nz).trans (hk c o nz nO n1 n2 e)
    have nT : H s.heap.objs.size = none := I.hok.fresh (Nat.le_refl _)
    have up : ∀ c o, c ≠ z → h1.get? c = some o → h2.get? c = some o := fun c o nz e => (sb.2 c nz).trans e
    refine ⟨.ref s.heap.objs.size, _, I1, rfl, ⟨_, x, y, rfl, nT, rfl, fun l hl => ?_, fun l hl => ?_⟩, ⟨⟨z2, ?_⟩, ⟨p, q, up _ _ D.TOz T1⟩, s1.1.at fun o e => up _ o D.i1z e, s2.1.at fun o e => up _ o D.i2z e⟩, fun c hb => ?_⟩
    · rw [seqM_inj I hl sx]; exact ex
    · rw [seqM_inj I hl sy]; exact ey
    · exact up _ _ D.TIz (hk _ _ D.TIz D.TITO D.TIi1 D.TIi2 q2)
    · have lc : c < s.heap.objs.size := by
        rcases mem5 hb with e | e | e | e | e <;> subst e
        · exact lz
        · exact Heap.lt_size q2
        · exact Heap.lt_size q3
        · obtain ⟨o, e, _⟩ := q4.obj; exact Heap.lt_size e
        · obtain ⟨o, e, _⟩ := q5.obj; exact Heap.lt_size e
      rw [upd_ne (Nat.ne_of_lt lc)]
      exact (hf c hb).1
  done := by
    intro X hP hw hK hc n pins s σ H E I hf st hg
    subst hP hw hK
    obtain ⟨⟨q1, q2⟩, ⟨x0, y0, q3⟩, q4, q5⟩ := st
    obtain ⟨xs, ys, sx, sy, hend⟩ := hg
    obtain ⟨its, rx, mx⟩ := seqM I sx
    obtain ⟨jts, ry, my⟩ := seqM I sy
    have hd := I.ok.hd hc
    obtain ⟨m1, P1, S1, d1, e1, le1, z1⟩ := drawsM_at (prog := X.prog) (w := X.w) (A := X.A.in1) hd t1 i1 a D.l1i1 its.toArray n q4 mx
    obtain ⟨m2, P2, S2, d2, e2, le2, z2⟩ := drawsM_at (prog := X.prog) (w := X.w) (A := X.A.in1) hd t2 i2 b D.l2i2 jts.toArray n q5 my
    have l1 := rx.length
    have l2 := ry.length
    refine wpAny_pyNext_zipD2_end (sep_of D) d1 d2 q1 q2 q3 e1 e2 le1 le2 (hend.imp (fun q => (z1 (by simp; omega)).symm) fun q => (z2 (by simp; omega)).symm) fun h1 tk hk => ⟨rfl, I.turnedL (t' := tk) (ch := [z, TI, TO, i1, i2]) (fun c o hb e => ?_) hf⟩
    exact hk c o (fun e => hb (by simp [e])) (fun e => hb (by simp [e])) (fun e => hb (by simp [e])) (fun e => hb (by simp [e])) e
  self := fun A n s Q E st h => wpAny_pyIter_zip st.1.1 h
def iZipM (K : PySem.W.Frag) (ta : TA) : TI := fun σ H R => ta σ H fun vs H1 => ∃ t1 t2 a b xs ys, vs = [.ref a, .ref b] ∧ SqM K H1 t1 a xs ∧ SqM K H1 t2 b ys ∧ R (ItzM K t1 t2 a b) H1
theorem pi_zipM {X : Cx} {e e2 : Expr} {ta : TA} {p pos tpos : Pos} {elts : List Expr} {kk : Nat} (hg : Gl X "zip") (hm : X.mg "zip" = none) (ha : PA X [e, e2] ta) (hs : starEach [e, e2] X.env = (false, eval e X.env) :: starEach [e2] X.env) (hpl : (backTo pos (starEach [e2] X.env)).any (·.1) = false) :
    PI X (.Tuple elts kk tpos) (.Call (.Name "zip" p) [e, e2] [] pos) (iZipM X.K ta) := by
  refine ⟨fun pins s σ H R I h => Call_ (ld_blt I hg hm boot_zip (callWith_type1 (thn (ha.run pos pins s σ H _ I h) fun us s1 ⟨vs, H1, I1, r1, q1⟩ => ?_) hs hpl))⟩
  obtain ⟨t1, t2, a, b, xs, ys, rfl, sx, sy, q⟩ := q1
  obtain ⟨u, v, rfl, r2, r3⟩ : ∃ u v, us = [u, v] ∧ L2.RelV (.ref a) u ∧ L2.RelV (.ref b) v := by
    cases r1 with
    | cons r rr => cases rr with
      | cons r' rr => cases rr; exact ⟨_, _, rfl, r, r'⟩
  obtain rfl : u = Value.ref a := r2
  obtain rfl : v = Value.ref b := r3
  obtain ⟨its, rx, mx⟩ := seqM I1 sx
  obtain ⟨jts, ry, my⟩ := seqM I1 sy
  refine zip_begins2 (beginsM t1 a its.toArray) (beginsM t2 b jts.toArray) mx my fun h' z1 z2 z3 z4 z5 z6 hk => wpAny_pyIter_zip z1 ?_
  have D := PySem.W.ktu_apart s1.heap.objs.size a b mx.lt my.lt
  refine ⟨s1.heap.objs.size + 4, [s1.heap.objs.size + 4, s1.heap.objs.size + 2, s1.heap.objs.size + 3, s1.heap.objs.size, s1.heap.objs.size + 1], _, _, H1, rfl, I1.kept (t' := s1.toks) hk, turn_zipM D, ⟨⟨z1, z2⟩, ⟨_, _, z3⟩, itM_new z4, itM_new z5⟩, fun c hc => ?_, q⟩
  have le : s1.heap.objs.size ≤ c := by rcases mem5 hc with e | e | e | e | e <;> rw [e] <;> first | exact Nat.le_refl _ | exact Nat.le_add_right _ _
  exact I1.fpOk le (I1.hok.fresh le)
def sZipM (t u : TD) : TSr := fun ρ => match t ρ with
  | some (r, ρ1) => match u ρ1 with
    | some (r2, ρ2) => match frz [r, r2] ρ2 with
      | some ([d, e], ρ3) => match itemsOf d with
        | some as => match itemsOf e with
          | some bs => some (zipD as bs, ρ3)
          | none => none
        | none => none
      | _ => none
    | none => none
  | none => none
theorem walk_zipM {K : PySem.W.Frag} {t1 t2 : Bool} {a b : Addr} {xs ys : List V} : Walk (ItzM K t1 t2 a b) (min xs.length ys.length) (fun H => SqM K H t1 a xs ∧ SqM K H t2 b ys) (YPair (fun i => xs[i]?) (fun i => ys[i]?)) := by
  refine ⟨fun i H hi q => ?_, fun H q => ⟨xs, ys, q.1, q.2, by omega⟩, fun i H v H' _ q y => ?_⟩
  · exact ⟨xs, ys, xs[i]'(by omega), ys[i]'(by omega), q.1, q.2, by simp, by simp⟩
  · obtain ⟨T, x, z, h1, h2, h3, h4, h5⟩ := y
    exact ⟨T, x, z, h1, h2, h3, h4 xs q.1, h5 ys q.2⟩
theorem items_rep {K : PySem.W.Frag} {H : Hp} {B : Addr → Prop} {ρ : Rho} {σ : St} {d : D} {as : List D} {v : V} (er : ER K H B (Z ρ σ)) (e : itemsOf d = some as) (r : Rep K H (AO B (Z ρ σ)) d v) : ∃ t a xs, v = .ref a ∧ SqM K H t a xs ∧ RepA K H (AO B (Z ρ σ)) as xs ∧ ∀ H1, Stay ρ σ H H1 → SqM K H1 t a xs := by
  cases d with
  | list ds =>
    simp only [itemsOf] at e; cases e
    unfold Rep at r
    obtain ⟨a, xs, rfl, h1, h2⟩ := r
    exact ⟨false, a, xs, rfl, h1.lv.sq, h2, fun H1 st => stay_seqL er h1 st⟩
  | tuple ds =>
    simp only [itemsOf] at e; cases e
    unfold Rep at r
    obtain ⟨a, xs, rfl, h1, h2⟩ := r
    exact ⟨true, a, xs, rfl, h1, h2, fun H1 st => stay_seqT er h1 st⟩
  | none => simp [itemsOf] at e
  | bool _ => simp [itemsOf] at e
  | int _ => simp [itemsOf] at e
  | str _ => simp [itemsOf] at e
  | dict _ => simp [itemsOf] at e
theorem di_zipM {X : Cx} {e e2 : Expr} {t t2 : TD} {p pos tpos : Pos} {elts : List Expr} {kk : Nat} (hg : Gl X "zip") (hm : X.mg "zip" = none) (h : DE X e t) (h2 : DE X e2 t2) (hs : starEach [e, e2] X.env = (false, eval e X.env) :: starEach [e2] X.env) (hs2 : starEach [e2] X.env = (false, eval e2 X.env) :: starEach [] X.env)
    (hpl : (backTo pos (starEach [e2] X.env)).any (·.1) = false) : DI X (.Tuple elts kk tpos) (.Call (.Name "zip" p) [e, e2] [] pos) (sZipM t t2) := by
  refine pi_weak (pi_zipM hg hm (da_cons h (da_cons h2 da_nil hs2) hs) hs hpl) fun σ H R q => ?_
  obtain ⟨B, ρ, its, ρ', hl, er, e, k⟩ := q
  unfold sZipM at e
  split at e
  case h_2 => cases e
  rename_i r ρ1 e1
  split at e
  case h_2 => cases e
  rename_i r2 ρ2 e2
  have hts : dCons t (dCons t2 dNil) ρ = some ([r, r2], ρ2) := by simp [dCons, dNil, e1, e2]
  split at e
  case h_2 => cases e
  rename_i d d2 ρ3 e3
  split at e
  case h_2 => cases e
  rename_i as ea
  split at e
  case h_2 => cases e
  rename_i bs eb
  cases e
  refine ⟨B, ρ, _, ρ2, hl, er, hts, fun vs H1 lk st rr => ?_⟩
  obtain ⟨v, u, rfl⟩ : ∃ v u, vs = [v, u] := by
    have := rr.len
    match vs, this with
    | [v, u], _ => exact ⟨v, u, rfl⟩
  obtain ⟨h1, h2, h3, h4⟩ := frz_ok (lk.len.trans hl) e3 rr
  obtain ⟨q1, q2⟩ := h2.two
  obtain ⟨ta, a, xs, rfl, sa, ra, ka⟩ := items_rep h1 ea q1
  obtain ⟨tb, b, ys, rfl, sb, rb, kb⟩ := items_rep h1 eb q2
  refine ⟨ta, tb, a, b, xs, ys, rfl, sa, sb, k _ H1 (lk.trans h3) (st.trans (stp_own h4)) h1 (src_pair h1 ra rb ?_)⟩
  exact walk_zipM.mono (fun H2 st2 => ⟨ka H2 st2, kb H2 st2⟩) fun _ _ _ _ _ _ y => y
end Dn

set_option Elab.async false
set_option linter.all false
set_option maxRecDepth 100000
set_option maxHeartbeats 2000000
namespace Dn
open PySem PySem.Spec PyProof.Rows L2
/-! ### a call that only looks: its result holds no list, so what it got stays owned -/
def onlyFlat (F : List D → Option R) (ds : List D) : Option R := match F ds with
  | some (.v d) => if flat d then some (.v d) else none
  | _ => none
theorem onlyFlat_some {F : List D → Option R} {ds : List D} {r : R} (h : onlyFlat F ds = some r) : ∃ d, F ds = some (.v d) ∧ flat d = true ∧ r = .v d := by
  unfold onlyFlat at h
  split at h
  · rename_i d e
    split at h
    · rename_i hf
      cases h
      exact ⟨d, e, hf, rfl⟩
    · cases h
  · cases h
abbrev dCallL (F : List D → Option R) (ts : TDs) : TD := dOp (onlyFlat F) ts
theorem vw_free {K : PySem.W.Frag} {H : Hp} {A : Addr → Prop} {d : D} {v : V} (h : Vw K H A d v) : Rep K H (fun _ => False) d v := by
  cases d with
  | list ds =>
    unfold Vw at h
    obtain ⟨a, xs, e, hl, hx⟩ := h
    unfold Rep
    exact ⟨a, xs, e, hl.imp (fun q => ⟨id, q⟩) id, hx.mono fun _ z => z.elim⟩
  | none => exact Rep.mono (A := A) h fun _ z => z.elim
  | bool _ => exact Rep.mono (A := A) h fun _ z => z.elim
  | int _ => exact Rep.mono (A := A) h fun _ z => z.elim
  | str _ => exact Rep.mono (A := A) h fun _ z => z.elim
  | tuple _ => exact Rep.mono (A := A) h fun _ z => z.elim
  | dict _ => exact Rep.mono (A := A) h fun _ z => z.elim
theorem vwA_free {K : PySem.W.Frag} {H : Hp} {A : Addr → Prop} {ds : List D} {vs : List V} (h : VwA K H A ds vs) : RepA K H (fun _ => False) ds vs := by
  induction h with
  | nil => exact .nil
  | cons h t ih => exact .cons (vw_free h) ih
section
variable {X : Cx} {k : Nat} {x : Str} {st : Stmt} {ps : List Str} {F : List D → Option R} {p pos : Pos} {e : Expr} {es : List Expr} {ts : TDs}
theorem de_pL (C : CalP X.prog X.w X.K X.mg X.base k x st ps F) (hr : Room k X.A) (hG : X.A.guards = some []) (hg : Gl X x)
    (ha : DA X (e :: es) ts) (hdb : (x == ("__debug__" : Str)) = false) (he : starEach (e :: es) X.env = (false, eval e X.env) :: starEach es X.env) (hpl : (backTo pos (starEach es X.env)).any (·.1) = false) : DE X (.Call (.Name x p) (e :: es) [] pos) (dCallL F ts) := by
  obtain ⟨⟨f, fd, hm, FF, hb, hF⟩, hn⟩ := C
  refine pe_weak (pe_callG (E := E0) hF hr hG hg hm FF.kp hb pass0 ha hdb he hpl) fun σ H Q h => ?_
  have key : rds X.K ts σ H fun vs H1 => spP X.K ps.length F vs H1 Q E0 := by
    have := op_read h
    obtain ⟨B, ρ, rs, ρ', hl, er, e1, kk⟩ := this
    refine ⟨B, ρ, rs, ρ', hl, er, e1, fun vs H1 lk st rr => ?_⟩
    obtain ⟨A, ds, r, hA, hv, er', k'⟩ := kk vs H1 lk st rr
    obtain ⟨d, e2, hf, rfl⟩ := onlyFlat_some er'
    have hR := vwA_free hv
    exact ⟨fun _ => False, ds, .v d, by rw [hR.len]; exact hn _ _ e2, fun _ z => z.elim, hR, e2, fun w H' sm rn => k' w H' sm (Rep.flat (A := fun _ => False) rn hf fun b o q _ => q)⟩
  simpa [tCall] using key
end
end Dn

set_option Elab.async false
set_option linter.all false
set_option maxRecDepth 100000
set_option maxHeartbeats 2000000
namespace Pl
open PySem PySem.Spec PyProof.Rows L2 Dn

/-! ### sizes -/
/-- at most n binary figures -/
def Bd (n : Nat) (a : Int) : Prop := a.natAbs < 2 ^ n
theorem Bd.up {n m : Nat} {a : Int} (h : Bd n a) (l : n ≤ m) : Bd m a := Nat.lt_of_lt_of_le h (Nat.pow_le_pow_right (by decide) l)
theorem Bd.bits {n : Nat} {a : Int} (h : Bd n a) : Builtin.Int.intBits a ≤ n := by
  unfold Builtin.Int.intBits
  split
  · omega
  · rename_i e
    have e : a ≠ 0 := by simpa using e
    have := (Nat.log2_lt (n := a.natAbs) (k := n) (by omega)).mpr h
    omega
theorem Bd.of_bits {n : Nat} {a : Int} (h : Builtin.Int.intBits a ≤ n) : Bd n a := by
  unfold Builtin.Int.intBits at h
  unfold Bd
  split at h
  · rename_i e
    have e : a = 0 := by simpa using e
    subst e
    exact Nat.two_pow_pos n
  · rename_i e
    have e : a ≠ 0 := by simpa using e
    exact (Nat.log2_lt (n := a.natAbs) (k := n) (by omega)).mp (by omega)
theorem Bd.mul {n m : Nat} {a b : Int} (h : Bd n a) (k : Bd m b) : Bd (n + m) (a * b) := by
  unfold Bd at *
  rw [Int.natAbs_mul, Nat.pow_add]
  exact Nat.mul_lt_mul'' h k
theorem Bd.add {n : Nat} {a b : Int} (h : Bd n a) (k : Bd n b) : Bd (n + 1) (a + b) := by
  unfold Bd at *
  have := Int.natAbs_add_le a b
  rw [Nat.pow_succ]
  omega
theorem Bd.neg {n : Nat} {a : Int} (h : Bd n a) : Bd n (-a) := by unfold Bd at *; rw [Int.natAbs_neg]; exact h
theorem Bd.sub {n : Nat} {a b : Int} (h : Bd n a) (k : Bd n b) : Bd (n + 1) (a - b) := by
  rw [Int.sub_eq_add_neg]; exact h.add k.neg
theorem Bd.nat {n : Nat} {a : Int} (h0 : 0 ≤ a) (h : a < 2 ^ n) : Bd n a := by
  unfold Bd
  have : ((2 ^ n : Nat) : Int) = 2 ^ n := by push_cast; rfl
  omega
theorem Bd.le {n : Nat} {a b : Int} (h : Bd n a) (k : b.natAbs ≤ a.natAbs) : Bd n b := Nat.lt_of_le_of_lt k h
theorem mul_ok {n m : Nat} {a b : Int} (h : Bd n a) (k : Bd m b) (l : n + m ≤ 134217728) : mulOk a b = true := by
  have := h.bits
  have := k.bits
  exact decide_eq_true (by omega)
theorem pylong_no {n : Nat} {a b : Int} (h : Bd n b) (l : n ≤ 9000) : Builtin.divisionGoesByPylong a b = false := by
  unfold Builtin.divisionGoesByPylong
  have e : (if b == 0 then 0 else b.natAbs.log2 / 30 + 1) ≤ 300 := by
    split
    · omega
    · rename_i e
      have e : b ≠ 0 := by simpa using e
      have := (Nat.log2_lt (n := b.natAbs) (k := n) (by omega)).mpr h
      omega
  simp only [Bool.and_eq_false_iff, decide_eq_false_iff_not]
  exact .inl (by simpa using e)
theorem div_ok {n : Nat} {a b : Int} (h : Bd n b) (l : n ≤ 9000) (h0 : b ≠ 0) : divOk a b = true := by
  unfold divOk
  rw [pylong_no h l]
  simpa using h0
end Pl

set_option Elab.async false
set_option linter.all false
set_option maxRecDepth 100000
set_option maxHeartbeats 2000000
namespace Pl
open PySem PySem.Spec PyProof.Rows L2 Dn
section
variable {a b i : Int} {xs ys ds : List D} {d e : D} {p q : Bool} {x y : Str} {α : Type} {u v w : α} {l : List α}
theorem atI0 : atI (u :: l) 0 = some u := by simp [atI, ixN]
theorem atI1 : atI (u :: v :: l) 1 = some v := by unfold atI ixN; rw [if_pos (by decide), if_pos (by simp only [List.length_cons]; omega)]; rfl
theorem atI2 : atI (u :: v :: w :: l) 2 = some w := by unfold atI ixN; rw [if_pos (by decide), if_pos (by simp only [List.length_cons]; omega)]; rfl
theorem atI_at {l : List α} {i : Int} {j : Nat} (h : i = j) : atI l i = l[j]? := by
  subst h
  unfold atI ixN
  rw [if_pos (by omega)]
  split
  · simp
  · rw [List.getElem?_eq_none (by omega)]; rfl
theorem ixN3_0 : ixN 3 0 = some 0 := rfl
theorem ixN3_1 : ixN 3 1 = some 1 := rfl
theorem ixN3_2 : ixN 3 2 = some 2 := rfl
theorem ixN2_0 : ixN 2 0 = some 0 := rfl
theorem ixN2_1 : ixN 2 1 = some 1 := rfl
theorem e_add : pAdd [.int a, .int b] = some (.v (.int (a + b))) := rfl
theorem e_addT (h : xs.length + ys.length ≤ 1000) : pAdd [.tuple xs, .tuple ys] = some (.v (.tuple (xs ++ ys))) := if_pos h
theorem e_addL (h : xs.length + ys.length ≤ 1000) : pAdd [.list xs, .list ys] = some (.o (xs ++ ys)) := if_pos h
theorem e_sub : pSub [.int a, .int b] = some (.v (.int (a - b))) := rfl
theorem e_mul (h : mulOk a b = true) : pMul [.int a, .int b] = some (.v (.int (a * b))) := if_pos h
theorem e_mulL (h1 : -1000 ≤ i) (h2 : i ≤ 1000) (h3 : xs.length * i.toNat ≤ 1000) : pMul [.list xs, .int i] = some (.o (List.replicate i.toNat xs).flatten) := by simp [pMul, h1, h2, h3]
theorem e_mulT (h1 : 1 ≤ i) (h2 : i ≤ 1000) (h4 : xs.length ≤ 1000) (h5 : xs ≠ []) (h3 : xs.length * i.toNat ≤ 1000) : pMul [.tuple xs, .int i] = some (.v (.tuple (List.replicate i.toNat xs).flatten)) := by
  by_cases z : i = 1
  · subst z
    have e : (List.replicate (Int.toNat 1) xs).flatten = xs := by simp
    rw [e]; rfl
  · have z1 : (i == 1) = false := by simpa using z
    have z2 : 2 ≤ i := by omega
    simp [pMul, z1, z2, h2, h3, h4, h5]
theorem e_div (h : divOk a b = true) : pDiv [.int a, .int b] = some (.v (.int (a.fdiv b))) := if_pos h
theorem e_mod (h : b ≠ 0) : pMod [.int a, .int b] = some (.v (.int (a.fmod b))) := if_pos (by simpa using h)
theorem e_pow (h1 : 0 ≤ b) (h2 : b ≤ 1000) (h3 : a.natAbs < 2 ^ 64) : pPow [.int a, .int b] = some (.v (.int (a ^ b.toNat))) := by
  refine if_pos ?_
  rw [Bool.and_eq_true, Bool.and_eq_true, decide_eq_true_eq, decide_eq_true_eq, decide_eq_true_eq]
  exact ⟨⟨h1, h2⟩, h3⟩
theorem e_neg : pNeg [.int a] = some (.v (.int (-a))) := rfl
theorem e_eqI : pEq [.int a, .int b] = some (.v (.bool (a == b))) := rfl
theorem e_neI : pNe [.int a, .int b] = some (.v (.bool (!(a == b)))) := rfl
theorem e_eqB : pEq [.bool p, .bool q] = some (.v (.bool (p == q))) := rfl
theorem e_eqT : pEq [.tuple xs, .tuple []] = some (.v (.bool xs.isEmpty)) := by simp [pEq, emp2, eqv_t0]
theorem e_eqL : pEq [.list xs, .list []] = some (.v (.bool xs.isEmpty)) := by simp [pEq, emp2, eqv_l0]
theorem e_neT : pNe [.tuple xs, .tuple []] = some (.v (.bool (!xs.isEmpty))) := by simp [pNe, emp2, eqv_t0]
theorem e_neL : pNe [.list xs, .list []] = some (.v (.bool (!xs.isEmpty))) := by simp [pNe, emp2, eqv_l0]
theorem e_eq (h1 : SeqAt.shaped d = true) (h2 : SeqAt.shaped e = true) : pEq [d, e] = some (.v (.bool (PyData.eqv d e))) := by simp [pEq, h1, h2]
theorem e_ne (h1 : SeqAt.shaped d = true) (h2 : SeqAt.shaped e = true) : pNe [d, e] = some (.v (.bool (!PyData.eqv d e))) := by simp [pNe, h1, h2]
theorem e_cmp {f : Int → Int → Bool} : pCmp f [.int a, .int b] = some (.v (.bool (f a b))) := rfl
theorem e_is : pIs [d, .none] = some (.v (.bool (isNone d))) := rfl
theorem e_isnot : pIsNot [d, .none] = some (.v (.bool (!isNone d))) := rfl
theorem e_ixL : pIx [.list ds, .int i] = (atI ds i).map .v := rfl
theorem e_ixT : pIx [.tuple ds, .int i] = (atI ds i).map .v := rfl
theorem e_lenL : pLen [.list ds] = some (.v (.int ds.length)) := rfl
theorem e_lenT : pLen [.tuple ds] = some (.v (.int ds.length)) := rfl
theorem e_tupL : pTuple [.list ds] = some (.v (.tuple ds)) := rfl
theorem e_tupT : pTuple [.tuple ds] = some (.v (.tuple ds)) := rfl
theorem e_lstL : pList [.list ds] = some (.o ds) := rfl
theorem e_lstT : pList [.tuple ds] = some (.o ds) := rfl
theorem e_int : pInt [.int i] = some (.v (.int i)) := rfl
theorem e_intB : pInt [.bool p] = some (.v (.int (if p then 1 else 0))) := rfl
theorem e_abs : pAbs [.int i] = some (.v (.int (if i < 0 then -i else i))) := rfl
theorem ints_map (ns : List Int) : intsOf (ns.map PyData.int) = some ns := by
  induction ns with
  | nil => rfl
  | cons n ns ih => simp only [List.map_cons, intsOf, ih]
theorem bools_map (ns : List Bool) : boolsOf (ns.map PyData.bool) = some ns := by
  induction ns with
  | nil => rfl
  | cons n ns ih => simp only [List.map_cons, boolsOf, ih]
theorem e_sum {ns : List Int} : pSum [.list (ns.map .int)] = some (.v (.int ns.sum)) := by simp [pSum, ints_map]
theorem e_all {ns : List Bool} : pAll [.list (ns.map .bool)] = some (.v (.bool (ns.all id))) := by simp [pAll, bools_map]
theorem e_sorted {ns : List Int} : pSorted [.list (ns.map .int)] = some (.o ((sortI ns).map .int)) := by simp [pSorted, ints_map]
theorem e_divmod (h : 0 < b) (h2 : Builtin.divisionGoesByPylong a b = false) : pDivmod [.int a, .int b] = some (.v (.tuple [.int (a / b), .int (a % b)])) := by simp [pDivmod, h, h2]
theorem e_gcd : pGcd [.int a, .int b] = some (.v (.int (Nat.gcd a.natAbs b.natAbs : Nat))) := rfl
theorem e_max : pMax [.int a, .int b] = some (.v (.int (if b > a then b else a))) := rfl
theorem e_min : pMin [.int a, .int b] = some (.v (.int (if b < a then b else a))) := rfl
theorem e_isi {T : String} : pIsi T [d] = some (.v (.bool (isTy T d))) := rfl
theorem e_lr (h : rgOk 0 b = true) : pListRg1 [.int b] = some (.o (rgD 0 b)) := if_pos h
theorem e_cutL {lo hi : Option Int} : pCut (.list ds) lo hi = some (.o (cutD ds lo hi)) := rfl
theorem e_cutT {lo hi : Option Int} : pCut (.tuple ds) lo hi = some (.v (.tuple (cutD ds lo hi))) := rfl
theorem e_repr (h : showOk d = true) : pRepr [d] = some (.v (.str d.shown)) := if_pos h
end
end Pl

set_option Elab.async false
set_option linter.all false
set_option maxRecDepth 100000
set_option maxHeartbeats 2000000
namespace Pl
open PySem PySem.Spec PyProof.Rows L2 Dn

/-! ### what may be shown, and how long it is -/
mutual
def okR (B : Nat) : D → Bool
  | .none => true
  | .bool _ => true
  | .int i => decide (i.natAbs < 10 ^ B)
  | .list ds => okRA B ds
  | .tuple ds => okRA B ds
  | _ => false
def okRA (B : Nat) : List D → Bool
  | [] => true
  | d :: ds => okR B d && okRA B ds
end
mutual
def chs (B : Nat) : D → Nat
  | .int _ => B + 1
  | .list ds => chsA B ds + 3
  | .tuple ds => chsA B ds + 3
  | _ => 5
def chsA (B : Nat) : List D → Nat
  | [] => 0
  | d :: ds => chs B d + 2 + chsA B ds
end
theorem okRA_map {α : Type} {B : Nat} {f : α → D} {l : List α} (h : ∀ x ∈ l, okR B (f x) = true) : okRA B (l.map f) = true := by
  induction l with
  | nil => rfl
  | cons x l ih => rw [List.map_cons, okRA, h x List.mem_cons_self, ih fun y hy => h y (List.mem_cons_of_mem _ hy)]; rfl
theorem chsA_map {α : Type} {B c : Nat} {f : α → D} {l : List α} (h : ∀ x ∈ l, chs B (f x) ≤ c) : chsA B (l.map f) ≤ l.length * (c + 2) := by
  induction l with
  | nil => simp [chsA]
  | cons x l ih =>
    have h1 := h x List.mem_cons_self
    have h2 := ih fun y hy => h y (List.mem_cons_of_mem _ hy)
    rw [List.map_cons, chsA, List.length_cons, Nat.add_mul]
    omega
theorem depthA_map {α : Type} {c : Nat} {f : α → D} {l : List α} (h : ∀ x ∈ l, PyData.depth (f x) ≤ c) : PyData.depthAll (l.map f) ≤ c := by
  induction l with
  | nil => exact Nat.zero_le _
  | cons x l ih =>
    rw [List.map_cons, PyData.depthAll]
    have h1 := h x List.mem_cons_self
    have h2 := ih fun y hy => h y (List.mem_cons_of_mem _ hy)
    omega
theorem lift10 {n B : Nat} {a : Int} (h : Bd n a) (l : n ≤ 3 * B) : a.natAbs < 10 ^ B := by
  have h1 : a.natAbs < 2 ^ (3 * B) := h.up l
  rw [Nat.pow_mul] at h1
  exact Nat.lt_of_lt_of_le h1 (Nat.pow_le_pow_left (by decide) B)
theorem log_lt {B : Nat} {i : Int} (hB : B ≤ 570) (h : i.natAbs < 10 ^ B) : i.natAbs.log2 < 1920 := by
  by_cases z : i.natAbs = 0
  · rw [z]; decide
  · refine (Nat.log2_lt z).mpr (Nat.lt_of_lt_of_le h (Nat.le_trans (Nat.pow_le_pow_right (by decide) hB) ?_))
    decide +kernel
theorem shownA_mem {ds : List D} {t : Str} : t ∈ PyData.shownAll ds → ∃ d ∈ ds, t = d.shown := by
  induction ds with
  | nil => intro h; rw [PyData.shownAll_nil] at h; cases h
  | cons d ds ih =>
    intro h
    rw [PyData.shownAll_cons] at h
    rcases List.mem_cons.mp h with h | h
    · exact ⟨d, List.mem_cons_self, h⟩
    · obtain ⟨e, h1, h2⟩ := ih h
      exact ⟨e, List.mem_cons_of_mem _ h1, h2⟩
theorem sep_low {k : Nat} (hk : 1114112 ≤ k) : k ∉ ((", " : String) : Str).cps.toList := by
  rw [signs_sep]; simp only [List.mem_cons, List.not_mem_nil, or_false]; omega
/-- what is shown of plain values -/
structure Sh (B : Nat) (d : D) : Prop where
  sh : d.showable = true
  ly : d.canLay0 = true
  le : d.shown.length ≤ chs B d
  lo : ∀ k, 1114112 ≤ k → k ∉ d.shown.cps.toList
structure ShA (B : Nat) (ds : List D) : Prop where
  sh : PyData.showableAll ds = true
  ly : PyData.canLayAll0 ds = true
  le : ((PyData.shownAll ds).map (·.length)).sum + 2 * (PyData.shownAll ds).length ≤ chsA B ds
  lo : ∀ k, 1114112 ≤ k → ∀ t ∈ PyData.shownAll ds, k ∉ t.cps.toList
mutual
theorem sh_of {B : Nat} (hB : B ≤ 570) (h0 : 0 < B) : ∀ d : D, okR B d = true → Sh B d
  | .none, _ => ⟨rfl, rfl, by show _ ≤ 5; decide, fun k hk => by
    rw [PyData.shown_none]
    have e : (("None" : String) : Str).cps.toList = [78, 111, 110, 101] := by decide
    rw [e]; simp only [List.mem_cons, List.not_mem_nil, or_false]; omega⟩
  | .bool b, _ => ⟨rfl, rfl, by show _ ≤ 5; cases b <;> decide, fun k hk => by
    rw [PyData.shown_bool]
    cases b
    · have e : (Str.ofString "False").cps.toList = [70, 97, 108, 115, 101] := by decide
      show k ∉ (Str.ofString "False").cps.toList
      rw [e]; simp only [List.mem_cons, List.not_mem_nil, or_false]; omega
    · have e : (Str.ofString "True").cps.toList = [84, 114, 117, 101] := by decide
      show k ∉ (Str.ofString "True").cps.toList
      rw [e]; simp only [List.mem_cons, List.not_mem_nil, or_false]; omega⟩
  | .int i, h => by
    have h : i.natAbs < 10 ^ B := by simpa [okR] using h
    refine ⟨by simpa [PyData.showable] using log_lt hB h, rfl, ?_, fun k hk => shown_int_free' ⟨by omega, by omega⟩ i⟩
    show _ ≤ B + 1
    rw [PyData.shown_int]
    by_cases z : 0 ≤ i
    · have := toString_length_le z h0 (show i < 10 ^ B by have : ((10 ^ B : Nat) : Int) = 10 ^ B := by push_cast; rfl
                                                          omega)
      omega
    · have l1 := len_text_negI (n := i) (by omega)
      have := toString_length_le (v := 0 - i) (by omega) h0 (by have : ((10 ^ B : Nat) : Int) = 10 ^ B := by push_cast; rfl
                                                                omega)
      omega
  | .list ds, h => by
    have s := shA_of hB h0 ds (by simpa [okR] using h)
    refine ⟨by simpa [PyData.showable] using s.sh, by simpa [PyData.canLay0] using s.ly, ?_, fun k hk => ?_⟩
    · rw [show (PyData.list ds).shown = listText (PyData.shownAll ds) by simp only [PyData.shown]]
      have := listText_len_le (PyData.shownAll ds)
      have := s.le
      show _ ≤ chsA B ds + 3
      omega
    · rw [PyData.shown_list, mem_cps_append, mem_cps_append, mem_join, signs_lbrack, signs_rbrack]
      rintro ((z | ⟨t, z, z2⟩ | ⟨_, z⟩) | z)
      · simp only [List.mem_cons, List.not_mem_nil, or_false] at z; omega
      · exact s.lo k hk t z z2
      · exact sep_low hk z
      · simp only [List.mem_cons, List.not_mem_nil, or_false] at z; omega
  | .tuple ds, h => by
    have s := shA_of hB h0 ds (by simpa [okR] using h)
    refine ⟨by simpa [PyData.showable] using s.sh, by simpa [PyData.canLay0] using s.ly, ?_, fun k hk => ?_⟩
    · rw [show (PyData.tuple ds).shown = tupleText (PyData.shownAll ds) by simp only [PyData.shown]]
      have := tupleText_len_le (PyData.shownAll ds)
      have := s.le
      show _ ≤ chsA B ds + 3
      omega
    · rw [PyData.shown_tuple, mem_cps_append, mem_cps_append, mem_join, signs_lparen]
      rintro ((z | ⟨t, z, z2⟩ | ⟨_, z⟩) | z)
      · simp only [List.mem_cons, List.not_mem_nil, or_false] at z; omega
      · exact s.lo k hk t z z2
      · exact sep_low hk z
      · split at z
        · have e : ((",)" : String) : Str).cps.toList = [44, 41] := by decide
          rw [e] at z; simp only [List.mem_cons, List.not_mem_nil, or_false] at z; omega
        · have e : ((")" : String) : Str).cps.toList = [41] := by decide
          rw [e] at z; simp only [List.mem_cons, List.not_mem_nil, or_false] at z; omega
  | .str _, h => by simp [okR] at h
  | .dict _, h => by simp [okR] at h
theorem shA_of {B : Nat} (hB : B ≤ 570) (h0 : 0 < B) : ∀ ds : List D, okRA B ds = true → ShA B ds
  | [], _ => ⟨rfl, rfl, by rw [PyData.shownAll_nil]; exact Nat.zero_le _, fun k _ t h => by rw [PyData.shownAll_nil] at h; cases h⟩
  | d :: ds, h => by
    rw [okRA, Bool.and_eq_true] at h
    have s := sh_of hB h0 d h.1
    have t := shA_of hB h0 ds h.2
    refine ⟨by rw [PyData.showableAll, s.sh, t.sh]; rfl, by rw [PyData.canLayAll0, s.ly, t.ly]; rfl, ?_, fun k hk u hu => ?_⟩
    · have := s.le
      have := t.le
      rw [PyData.shownAll_cons, List.map_cons, List.sum_cons, List.length_cons, chsA]
      omega
    · rw [PyData.shownAll_cons] at hu
      rcases List.mem_cons.mp hu with e | hu
      · subst e; exact s.lo k hk
      · exact t.lo k hk u hu
end
theorem show_ok {B : Nat} {d : D} (hB : B ≤ 570) (h0 : 0 < B) (h : okR B d = true) (hd : d.depth ≤ 64) (hc : chs B d ≤ 100000) : pRepr [d] = some (.v (.str d.shown)) ∧ SeqAt.shaped (.str d.shown) = true := by
  have s := sh_of hB h0 d h
  constructor
  · refine e_repr ?_
    unfold showOk SeqAt.shaped
    rw [s.sh, s.ly, PyData.hasDict_of_canLay d s.ly, decide_eq_true hd, decide_eq_true (Nat.le_trans s.le hc)]
    rfl
  · unfold SeqAt.shaped
    rw [show PyData.canLay0 (.str d.shown) = true from ?_, show PyData.depth (.str d.shown) = 0 from rfl]
    · rfl
    · show PyData.strOk d.shown = true
      unfold PyData.strOk
      rw [Array.all_eq_true']
      intro k hk
      refine decide_eq_true (Classical.byContradiction fun n => s.lo k (by omega) (by simpa using hk))
/-- repr(a) == repr(b) where both are the same -/
theorem eq_shown {x : Str} (h : SeqAt.shaped (.str x) = true) : pEq [.str x, .str x] = some (.v (.bool true)) := by rw [e_eq h h]; simp [PyData.eqv]
theorem ne_shown {x : Str} (h : SeqAt.shaped (.str x) = true) : pNe [.str x, .str x] = some (.v (.bool false)) := by rw [e_ne h h]; simp [PyData.eqv]
end Pl

set_option Elab.async false
set_option linter.all false
set_option maxRecDepth 100000
set_option maxHeartbeats 2000000
namespace Pl
open PySem PySem.Spec PyProof.Rows L2 Dn

/-! ### loops -/
def stepC (vs : List Nat) (tgt : TGD) (cond : TB) (elt : TD) (d : D) (ρ : Rho) : Option (Option D × Rho) := match tgt (.v d) ρ with
  | some ρ1 => match cond ρ1 with
    | some (true, ρ2) => match elt ρ2 with
      | some (r, ρ3) => match frz [r] ρ3 with
        | some ([y], ρ4) => some (some y, wipeR ρ4 vs)
        | _ => none
      | none => none
    | some (false, ρ2) => some (none, wipeR ρ2 vs)
    | none => none
  | none => none
theorem loopC_ev {vs : List Nat} {tgt : TGD} {cond : TB} {elt : TD} {ρ : Rho} {g : D → Option D} : ∀ {ds acc : List D}, (∀ d ∈ ds, stepC vs tgt cond elt d ρ = some (g d, ρ)) → acc.length + ds.length ≤ 1000000 → loopC vs tgt cond elt ds ρ acc = some (acc ++ ds.filterMap g, ρ)
  | [], acc, _, _ => by simp [loopC]
  | d :: ds, acc, h, hl => by
    have h1 := h d List.mem_cons_self
    have hl' : acc.length + ds.length + 1 ≤ 1000000 := by simpa [Nat.add_assoc] using hl
    have ih := fun acc hl => loopC_ev (vs := vs) (tgt := tgt) (cond := cond) (elt := elt) (ρ := ρ) (g := g) (ds := ds) (acc := acc) (fun e he => h e (List.mem_cons_of_mem _ he)) hl
    unfold stepC at h1
    unfold loopC
    split at h1
    · rename_i ρ1 e1
      try simp only [e1]
      split at h1
      · rename_i ρ2 e2
        try simp only [e2]
        split at h1
        · rename_i r ρ3 e3
          try simp only [e3]
          split at h1
          · rename_i y ρ4 e4
            try simp only [e4]
            have h1 := Option.some.inj h1
            have g1 := congrArg Prod.fst h1
            have g2 := congrArg Prod.snd h1
            simp only at g1 g2
            rw [if_pos (by omega), g2, ih _ (by simp; omega), List.filterMap_cons, ← g1]
            simp
          · cases h1
        · cases h1
      · rename_i ρ2 e2
        try simp only [e2]
        have h1 := Option.some.inj h1
        have g1 := congrArg Prod.fst h1
        have g2 := congrArg Prod.snd h1
        simp only at g1 g2
        rw [g2, ih _ (by omega), List.filterMap_cons, ← g1]
      · cases h1
    · cases h1
theorem dComp_ev {vs : List Nat} {src : TSr} {tgt : TGD} {cond : TB} {elt : TD} {ρ ρ1 : Rho} {g : D → Option D} {its : List D} (hs : src ρ = some (its, ρ1)) (hp : noPins ρ1 vs = true) (hl : its.length ≤ 1000000) (h : ∀ d ∈ its, stepC vs tgt cond elt d (wipeR ρ1 vs) = some (g d, wipeR ρ1 vs)) :
    dComp vs src tgt cond elt ρ = some (.o (its.filterMap g), wipeR ρ1 vs) := by
  unfold dComp
  rw [hs]
  simp only
  rw [hp, loopC_ev h (by simpa using hl)]
  simp
theorem loopF_inv {tgt : TGD} {body : TSD} {Inv : List D → Rho → Prop} : ∀ {ds : List D} {ρ : Rho}, (∀ d ds ρ, Inv (d :: ds) ρ → ∃ ρ1 ρ2, tgt (.v d) ρ = some ρ1 ∧ body ρ1 = some (.nx ρ2) ∧ Inv ds ρ2) → Inv ds ρ → ∃ ρ', loopF tgt body ds ρ = some (.nx ρ') ∧ Inv [] ρ'
  | [], ρ, _, i => ⟨ρ, rfl, i⟩
  | d :: ds, ρ, h, i => by
    obtain ⟨ρ1, ρ2, e1, e2, i2⟩ := h d ds ρ i
    obtain ⟨ρ', e3, i3⟩ := loopF_inv h i2
    refine ⟨ρ', ?_, i3⟩
    unfold loopF
    simp only [e1, e2]
    exact e3
/-- a while by a measure -/
theorem whileN_inv {c : TB} {body : TSD} {Inv : Nat → Rho → Prop} {Post : Rho → Prop} (h : ∀ m ρ, Inv m ρ → (∃ ρ1, c ρ = some (false, ρ1) ∧ Post ρ1) ∨ ∃ ρ1 ρ2 m', c ρ = some (true, ρ1) ∧ body ρ1 = some (.nx ρ2) ∧ m' < m ∧ Inv m' ρ2) :
    ∀ (k m : Nat) (ρ : Rho), m ≤ k → Inv m ρ → ∃ n ρ', whileN c body n ρ = some (.nx ρ') ∧ Post ρ' := by
  intro k
  induction k with
  | zero =>
    intro m ρ hm i
    rcases h m ρ i with ⟨ρ1, e, p⟩ | ⟨ρ1, ρ2, m', e1, e2, lt, i2⟩
    · exact ⟨1, ρ1, by simp [whileN, e], p⟩
    · omega
  | succ k ih =>
    intro m ρ hm i
    rcases h m ρ i with ⟨ρ1, e, p⟩ | ⟨ρ1, ρ2, m', e1, e2, lt, i2⟩
    · exact ⟨1, ρ1, by simp [whileN, e], p⟩
    · obtain ⟨n, ρ', e3, p⟩ := ih m' ρ2 (by omega) i2
      exact ⟨n + 1, ρ', by simp [whileN, e1, e2, e3], p⟩
theorem sWhile_inv {c : TB} {body : TSD} {ρ : Rho} (m : Nat) (Inv : Nat → Rho → Prop) (Post : Rho → Prop) (h : ∀ m ρ, Inv m ρ → (∃ ρ1, c ρ = some (false, ρ1) ∧ Post ρ1) ∨ ∃ ρ1 ρ2 m', c ρ = some (true, ρ1) ∧ body ρ1 = some (.nx ρ2) ∧ m' < m ∧ Inv m' ρ2) (i : Inv m ρ) :
    ∃ ρ', sWhile c body ρ = some (.nx ρ') ∧ Post ρ' := by
  obtain ⟨n, ρ', e, p⟩ := whileN_inv h m m ρ (Nat.le_refl _) i
  exact ⟨ρ', sWhile_eq e, p⟩
theorem filterMap_some {α β : Type} {f : α → β} : ∀ l : List α, l.filterMap (fun x => some (f x)) = l.map f := fun l => by simp
theorem filterMap_if {α : Type} {p : α → Bool} : ∀ l : List α, l.filterMap (fun x => if p x then some x else none) = l.filter p := fun l => by
  induction l with
  | nil => rfl
  | cons x l ih => by_cases h : p x <;> simp [List.filterMap_cons, List.filter_cons, h, ih]

/-! ### fractions -/
def enc (r : Rat) : D := .tuple [.int r.num, .int (r.den : Int)]
structure RB (n d : Nat) (r : Rat) : Prop where
  num : Bd n r.num
  den : Bd d (r.den : Int)
theorem RB.up {n m d e : Nat} {r : Rat} (h : RB n d r) (l : n ≤ m) (l2 : d ≤ e) : RB m e r := ⟨h.num.up l, h.den.up l2⟩
theorem gcd_pos' {a b : Int} (h : b ≠ 0) : 0 < b.gcd a := Int.gcd_pos_of_ne_zero_left _ h
theorem num_le {a b : Int} (h : b ≠ 0) : (Rat.divInt a b).num.natAbs ≤ a.natAbs := by
  rw [Rat.num_divInt, Int.natAbs_ediv_of_dvd (Int.dvd_trans (Int.gcd_dvd_right ..) (Int.dvd_mul_left ..)), Int.natAbs_mul, Int.natAbs_sign_of_ne_zero h, Nat.one_mul]
  exact Nat.div_le_self _ _
theorem den_le {a b : Int} (h : b ≠ 0) : (Rat.divInt a b).den ≤ b.natAbs := by
  rw [Rat.den_divInt, if_neg h]
  exact Nat.div_le_self _ _
theorem RB.divInt {n d : Nat} {a b : Int} (h : b ≠ 0) (ha : Bd n a) (hb : Bd d b) : RB n d (Rat.divInt a b) := ⟨ha.le (num_le h), hb.le (by simpa using den_le h)⟩
theorem den_ne {r : Rat} : (r.den : Int) ≠ 0 := by have := r.den_nz; omega
theorem add_divInt (r s : Rat) : r + s = Rat.divInt (r.num * s.den + s.num * r.den) (r.den * s.den) := by
  have := Rat.divInt_add_divInt r.num s.num (den_ne (r := r)) (den_ne (r := s))
  rw [Rat.num_divInt_den, Rat.num_divInt_den] at this
  exact this
theorem mul_divInt (r s : Rat) : r * s = Rat.divInt (r.num * s.num) (r.den * s.den) := by
  have := @Rat.divInt_mul_divInt r.num s.num r.den s.den
  rw [Rat.num_divInt_den, Rat.num_divInt_den] at this
  exact this
theorem den_mul_ne (r s : Rat) : (r.den : Int) * s.den ≠ 0 := Int.mul_ne_zero den_ne den_ne
theorem RB.add {n m d e : Nat} {r s : Rat} (h : RB n d r) (k : RB m e s) : RB (max (n + e) (m + d) + 1) (d + e) (r + s) := by
  rw [add_divInt]
  exact .divInt (den_mul_ne r s) (((h.num.mul k.den).up (Nat.le_max_left _ _)).add ((k.num.mul h.den).up (Nat.le_max_right _ _))) (h.den.mul k.den)
theorem RB.mul {n m d e : Nat} {r s : Rat} (h : RB n d r) (k : RB m e s) : RB (n + m) (d + e) (r * s) := by
  rw [mul_divInt]
  exact .divInt (den_mul_ne r s) (h.num.mul k.num) (h.den.mul k.den)
theorem RB.zero : RB 0 1 0 := ⟨by unfold Bd; decide, by unfold Bd; decide⟩
/-- divided by the common part, its sign the lower number's -/
theorem low_pair {a b g : Int} (h : b ≠ 0) (hg : g = (Nat.gcd a.natAbs b.natAbs : Nat)) : a.fdiv (if 0 < b then g else -g) = (Rat.divInt a b).num ∧ b.fdiv (if 0 < b then g else -g) = ((Rat.divInt a b).den : Int) := by
  have eg : g = (b.gcd a : Nat) := by rw [hg, Int.gcd_comm]; rfl
  have gp : (0 : Int) < g := by have := gcd_pos' (a := a) h; omega
  have da : g ∣ a := by rw [eg]; exact Int.gcd_dvd_right ..
  have db : g ∣ b := by rw [eg]; exact Int.gcd_dvd_left ..
  obtain ⟨x, hx⟩ := da
  obtain ⟨y, hy⟩ := db
  have gn : g ≠ 0 := by omega
  rw [Rat.num_divInt, Rat.den_divInt, if_neg h, ← eg]
  have e2 : ((b.natAbs / b.gcd a : Nat) : Int) = (b.natAbs : Int) / g := by rw [eg]; exact Int.natCast_ediv ..
  rw [e2]
  by_cases hb : 0 < b
  · rw [if_pos hb, Int.sign_eq_one_of_pos hb, Int.one_mul]
    have yp : b.natAbs = b := by omega
    rw [yp]
    refine ⟨?_, ?_⟩
    · rw [hx, Int.mul_fdiv_cancel_left _ gn, Int.mul_ediv_cancel_left _ gn]
    · rw [hy, Int.mul_fdiv_cancel_left _ gn, Int.mul_ediv_cancel_left _ gn]
  · rw [if_neg hb, Int.sign_eq_neg_one_of_neg (by omega)]
    have yp : (b.natAbs : Int) = -b := by omega
    rw [yp]
    have ng : -g ≠ 0 := by omega
    refine ⟨?_, ?_⟩
    · rw [hx, show g * x = -g * -x by rw [Int.neg_mul_neg], Int.mul_fdiv_cancel_left _ ng, show -1 * (-g * -x) = g * -x by grind, Int.mul_ediv_cancel_left _ gn]
    · rw [hy, show g * y = -g * -y by rw [Int.neg_mul_neg], Int.mul_fdiv_cancel_left _ ng, show -(-g * -y) = g * -y by grind, Int.mul_ediv_cancel_left _ gn]
end Pl

set_option Elab.async false
set_option linter.all false
set_option maxRecDepth 100000
set_option maxHeartbeats 4000000
namespace Pl
open PySem PySem.Spec PyProof.Rows L2 Dn
noncomputable section
def d__law_cup : TSD := (sSeq2 (sIf (bVal (dOp pGt (dCons (dOp pIx (dCons (dLoc 0) (dCons (dCon (.int 0)) dNil))) (dCons (dCon (.int 0)) dNil)))) (sSeq2 (sAsg (dOp pDivmod (dCons (dOp pIx (dCons (dLoc 0) (dCons (dCon (.int 0)) dNil))) (dCons (dLoc 1) dNil))) (gTupD 2 (gsCons (tSub 0 (dCon (.int 0))) (gsCons (tName 3) gsNil))))
  (sSeq2 (sRet (dLoc 3))
  sSkip)) sSkip)
  (sSeq2 (sAsg (dOp pAdd (dCons (dOp pIx (dCons (dLoc 0) (dCons (dCon (.int 2)) dNil))) (dCons (dCon (.int 1)) dNil))) (tSub 0 (dCon (.int 2))))
  (sSeq2 (sAsg (dOp pMod (dCons (dOp pInt (dCons (dOp pAdd (dCons (dOp pAdd (dCons (dOp pMul (dCons (dOp pIx (dCons (dLoc 0) (dCons (dCon (.int 1)) dNil))) (dCons (dCon (.int 40771)) dNil))) (dCons (dOp pMul (dCons (dOp pIx (dCons (dLoc 0) (dCons (dCon (.int 2)) dNil))) (dCons (dCon (.int 52391)) dNil))) dNil))) (dCons (dCon (.int 19)) dNil))) dNil)) (dCons (dCon (.int 2147483353)) dNil))) (tName 2))
  (sSeq2 (sAsg (dOp pMod (dCons (dOp pInt (dCons (dOp pAdd (dCons (dOp pMul (dCons (dLoc 2) (dCons (dOp pAdd (dCons (dOp pMul (dCons (dCon (.int 2)) (dCons (dOp pDiv (dCons (dLoc 2) (dCons (dCon (.int 29)) dNil))) dNil))) (dCons (dCon (.int 18979)) dNil))) dNil))) (dCons (dOp pIx (dCons (dLoc 0) (dCons (dCon (.int 2)) dNil))) dNil))) dNil)) (dCons (dCon (.int 2147483353)) dNil))) (tSub 0 (dCon (.int 1))))
  (sSeq2 (sRet (dOp pMod (dCons (dOp pInt (dCons (dOp pDiv (dCons (dOp pIx (dCons (dLoc 0) (dCons (dCon (.int 1)) dNil))) (dCons (dCon (.int 109)) dNil))) dNil)) (dCons (dLoc 1) dNil))))
  sSkip)))))
def F__law_cup : List D → List D → Option (R × List D) := runW 2 4 d__law_cup
def d__law_one_of : TSD := (sSeq2 (sRet (dOp pIx (dCons (dLoc 1) (dCons (dCallV F__law_cup (dCons (dLoc 0) (dCons (dOp pLen (dCons (dLoc 1) dNil)) dNil))) dNil))))
  sSkip)
def F__law_one_of : List D → List D → Option (R × List D) := runW 2 2 d__law_one_of
def d__law_common : TSD := (sSeq2 (sAsgT (dCons (dOp pAbs (dCons (dLoc 0) dNil)) (dCons (dOp pAbs (dCons (dLoc 1) dNil)) dNil)) 2 (gsCons (tName 0) (gsCons (tName 1) gsNil)))
  (sSeq2 (sWhile (bVal (dOp pGt (dCons (dLoc 1) (dCons (dCon (.int 0)) dNil)))) (sSeq2 (sAsgT (dCons (dLoc 1) (dCons (dOp pMod (dCons (dOp pInt (dCons (dLoc 0) dNil)) (dCons (dLoc 1) dNil))) dNil)) 2 (gsCons (tName 0) (gsCons (tName 1) gsNil)))
  sSkip))
  (sSeq2 (sRet (dLoc 0))
  sSkip)))
def F__law_common : List D → Option R := runF 2 2 d__law_common
def d__law_frac : TSD := (sSeq2 (sAsg (dCall F__law_common (dCons (dLoc 0) (dCons (dLoc 1) dNil))) (tName 2))
  (sSeq2 (sAsg (dIf (bVal (dOp pGt (dCons (dLoc 1) (dCons (dCon (.int 0)) dNil)))) (dLoc 2) (dOp pSub (dCons (dCon (.int 0)) (dCons (dLoc 2) dNil)))) (tName 2))
  (sSeq2 (sRet (dTup (dCons (dOp pDiv (dCons (dLoc 0) (dCons (dLoc 2) dNil))) (dCons (dOp pDiv (dCons (dLoc 1) (dCons (dLoc 2) dNil))) dNil))))
  sSkip)))
def F__law_frac : List D → Option R := runF 2 3 d__law_frac
def d__law_add : TSD := (sSeq2 (sRet (dCall F__law_frac (dCons (dOp pAdd (dCons (dOp pMul (dCons (dOp pIx (dCons (dLoc 0) (dCons (dCon (.int 0)) dNil))) (dCons (dOp pIx (dCons (dLoc 1) (dCons (dCon (.int 1)) dNil))) dNil))) (dCons (dOp pMul (dCons (dOp pIx (dCons (dLoc 1) (dCons (dCon (.int 0)) dNil))) (dCons (dOp pIx (dCons (dLoc 0) (dCons (dCon (.int 1)) dNil))) dNil))) dNil))) (dCons (dOp pMul (dCons (dOp pIx (dCons (dLoc 0) (dCons (dCon (.int 1)) dNil))) (dCons (dOp pIx (dCons (dLoc 1) (dCons (dCon (.int 1)) dNil))) dNil))) dNil))))
  sSkip)
def F__law_add : List D → Option R := runF 2 2 d__law_add
def d__law_mul : TSD := (sSeq2 (sRet (dCall F__law_frac (dCons (dOp pMul (dCons (dOp pIx (dCons (dLoc 0) (dCons (dCon (.int 0)) dNil))) (dCons (dOp pIx (dCons (dLoc 1) (dCons (dCon (.int 0)) dNil))) dNil))) (dCons (dOp pMul (dCons (dOp pIx (dCons (dLoc 0) (dCons (dCon (.int 1)) dNil))) (dCons (dOp pIx (dCons (dLoc 1) (dCons (dCon (.int 1)) dNil))) dNil))) dNil))))
  sSkip)
def F__law_mul : List D → Option R := runF 2 2 d__law_mul
def d__law_dot : TSD := (sSeq2 (sAsg (dTup (dCons (dCon (.int 0)) (dCons (dCon (.int 1)) dNil))) (tName 2))
  (sSeq2 (sFor (sZip (dLoc 0) (dLoc 1)) (gTupD 2 (gsCons (tName 3) (gsCons (tName 4) gsNil))) (sSeq2 (sIf (bAnd (bVal (dOp pNe (dCons (dOp pIx (dCons (dLoc 3) (dCons (dCon (.int 0)) dNil))) (dCons (dCon (.int 0)) dNil)))) (bVal (dOp pNe (dCons (dOp pIx (dCons (dLoc 4) (dCons (dCon (.int 0)) dNil))) (dCons (dCon (.int 0)) dNil))))) (sSeq2 (sAsg (dCall F__law_add (dCons (dLoc 2) (dCons (dCall F__law_mul (dCons (dLoc 3) (dCons (dLoc 4) dNil))) dNil))) (tName 2))
  sSkip) sSkip)
  sSkip))
  (sSeq2 (sRet (dLoc 2))
  sSkip)))
def F__law_dot : List D → Option R := runF 2 5 d__law_dot
def d__law_flip : TSD := (sSeq2 (sRet (dOp pTuple (dCons (dComp [1] (sRg1 (dOp pLen (dCons (dLoc 0) dNil))) (tName 1) bYes (dOp pTuple (dCons (dComp [2] (sSeq (dLoc 0)) (tName 2) bYes (dOp pIx (dCons (dLoc 2) (dCons (dLoc 1) dNil)))) dNil))) dNil)))
  sSkip)
def F__law_flip : List D → Option R := runF 1 3 d__law_flip
def d__law_prod : TSD := (sSeq2 (sAsg (dCall F__law_flip (dCons (dLoc 1) dNil)) (tName 2))
  (sSeq2 (sRet (dOp pTuple (dCons (dComp [3] (sSeq (dLoc 0)) (tName 3) bYes (dOp pTuple (dCons (dComp [4] (sSeq (dLoc 2)) (tName 4) bYes (dCall F__law_dot (dCons (dLoc 3) (dCons (dLoc 4) dNil)))) dNil))) dNil)))
  sSkip))
def F__law_prod : List D → Option R := runF 2 5 d__law_prod
def d__law_unit : TSD := (sSeq2 (sRet (dOp pTuple (dCons (dComp [1] (sRg1 (dLoc 0)) (tName 1) bYes (dOp pTuple (dCons (dComp [2] (sRg1 (dLoc 0)) (tName 2) bYes (dTup (dCons (dIf (bVal (dOp pEq (dCons (dLoc 2) (dCons (dLoc 1) dNil)))) (dCon (.int 1)) (dCon (.int 0))) (dCons (dCon (.int 1)) dNil)))) dNil))) dNil)))
  sSkip)
def F__law_unit : List D → Option R := runF 1 3 d__law_unit
def d__law_is_whole : TSD := (sSeq2 (sRet (dAnd (dOp (pIsi "int") (dCons (dLoc 0) dNil)) (dNot (dOp (pIsi "bool") (dCons (dLoc 0) dNil)))))
  sSkip)
def F__law_is_whole : List D → Option R := runF 1 1 d__law_is_whole
def d__law_is_frac : TSD := (sSeq2 (sIf (bOr (bNot (bTru (dOp (pIsi "tuple") (dCons (dLoc 0) dNil)))) (bOr (bVal (dOp pNe (dCons (dOp pLen (dCons (dLoc 0) dNil)) (dCons (dCon (.int 2)) dNil)))) (bVal (dOp pIn (dCons (dCon (.bool false)) (dCons (dComp [1] (sSeq (dLoc 0)) (tName 1) bYes (dCall F__law_is_whole (dCons (dLoc 1) dNil))) dNil)))))) (sSeq2 (sRet (dCon (.bool false)))
  sSkip) sSkip)
  (sSeq2 (sRet (dAnd (dOp pGt (dCons (dOp pIx (dCons (dLoc 0) (dCons (dCon (.int 1)) dNil))) (dCons (dCon (.int 0)) dNil))) (dOp pEq (dCons (dCall F__law_frac (dCons (dOp pIx (dCons (dLoc 0) (dCons (dCon (.int 0)) dNil))) (dCons (dOp pIx (dCons (dLoc 0) (dCons (dCon (.int 1)) dNil))) dNil))) (dCons (dLoc 0) dNil)))))
  sSkip))
def F__law_is_frac : List D → Option R := runF 1 2 d__law_is_frac
def d__law_is_line : TSD := (sSeq2 (sRet (dAnd (dOp (pIsi "tuple") (dCons (dLoc 0) dNil)) (dAnd (dOp pEq (dCons (dOp pLen (dCons (dLoc 0) dNil)) (dCons (dLoc 1) dNil))) (dOp pNotIn (dCons (dCon (.bool false)) (dCons (dComp [2] (sSeq (dLoc 0)) (tName 2) bYes (dCall F__law_is_frac (dCons (dLoc 2) dNil))) dNil))))))
  sSkip)
def F__law_is_line : List D → Option R := runF 2 3 d__law_is_line
def d__law_is_grid : TSD := (sSeq2 (sIf (bOr (bNot (bTru (dOp (pIsi "tuple") (dCons (dLoc 0) dNil)))) (bNot (bVal (dChain (fun i j => decide (i < j)) (fun i j => decide (i < j)) (dCon (.int 0)) (dOp pLen (dCons (dLoc 0) dNil)) (dCon (.int 6)))))) (sSeq2 (sRet (dCon (.bool false)))
  sSkip) sSkip)
  (sSeq2 (sRet (dOp pNotIn (dCons (dCon (.bool false)) (dCons (dComp [1] (sSeq (dLoc 0)) (tName 1) bYes (dCall F__law_is_line (dCons (dLoc 1) (dCons (dOp pLen (dCons (dLoc 0) dNil)) dNil)))) dNil))))
  sSkip))
def F__law_is_grid : List D → Option R := runF 1 2 d__law_is_grid
def d_is_whole : TSD := (sSeq2 (sRet (dAnd (dOp (pIsi "int") (dCons (dLoc 0) dNil)) (dNot (dOp (pIsi "bool") (dCons (dLoc 0) dNil)))))
  sSkip)
def F_is_whole : List D → Option R := runF 1 1 d_is_whole
def d_are_wholes : TSD := (sSeq2 (sRet (dAnd (dOp (pIsi "tuple") (dCons (dLoc 0) dNil)) (dAnd (dOp pEq (dCons (dOp pLen (dCons (dLoc 0) dNil)) (dCons (dLoc 1) dNil))) (dOp pEq (dCons (dComp [2] (sSeq (dLoc 0)) (tName 2) (bNot (bTru (dCall F_is_whole (dCons (dLoc 2) dNil)))) (dLoc 2)) (dCons (dLst dNil) dNil))))))
  sSkip)
def F_are_wholes : List D → Option R := runF 2 3 d_are_wholes
def d_is_fraction : TSD := (sSeq2 (sRet (dAnd (dCall F_are_wholes (dCons (dLoc 0) (dCons (dCon (.int 2)) dNil))) (dAnd (dOp pGt (dCons (dOp pIx (dCons (dLoc 0) (dCons (dCon (.int 1)) dNil))) (dCons (dCon (.int 0)) dNil))) (dOp pEq (dCons (dOp pGcd (dCons (dOp pIx (dCons (dLoc 0) (dCons (dCon (.int 0)) dNil))) (dCons (dOp pIx (dCons (dLoc 0) (dCons (dCon (.int 1)) dNil))) dNil))) (dCons (dCon (.int 1)) dNil))))))
  sSkip)
def F_is_fraction : List D → Option R := runF 1 1 d_is_fraction
def d_are_fractions : TSD := (sSeq2 (sRet (dAnd (dOp (pIsi "tuple") (dCons (dLoc 0) dNil)) (dAnd (dOp pEq (dCons (dOp pLen (dCons (dLoc 0) dNil)) (dCons (dLoc 1) dNil))) (dOp pEq (dCons (dComp [2] (sSeq (dLoc 0)) (tName 2) (bNot (bTru (dCall F_is_fraction (dCons (dLoc 2) dNil)))) (dLoc 2)) (dCons (dLst dNil) dNil))))))
  sSkip)
def F_are_fractions : List D → Option R := runF 2 3 d_are_fractions
def d_is_table : TSD := (sSeq2 (sIf (bOr (bNot (bTru (dOp (pIsi "tuple") (dCons (dLoc 0) dNil)))) (bNot (bVal (dChain (fun i j => decide (i ≤ j)) (fun i j => decide (i ≤ j)) (dCon (.int 1)) (dOp pLen (dCons (dLoc 0) dNil)) (dCon (.int 5)))))) (sSeq2 (sRet (dCon (.bool false)))
  sSkip) sSkip)
  (sSeq2 (sRet (dOp pEq (dCons (dComp [1] (sSeq (dLoc 0)) (tName 1) (bNot (bTru (dCall F_are_fractions (dCons (dLoc 1) (dCons (dOp pLen (dCons (dLoc 0) dNil)) dNil))))) (dLoc 1)) (dCons (dLst dNil) dNil))))
  sSkip))
def F_is_table : List D → Option R := runF 1 2 d_is_table
def d_check_table : TSD := (sSeq2 (sIf (bNot (bTru (dCall F_is_table (dCons (dLoc 0) dNil)))) (sSeq2 sNone
  sSkip) sSkip)
  sSkip)
def F_check_table : List D → Option R := runF 1 1 d_check_table
def d_common_part : TSD := (sSeq2 (sAsg (dCon (.int 0)) (tName 1))
  (sSeq2 (sFor (sSeq (dLoc 0)) (tName 2) (sSeq2 (sAsg (dOp pGcd (dCons (dLoc 1) (dCons (dLoc 2) dNil))) (tName 1))
  sSkip))
  (sSeq2 (sRet (dLoc 1))
  sSkip)))
def F_common_part : List D → Option R := runF 1 3 d_common_part
def d_lowest : TSD := (sSeq2 (sAsg (dCall F_common_part (dCons (dLoc 0) dNil)) (tName 1))
  (sSeq2 (sRet (dOp pTuple (dCons (dComp [2] (sSeq (dLoc 0)) (tName 2) bYes (dOp pDiv (dCons (dLoc 2) (dCons (dLoc 1) dNil)))) dNil)))
  sSkip))
def F_lowest : List D → Option R := runF 1 3 d_lowest
def d_lowest_over : TSD := (sSeq2 (sAsg (dIf (bVal (dOp pGt (dCons (dLoc 1) (dCons (dCon (.int 0)) dNil)))) (dCon (.int 1)) (dOp pNeg (dCons (dCon (.int 1)) dNil))) (tName 2))
  (sSeq2 (sRet (dCall F_lowest (dCons (dOp pAdd (dCons (dComp [3] (sSeq (dLoc 0)) (tName 3) bYes (dOp pMul (dCons (dLoc 2) (dCons (dLoc 3) dNil)))) (dCons (dLst (dCons (dOp pMul (dCons (dLoc 2) (dCons (dLoc 1) dNil))) dNil)) dNil))) dNil)))
  sSkip))
def F_lowest_over : List D → Option R := runF 2 4 d_lowest_over
def d_ratio : TSD := (sSeq2 (sRet (dCall F_lowest_over (dCons (dLst (dCons (dLoc 0) dNil)) (dCons (dLoc 1) dNil))))
  sSkip)
def F_ratio : List D → Option R := runF 2 2 d_ratio
def d_plus : TSD := (sSeq2 (sRet (dCall F_ratio (dCons (dOp pAdd (dCons (dOp pMul (dCons (dOp pIx (dCons (dLoc 0) (dCons (dCon (.int 0)) dNil))) (dCons (dOp pIx (dCons (dLoc 1) (dCons (dCon (.int 1)) dNil))) dNil))) (dCons (dOp pMul (dCons (dOp pIx (dCons (dLoc 1) (dCons (dCon (.int 0)) dNil))) (dCons (dOp pIx (dCons (dLoc 0) (dCons (dCon (.int 1)) dNil))) dNil))) dNil))) (dCons (dOp pMul (dCons (dOp pIx (dCons (dLoc 0) (dCons (dCon (.int 1)) dNil))) (dCons (dOp pIx (dCons (dLoc 1) (dCons (dCon (.int 1)) dNil))) dNil))) dNil))))
  sSkip)
def F_plus : List D → Option R := runF 2 2 d_plus
def d_times : TSD := (sSeq2 (sRet (dCall F_ratio (dCons (dOp pMul (dCons (dOp pIx (dCons (dLoc 0) (dCons (dCon (.int 0)) dNil))) (dCons (dOp pIx (dCons (dLoc 1) (dCons (dCon (.int 0)) dNil))) dNil))) (dCons (dOp pMul (dCons (dOp pIx (dCons (dLoc 0) (dCons (dCon (.int 1)) dNil))) (dCons (dOp pIx (dCons (dLoc 1) (dCons (dCon (.int 1)) dNil))) dNil))) dNil))))
  sSkip)
def F_times : List D → Option R := runF 2 2 d_times
def d_total : TSD := (sSeq2 (sAsg (dCon (.tuple [(.int 0), (.int 1)])) (tName 1))
  (sSeq2 (sFor (sSeq (dLoc 0)) (tName 2) (sSeq2 (sAsg (dCall F_plus (dCons (dLoc 1) (dCons (dLoc 2) dNil))) (tName 1))
  sSkip))
  (sSeq2 (sRet (dLoc 1))
  sSkip)))
def F_total : List D → Option R := runF 1 3 d_total
def d_dot : TSD := (sSeq2 (sRet (dCall F_total (dCons (dComp [2, 3] (sZip (dLoc 0) (dLoc 1)) (gTupD 2 (gsCons (tName 2) (gsCons (tName 3) gsNil))) bYes (dCall F_times (dCons (dLoc 2) (dCons (dLoc 3) dNil)))) dNil)))
  sSkip)
def F_dot : List D → Option R := runF 2 4 d_dot
def d_turned_of : TSD := (sSeq2 (sRet (dOp pTuple (dCons (dComp [1] (sRg1 (dOp pLen (dCons (dOp pIx (dCons (dLoc 0) (dCons (dCon (.int 0)) dNil))) dNil))) (tName 1) bYes (dOp pTuple (dCons (dComp [2] (sSeq (dLoc 0)) (tName 2) bYes (dOp pIx (dCons (dLoc 2) (dCons (dLoc 1) dNil)))) dNil))) dNil)))
  sSkip)
def F_turned_of : List D → Option R := runF 1 3 d_turned_of
def d_product_of : TSD := (sSeq2 (sAsg (dCall F_turned_of (dCons (dLoc 1) dNil)) (tName 2))
  (sSeq2 (sRet (dOp pTuple (dCons (dComp [3] (sSeq (dLoc 0)) (tName 3) bYes (dOp pTuple (dCons (dComp [4] (sSeq (dLoc 2)) (tName 4) bYes (dCall F_dot (dCons (dLoc 3) (dCons (dLoc 4) dNil)))) dNil))) dNil)))
  sSkip))
def F_product_of : List D → Option R := runF 2 5 d_product_of
def d_product : TSD := (sSeq2 (sExp (dCall F_check_table (dCons (dLoc 0) dNil)))
  (sSeq2 (sIf (bOr (bNot (bTru (dCall F_is_table (dCons (dLoc 1) dNil)))) (bVal (dOp pNe (dCons (dOp pLen (dCons (dLoc 1) dNil)) (dCons (dOp pLen (dCons (dLoc 0) dNil)) dNil))))) (sSeq2 sNone
  sSkip) sSkip)
  (sSeq2 (sRet (dCall F_product_of (dCons (dLoc 0) (dCons (dLoc 1) dNil))))
  sSkip)))
def F_product : List D → Option R := runF 2 2 d_product
def d_turned : TSD := (sSeq2 (sExp (dCall F_check_table (dCons (dLoc 0) dNil)))
  (sSeq2 (sRet (dCall F_turned_of (dCons (dLoc 0) dNil)))
  sSkip))
def F_turned : List D → Option R := runF 1 1 d_turned

end
/-! ### the law's own pot -/
/-- the pot: at most b draws are still to come -/
def VI (b : Nat) (xs : List D) : Prop := ∃ a s c : Int, xs = [.int a, .int s, .int c] ∧ 0 ≤ a ∧ 0 ≤ s ∧ s < 2147483353 ∧ 0 ≤ c ∧ c + b ≤ 1048576
theorem VI.less {b c : Nat} {xs : List D} (h : VI b xs) (l : c ≤ b) : VI c xs := by
  obtain ⟨a, s, k, e, h1, h2, h3, h4, h5⟩ := h
  exact ⟨a, s, k, e, h1, h2, h3, h4, by omega⟩
theorem cup_spec {b : Nat} {xs : List D} {m : Int} (h : VI (b + 1) xs) (h1 : 1 ≤ m) (h2 : m < 2 ^ 40) : ∃ i xs', F__law_cup xs [.int m] = some (.v (.int i), xs') ∧ 0 ≤ i ∧ i < m ∧ VI b xs' := by
  obtain ⟨a, s, c, rfl, ha, hs, hs2, hc, hb⟩ := h
  by_cases z : 0 < a
  · have hp : Builtin.divisionGoesByPylong a m = false := pylong_no (n := 40) (Bd.nat (by omega) h2) (by decide)
    refine ⟨a % m, [.int (a / m), .int s, .int c], ?_, Int.emod_nonneg _ (by omega), Int.emod_lt_of_pos _ (by omega), a / m, s, c, rfl, Int.ediv_nonneg (by omega) (by omega), hs, hs2, hc, by omega⟩
    simp [F__law_cup, d__law_cup, dLoc, dCon, dNil, dCons, dOp, dTup, dLst, looks, look, frz, dCall, dCallV, dCallK, reord, sSeq2, sSkip, sExp, sRet, sRetN, sIf, sAsg, sAsgT, bVal, bTru, bNot, bAnd, bOr, bYes, dAnd, dOr, dNot, dIf, tName, gsNil, gsCons, gTupD, Dn.tSub, Dn.valOf, asB, ownAt, asI, isPin, sl, dCut, iOf, iNo, fin, endV, runP, runF, runV, runW, startR, startV, dEmp, dChain, res, truR, Dn.tru, itemsOf, sNone, sSeq, sRg1, sRg2, sZip, sEnum, sFor, dApp, dPop, sBrk, sCnt, isNone, atI0, atI1, atI2, ixN3_0, ixN3_1, ixN3_2, ixN2_0, ixN2_1, noPins, e_add, e_addT, e_addL, e_sub, e_mul, e_mulL, e_mulT, e_div, e_mod, e_neg, e_eqI, e_neI, e_eqB, e_eqT, e_eqL, e_neT, e_neL, e_cmp, e_is, e_isnot, e_ixL, e_ixT, e_lenL, e_lenT, e_tupL, e_tupT, e_lstL, e_lstT, e_int, e_intB, e_abs, e_sum, e_divmod, e_gcd, e_max, e_min, e_isi, e_cutL, e_cutT, z, show 0 < m by omega, hp]
  · have za : a = 0 := by omega
    subst za
    have m1 : mulOk s 40771 = true := mul_ok (n := 31) (m := 16) (Bd.nat hs (by omega)) (Bd.nat (by decide) (by decide)) (by decide)
    have m2 : mulOk (c + 1) 52391 = true := mul_ok (n := 21) (m := 16) (Bd.nat (by omega) (by omega)) (Bd.nat (by decide) (by decide)) (by decide)
    have f0 : ∀ x : Int, x.fmod 2147483353 = x % 2147483353 := fun x => Int.fmod_eq_emod_of_nonneg _ (by decide)
    have f1 : ∀ x : Int, x.fdiv 29 = x / 29 := fun x => Int.fdiv_eq_ediv_of_nonneg _ (by decide)
    have f2 : ∀ x : Int, x.fdiv 109 = x / 109 := fun x => Int.fdiv_eq_ediv_of_nonneg _ (by decide)
    have f3 : ∀ x : Int, x.fmod m = x % m := fun x => Int.fmod_eq_emod_of_nonneg _ (by omega)
    have d1 : ∀ x : Int, divOk x 29 = true := fun x => div_ok (n := 5) (Bd.nat (by decide) (by decide)) (by decide) (by decide)
    have d2 : ∀ x : Int, divOk x 109 = true := fun x => div_ok (n := 7) (Bd.nat (by decide) (by decide)) (by decide) (by decide)
    generalize hl : (s * 40771 + (c + 1) * 52391 + 19) % 2147483353 = l
    have l0 : 0 ≤ l := by rw [← hl]; exact Int.emod_nonneg _ (by decide)
    have l1 : l < 2147483353 := by rw [← hl]; exact Int.emod_lt_of_pos _ (by decide)
    have q0 : 0 ≤ l / 29 := by omega
    have m3 : mulOk 2 (l / 29) = true := mul_ok (n := 2) (m := 31) (Bd.nat (by decide) (by decide)) (Bd.nat q0 (by omega)) (by decide)
    have m4 : mulOk l (2 * (l / 29) + 18979) = true := mul_ok (n := 31) (m := 33) (Bd.nat l0 (by omega)) (Bd.nat (by omega) (by omega)) (by decide)
    generalize ht : (l * (2 * (l / 29) + 18979) + (c + 1)) % 2147483353 = t
    have t0 : 0 ≤ t := by rw [← ht]; exact Int.emod_nonneg _ (by decide)
    have t1 : t < 2147483353 := by rw [← ht]; exact Int.emod_lt_of_pos _ (by decide)
    refine ⟨t / 109 % m, [.int 0, .int t, .int (c + 1)], ?_, Int.emod_nonneg _ (by omega), Int.emod_lt_of_pos _ (by omega), 0, t, c + 1, rfl, by omega, t0, t1, by omega, by omega⟩
    simp [F__law_cup, d__law_cup, dLoc, dCon, dNil, dCons, dOp, dTup, dLst, looks, look, frz, dCall, dCallV, dCallK, reord, sSeq2, sSkip, sExp, sRet, sRetN, sIf, sAsg, sAsgT, bVal, bTru, bNot, bAnd, bOr, bYes, dAnd, dOr, dNot, dIf, tName, gsNil, gsCons, gTupD, Dn.tSub, Dn.valOf, asB, ownAt, asI, isPin, sl, dCut, iOf, iNo, fin, endV, runP, runF, runV, runW, startR, startV, dEmp, dChain, res, truR, Dn.tru, itemsOf, sNone, sSeq, sRg1, sRg2, sZip, sEnum, sFor, dApp, dPop, sBrk, sCnt, isNone, atI0, atI1, atI2, ixN3_0, ixN3_1, ixN3_2, ixN2_0, ixN2_1, noPins, e_add, e_addT, e_addL, e_sub, e_mul, e_mulL, e_mulT, e_div, e_mod, e_neg, e_eqI, e_neI, e_eqB, e_eqT, e_eqL, e_neT, e_neL, e_cmp, e_is, e_isnot, e_ixL, e_ixT, e_lenL, e_lenT, e_tupL, e_tupT, e_lstL, e_lstT, e_int, e_intB, e_abs, e_sum, e_divmod, e_gcd, e_max, e_min, e_isi, e_cutL, e_cutT, m1, m2, f0, f1, f2, f3, d1, d2, hl, m3, m4, ht, show m ≠ 0 by omega]
theorem one_of_spec {b : Nat} {xs ds : List D} (h : VI (b + 1) xs) (h0 : ds ≠ []) (h1 : ds.length < 1000) : ∃ d xs', F__law_one_of xs [.tuple ds] = some (.v d, xs') ∧ d ∈ ds ∧ VI b xs' := by
  have lp : 0 < ds.length := List.length_pos_iff.mpr h0
  obtain ⟨i, xs', e, i0, i1, v⟩ := cup_spec (m := ds.length) h (by omega) (by omega)
  have hi : i.toNat < ds.length := by omega
  refine ⟨ds[i.toNat], xs', ?_, List.getElem_mem _, v⟩
  have ei : i = (i.toNat : Int) := by omega
  have ea : atI ds i = some ds[i.toNat] := by rw [atI_at ei, List.getElem?_eq_getElem hi]
  simp [F__law_one_of, d__law_one_of, dLoc, dCon, dNil, dCons, dOp, dTup, dLst, looks, look, frz, dCall, dCallV, dCallK, reord, sSeq2, sSkip, sExp, sRet, sRetN, sIf, sAsg, sAsgT, bVal, bTru, bNot, bAnd, bOr, bYes, dAnd, dOr, dNot, dIf, tName, gsNil, gsCons, gTupD, Dn.tSub, Dn.valOf, asB, ownAt, asI, isPin, sl, dCut, iOf, iNo, fin, endV, runP, runF, runV, runW, startR, startV, dEmp, dChain, res, truR, Dn.tru, itemsOf, sNone, sSeq, sRg1, sRg2, sZip, sEnum, sFor, dApp, dPop, sBrk, sCnt, isNone, atI0, atI1, atI2, ixN3_0, ixN3_1, ixN3_2, ixN2_0, ixN2_1, noPins, e_add, e_addT, e_addL, e_sub, e_mul, e_mulL, e_mulT, e_div, e_mod, e_neg, e_eqI, e_neI, e_eqB, e_eqT, e_eqL, e_neT, e_neL, e_cmp, e_is, e_isnot, e_ixL, e_ixT, e_lenL, e_lenT, e_tupL, e_tupT, e_lstL, e_lstT, e_int, e_intB, e_abs, e_sum, e_divmod, e_gcd, e_max, e_min, e_isi, e_cutL, e_cutT, e, ea]
theorem one_of_L {b : Nat} {xs ds : List D} (h : VI (b + 1) xs) (h0 : ds ≠ []) (h1 : ds.length < 1000) : ∃ d xs', F__law_one_of xs [.list ds] = some (.v d, xs') ∧ d ∈ ds ∧ VI b xs' := by
  have lp : 0 < ds.length := List.length_pos_iff.mpr h0
  obtain ⟨i, xs', e, i0, i1, v⟩ := cup_spec (m := ds.length) h (by omega) (by omega)
  have hi : i.toNat < ds.length := by omega
  refine ⟨ds[i.toNat], xs', ?_, List.getElem_mem _, v⟩
  have ei : i = (i.toNat : Int) := by omega
  have ea : atI ds i = some ds[i.toNat] := by rw [atI_at ei, List.getElem?_eq_getElem hi]
  simp [F__law_one_of, d__law_one_of, dLoc, dCon, dNil, dCons, dOp, dTup, dLst, looks, look, frz, dCall, dCallV, dCallK, reord, sSeq2, sSkip, sExp, sRet, sRetN, sIf, sAsg, sAsgT, bVal, bTru, bNot, bAnd, bOr, bYes, dAnd, dOr, dNot, dIf, tName, gsNil, gsCons, gTupD, Dn.tSub, Dn.valOf, asB, ownAt, asI, isPin, sl, dCut, iOf, iNo, fin, endV, runP, runF, runV, runW, startR, startV, dEmp, dChain, res, truR, Dn.tru, itemsOf, sNone, sSeq, sRg1, sRg2, sZip, sEnum, sFor, dApp, dPop, sBrk, sCnt, isNone, atI0, atI1, atI2, ixN3_0, ixN3_1, ixN3_2, ixN2_0, ixN2_1, noPins, e_add, e_addT, e_addL, e_sub, e_mul, e_mulL, e_mulT, e_div, e_mod, e_neg, e_eqI, e_neI, e_eqB, e_eqT, e_eqL, e_neT, e_neL, e_cmp, e_is, e_isnot, e_ixL, e_ixT, e_lenL, e_lenT, e_tupL, e_tupT, e_lstL, e_lstT, e_int, e_intB, e_abs, e_sum, e_divmod, e_gcd, e_max, e_min, e_isi, e_cutL, e_cutT, e, ea]

/-! ### fractions, as the law and the program make them -/
theorem common_spec (a b : Int) : F__law_common [.int a, .int b] = some (.v (.int (Nat.gcd a.natAbs b.natAbs : Nat))) := by
  have key : ∃ ρ', sWhile (bVal (dOp pGt (dCons (dLoc 1) (dCons (dCon (.int 0)) dNil)))) (sSeq2 (sAsgT (dCons (dLoc 1) (dCons (dOp pMod (dCons (dOp pInt (dCons (dLoc 0) dNil)) (dCons (dLoc 1) dNil))) dNil)) 2 (gsCons (tName 0) (gsCons (tName 1) gsNil))) sSkip)
      [some (.val (.int (a.natAbs : Int))), some (.val (.int (b.natAbs : Int)))] = some (.nx ρ') ∧ ∃ z, ρ' = [some (.val (.int (Nat.gcd a.natAbs b.natAbs : Nat))), some (.val (.int z))] := by
    refine sWhile_inv b.natAbs (fun m ρ => ∃ x y : Nat, m = y ∧ ρ = [some (.val (.int (x : Int))), some (.val (.int (y : Int)))] ∧ Nat.gcd x y = Nat.gcd a.natAbs b.natAbs) _ ?_ ⟨a.natAbs, b.natAbs, rfl, rfl, rfl⟩
    rintro m ρ ⟨x, y, rfl, rfl, hg⟩
    by_cases hy : m = 0
    · subst hy
      refine .inl ⟨[some (.val (.int (x : Int))), some (.val (.int 0))], by simp [dLoc, dCon, dNil, dCons, dOp, dTup, dLst, looks, look, frz, dCall, dCallV, dCallK, reord, sSeq2, sSkip, sExp, sRet, sRetN, sIf, sAsg, sAsgT, bVal, bTru, bNot, bAnd, bOr, bYes, dAnd, dOr, dNot, dIf, tName, gsNil, gsCons, gTupD, Dn.tSub, Dn.valOf, asB, ownAt, asI, isPin, sl, dCut, iOf, iNo, fin, endV, runP, runF, runV, runW, startR, startV, dEmp, dChain, res, truR, Dn.tru, itemsOf, sNone, sSeq, sRg1, sRg2, sZip, sEnum, sFor, dApp, dPop, sBrk, sCnt, isNone, atI0, atI1, atI2, ixN3_0, ixN3_1, ixN3_2, ixN2_0, ixN2_1, noPins, e_add, e_addT, e_addL, e_sub, e_mul, e_mulL, e_mulT, e_div, e_mod, e_neg, e_eqI, e_neI, e_eqB, e_eqT, e_eqL, e_neT, e_neL, e_cmp, e_is, e_isnot, e_ixL, e_ixT, e_lenL, e_lenT, e_tupL, e_tupT, e_lstL, e_lstT, e_int, e_intB, e_abs, e_sum, e_divmod, e_gcd, e_max, e_min, e_isi, e_cutL, e_cutT], 0, ?_⟩
      rw [← hg, Nat.gcd_zero_right]
    · refine .inr ⟨_, [some (.val (.int (m : Int))), some (.val (.int ((x % m : Nat) : Int)))], x % m, by simp [dLoc, dCon, dNil, dCons, dOp, dTup, dLst, looks, look, frz, dCall, dCallV, dCallK, reord, sSeq2, sSkip, sExp, sRet, sRetN, sIf, sAsg, sAsgT, bVal, bTru, bNot, bAnd, bOr, bYes, dAnd, dOr, dNot, dIf, tName, gsNil, gsCons, gTupD, Dn.tSub, Dn.valOf, asB, ownAt, asI, isPin, sl, dCut, iOf, iNo, fin, endV, runP, runF, runV, runW, startR, startV, dEmp, dChain, res, truR, Dn.tru, itemsOf, sNone, sSeq, sRg1, sRg2, sZip, sEnum, sFor, dApp, dPop, sBrk, sCnt, isNone, atI0, atI1, atI2, ixN3_0, ixN3_1, ixN3_2, ixN2_0, ixN2_1, noPins, e_add, e_addT, e_addL, e_sub, e_mul, e_mulL, e_mulT, e_div, e_mod, e_neg, e_eqI, e_neI, e_eqB, e_eqT, e_eqL, e_neT, e_neL, e_cmp, e_is, e_isnot, e_ixL, e_ixT, e_lenL, e_lenT, e_tupL, e_tupT, e_lstL, e_lstT, e_int, e_intB, e_abs, e_sum, e_divmod, e_gcd, e_max, e_min, e_isi, e_cutL, e_cutT, show 0 < m by omega]; rfl, ?_, Nat.mod_lt _ (by omega), m, x % m, rfl, rfl, ?_⟩
      · have f : ((x : Int)).fmod (m : Int) = ((x % m : Nat) : Int) := by rw [Int.fmod_eq_emod_of_nonneg _ (by omega)]; rfl
        simp [dLoc, dCon, dNil, dCons, dOp, dTup, dLst, looks, look, frz, dCall, dCallV, dCallK, reord, sSeq2, sSkip, sExp, sRet, sRetN, sIf, sAsg, sAsgT, bVal, bTru, bNot, bAnd, bOr, bYes, dAnd, dOr, dNot, dIf, tName, gsNil, gsCons, gTupD, Dn.tSub, Dn.valOf, asB, ownAt, asI, isPin, sl, dCut, iOf, iNo, fin, endV, runP, runF, runV, runW, startR, startV, dEmp, dChain, res, truR, Dn.tru, itemsOf, sNone, sSeq, sRg1, sRg2, sZip, sEnum, sFor, dApp, dPop, sBrk, sCnt, isNone, atI0, atI1, atI2, ixN3_0, ixN3_1, ixN3_2, ixN2_0, ixN2_1, noPins, e_add, e_addT, e_addL, e_sub, e_mul, e_mulL, e_mulT, e_div, e_mod, e_neg, e_eqI, e_neI, e_eqB, e_eqT, e_eqL, e_neT, e_neL, e_cmp, e_is, e_isnot, e_ixL, e_ixT, e_lenL, e_lenT, e_tupL, e_tupT, e_lstL, e_lstT, e_int, e_intB, e_abs, e_sum, e_divmod, e_gcd, e_max, e_min, e_isi, e_cutL, e_cutT, hy, f]
      · rw [← hg, Nat.gcd_comm x m, Nat.gcd_rec m x, Nat.gcd_comm]
  obtain ⟨ρ', e, z, rfl⟩ := key
  have h1 : (if a < 0 then -a else a) = (a.natAbs : Int) := by split <;> omega
  have h2 : (if b < 0 then -b else b) = (b.natAbs : Int) := by split <;> omega
  simp [F__law_common, d__law_common, dLoc, dCon, dNil, dCons, dOp, dTup, dLst, looks, look, frz, dCall, dCallV, dCallK, reord, sSeq2, sSkip, sExp, sRet, sRetN, sIf, sAsg, sAsgT, bVal, bTru, bNot, bAnd, bOr, bYes, dAnd, dOr, dNot, dIf, tName, gsNil, gsCons, gTupD, Dn.tSub, Dn.valOf, asB, ownAt, asI, isPin, sl, dCut, iOf, iNo, fin, endV, runP, runF, runV, runW, startR, startV, dEmp, dChain, res, truR, Dn.tru, itemsOf, sNone, sSeq, sRg1, sRg2, sZip, sEnum, sFor, dApp, dPop, sBrk, sCnt, isNone, atI0, atI1, atI2, ixN3_0, ixN3_1, ixN3_2, ixN2_0, ixN2_1, noPins, e_add, e_addT, e_addL, e_sub, e_mul, e_mulL, e_mulT, e_div, e_mod, e_neg, e_eqI, e_neI, e_eqB, e_eqT, e_eqL, e_neT, e_neL, e_cmp, e_is, e_isnot, e_ixL, e_ixT, e_lenL, e_lenT, e_tupL, e_tupT, e_lstL, e_lstT, e_int, e_intB, e_abs, e_sum, e_divmod, e_gcd, e_max, e_min, e_isi, e_cutL, e_cutT, h1, h2] at e ⊢
  simp [e]
theorem frac_spec {n d : Nat} {a b : Int} (h : b ≠ 0) (hb : Bd d b) (hd : d ≤ 9000) : F__law_frac [.int a, .int b] = some (.v (enc (Rat.divInt a b))) := by
  have lp := low_pair (a := a) (b := b) h rfl
  have gp : (0 : Int) < (Nat.gcd a.natAbs b.natAbs : Nat) := by have := Nat.gcd_pos_of_pos_right (n := b.natAbs) a.natAbs (by omega); omega
  have gb : Bd d ((Nat.gcd a.natAbs b.natAbs : Nat) : Int) := hb.le (by have := Nat.gcd_le_right (n := b.natAbs) a.natAbs (by omega); simpa using this)
  have d1 : ∀ x : Int, divOk x ((Nat.gcd a.natAbs b.natAbs : Nat) : Int) = true := fun x => div_ok gb hd (by omega)
  have d2 : ∀ x : Int, divOk x (-((Nat.gcd a.natAbs b.natAbs : Nat) : Int)) = true := fun x => div_ok gb.neg hd (by omega)
  by_cases z : 0 < b
  · rw [if_pos z] at lp
    simp [F__law_frac, d__law_frac, dLoc, dCon, dNil, dCons, dOp, dTup, dLst, looks, look, frz, dCall, dCallV, dCallK, reord, sSeq2, sSkip, sExp, sRet, sRetN, sIf, sAsg, sAsgT, bVal, bTru, bNot, bAnd, bOr, bYes, dAnd, dOr, dNot, dIf, tName, gsNil, gsCons, gTupD, Dn.tSub, Dn.valOf, asB, ownAt, asI, isPin, sl, dCut, iOf, iNo, fin, endV, runP, runF, runV, runW, startR, startV, dEmp, dChain, res, truR, Dn.tru, itemsOf, sNone, sSeq, sRg1, sRg2, sZip, sEnum, sFor, dApp, dPop, sBrk, sCnt, isNone, atI0, atI1, atI2, ixN3_0, ixN3_1, ixN3_2, ixN2_0, ixN2_1, noPins, e_add, e_addT, e_addL, e_sub, e_mul, e_mulL, e_mulT, e_div, e_mod, e_neg, e_eqI, e_neI, e_eqB, e_eqT, e_eqL, e_neT, e_neL, e_cmp, e_is, e_isnot, e_ixL, e_ixT, e_lenL, e_lenT, e_tupL, e_tupT, e_lstL, e_lstT, e_int, e_intB, e_abs, e_sum, e_divmod, e_gcd, e_max, e_min, e_isi, e_cutL, e_cutT, common_spec, z, d1, lp.1, lp.2, enc]
  · rw [if_neg z] at lp
    simp [F__law_frac, d__law_frac, dLoc, dCon, dNil, dCons, dOp, dTup, dLst, looks, look, frz, dCall, dCallV, dCallK, reord, sSeq2, sSkip, sExp, sRet, sRetN, sIf, sAsg, sAsgT, bVal, bTru, bNot, bAnd, bOr, bYes, dAnd, dOr, dNot, dIf, tName, gsNil, gsCons, gTupD, Dn.tSub, Dn.valOf, asB, ownAt, asI, isPin, sl, dCut, iOf, iNo, fin, endV, runP, runF, runV, runW, startR, startV, dEmp, dChain, res, truR, Dn.tru, itemsOf, sNone, sSeq, sRg1, sRg2, sZip, sEnum, sFor, dApp, dPop, sBrk, sCnt, isNone, atI0, atI1, atI2, ixN3_0, ixN3_1, ixN3_2, ixN2_0, ixN2_1, noPins, e_add, e_addT, e_addL, e_sub, e_mul, e_mulL, e_mulT, e_div, e_mod, e_neg, e_eqI, e_neI, e_eqB, e_eqT, e_eqL, e_neT, e_neL, e_cmp, e_is, e_isnot, e_ixL, e_ixT, e_lenL, e_lenT, e_tupL, e_tupT, e_lstL, e_lstT, e_int, e_intB, e_abs, e_sum, e_divmod, e_gcd, e_max, e_min, e_isi, e_cutL, e_cutT, common_spec, z, d2, lp.1, lp.2, enc]

theorem enc_ix0 {r : Rat} : atI [PyData.int r.num, .int (r.den : Int)] 0 = some (.int r.num) := atI0
theorem law_add_spec {n d m e : Nat} {r s : Rat} (hr : RB n d r) (hs : RB m e s) (h1 : n + e ≤ 100000) (h2 : m + d ≤ 100000) (h3 : d + e ≤ 9000) : F__law_add [enc r, enc s] = some (.v (enc (r + s))) := by
  have m1 : mulOk r.num s.den = true := mul_ok hr.num hs.den (by omega)
  have m2 : mulOk s.num r.den = true := mul_ok hs.num hr.den (by omega)
  have m3 : mulOk r.den s.den = true := mul_ok hr.den hs.den (by omega)
  have f := frac_spec (n := 0) (a := r.num * s.den + s.num * r.den) (den_mul_ne r s) (hr.den.mul hs.den) h3
  rw [← add_divInt] at f
  simp only [enc] at f ⊢
  simp [F__law_add, d__law_add, dLoc, dCon, dNil, dCons, dOp, dTup, dLst, looks, look, frz, dCall, dCallV, dCallK, reord, sSeq2, sSkip, sExp, sRet, sRetN, sIf, sAsg, sAsgT, bVal, bTru, bNot, bAnd, bOr, bYes, dAnd, dOr, dNot, dIf, tName, gsNil, gsCons, gTupD, Dn.tSub, Dn.valOf, asB, ownAt, asI, isPin, sl, dCut, iOf, iNo, fin, endV, runP, runF, runV, runW, startR, startV, dEmp, dChain, res, truR, Dn.tru, itemsOf, sNone, sSeq, sRg1, sRg2, sZip, sEnum, sFor, dApp, dPop, sBrk, sCnt, isNone, atI0, atI1, atI2, ixN3_0, ixN3_1, ixN3_2, ixN2_0, ixN2_1, noPins, e_add, e_addT, e_addL, e_sub, e_mul, e_mulL, e_mulT, e_div, e_mod, e_neg, e_eqI, e_neI, e_eqB, e_eqT, e_eqL, e_neT, e_neL, e_cmp, e_is, e_isnot, e_ixL, e_ixT, e_lenL, e_lenT, e_tupL, e_tupT, e_lstL, e_lstT, e_int, e_intB, e_abs, e_sum, e_divmod, e_gcd, e_max, e_min, e_isi, e_cutL, e_cutT, m1, m2, m3, f]
theorem law_mul_spec {n d m e : Nat} {r s : Rat} (hr : RB n d r) (hs : RB m e s) (h1 : n + m ≤ 100000) (h3 : d + e ≤ 9000) : F__law_mul [enc r, enc s] = some (.v (enc (r * s))) := by
  have m1 : mulOk r.num s.num = true := mul_ok hr.num hs.num (by omega)
  have m3 : mulOk r.den s.den = true := mul_ok hr.den hs.den (by omega)
  have f := frac_spec (n := 0) (a := r.num * s.num) (den_mul_ne r s) (hr.den.mul hs.den) h3
  rw [← mul_divInt] at f
  simp only [enc] at f ⊢
  simp [F__law_mul, d__law_mul, dLoc, dCon, dNil, dCons, dOp, dTup, dLst, looks, look, frz, dCall, dCallV, dCallK, reord, sSeq2, sSkip, sExp, sRet, sRetN, sIf, sAsg, sAsgT, bVal, bTru, bNot, bAnd, bOr, bYes, dAnd, dOr, dNot, dIf, tName, gsNil, gsCons, gTupD, Dn.tSub, Dn.valOf, asB, ownAt, asI, isPin, sl, dCut, iOf, iNo, fin, endV, runP, runF, runV, runW, startR, startV, dEmp, dChain, res, truR, Dn.tru, itemsOf, sNone, sSeq, sRg1, sRg2, sZip, sEnum, sFor, dApp, dPop, sBrk, sCnt, isNone, atI0, atI1, atI2, ixN3_0, ixN3_1, ixN3_2, ixN2_0, ixN2_1, noPins, e_add, e_addT, e_addL, e_sub, e_mul, e_mulL, e_mulT, e_div, e_mod, e_neg, e_eqI, e_neI, e_eqB, e_eqT, e_eqL, e_neT, e_neL, e_cmp, e_is, e_isnot, e_ixL, e_ixT, e_lenL, e_lenT, e_tupL, e_tupT, e_lstL, e_lstT, e_int, e_intB, e_abs, e_sum, e_divmod, e_gcd, e_max, e_min, e_isi, e_cutL, e_cutT, m1, m3, f]
theorem common_part_spec (a b : Int) : F_common_part [.list [.int a, .int b]] = some (.v (.int (Nat.gcd a.natAbs b.natAbs : Nat))) := by
  simp [F_common_part, d_common_part, dLoc, dCon, dNil, dCons, dOp, dTup, dLst, looks, look, frz, dCall, dCallV, dCallK, reord, sSeq2, sSkip, sExp, sRet, sRetN, sIf, sAsg, sAsgT, bVal, bTru, bNot, bAnd, bOr, bYes, dAnd, dOr, dNot, dIf, tName, gsNil, gsCons, gTupD, Dn.tSub, Dn.valOf, asB, ownAt, asI, isPin, sl, dCut, iOf, iNo, fin, endV, runP, runF, runV, runW, startR, startV, dEmp, dChain, res, truR, Dn.tru, itemsOf, sNone, sSeq, sRg1, sRg2, sZip, sEnum, sFor, dApp, dPop, sBrk, sCnt, isNone, atI0, atI1, atI2, ixN3_0, ixN3_1, ixN3_2, ixN2_0, ixN2_1, noPins, e_add, e_addT, e_addL, e_sub, e_mul, e_mulL, e_mulT, e_div, e_mod, e_neg, e_eqI, e_neI, e_eqB, e_eqT, e_eqL, e_neT, e_neL, e_cmp, e_is, e_isnot, e_ixL, e_ixT, e_lenL, e_lenT, e_tupL, e_tupT, e_lstL, e_lstT, e_int, e_intB, e_abs, e_sum, e_divmod, e_gcd, e_max, e_min, e_isi, e_cutL, e_cutT, loopF]
theorem lowest_spec {d : Nat} {a b : Int} (h : 0 < b) (hb : Bd d b) (hd : d ≤ 9000) : F_lowest [.list [.int a, .int b]] = some (.v (enc (Rat.divInt a b))) := by
  have lp := low_pair (a := a) (b := b) (by omega) rfl
  rw [if_pos h] at lp
  have gp : (0 : Int) < (Nat.gcd a.natAbs b.natAbs : Nat) := by have := Nat.gcd_pos_of_pos_right (n := b.natAbs) a.natAbs (by omega); omega
  have gb : Bd d ((Nat.gcd a.natAbs b.natAbs : Nat) : Int) := hb.le (by have := Nat.gcd_le_right (n := b.natAbs) a.natAbs (by omega); simpa using this)
  have d1 : ∀ x : Int, divOk x ((Nat.gcd a.natAbs b.natAbs : Nat) : Int) = true := fun x => div_ok gb hd (by omega)
  simp [F_lowest, d_lowest, dLoc, dCon, dNil, dCons, dOp, dTup, dLst, looks, look, frz, dCall, dCallV, dCallK, reord, sSeq2, sSkip, sExp, sRet, sRetN, sIf, sAsg, sAsgT, bVal, bTru, bNot, bAnd, bOr, bYes, dAnd, dOr, dNot, dIf, tName, gsNil, gsCons, gTupD, Dn.tSub, Dn.valOf, asB, ownAt, asI, isPin, sl, dCut, iOf, iNo, fin, endV, runP, runF, runV, runW, startR, startV, dEmp, dChain, res, truR, Dn.tru, itemsOf, sNone, sSeq, sRg1, sRg2, sZip, sEnum, sFor, dApp, dPop, sBrk, sCnt, isNone, atI0, atI1, atI2, ixN3_0, ixN3_1, ixN3_2, ixN2_0, ixN2_1, noPins, e_add, e_addT, e_addL, e_sub, e_mul, e_mulL, e_mulT, e_div, e_mod, e_neg, e_eqI, e_neI, e_eqB, e_eqT, e_eqL, e_neT, e_neL, e_cmp, e_is, e_isnot, e_ixL, e_ixT, e_lenL, e_lenT, e_tupL, e_tupT, e_lstL, e_lstT, e_int, e_intB, e_abs, e_sum, e_divmod, e_gcd, e_max, e_min, e_isi, e_cutL, e_cutT, common_part_spec, dComp, loopC, wipeR, d1, lp.1, lp.2, enc]
theorem lowest_over_spec {n d : Nat} {a b : Int} (h : b ≠ 0) (ha : Bd n a) (hb : Bd d b) (hn : n ≤ 100000) (hd : d ≤ 9000) : F_lowest_over [.list [.int a], .int b] = some (.v (enc (Rat.divInt a b))) := by
  by_cases z : 0 < b
  · have m1 : mulOk 1 a = true := mul_ok (n := 1) (Bd.nat (by decide) (by decide)) ha (by omega)
    have m2 : mulOk 1 b = true := mul_ok (n := 1) (Bd.nat (by decide) (by decide)) hb (by omega)
    have l := lowest_spec (a := a) z hb hd
    simp [F_lowest_over, d_lowest_over, dLoc, dCon, dNil, dCons, dOp, dTup, dLst, looks, look, frz, dCall, dCallV, dCallK, reord, sSeq2, sSkip, sExp, sRet, sRetN, sIf, sAsg, sAsgT, bVal, bTru, bNot, bAnd, bOr, bYes, dAnd, dOr, dNot, dIf, tName, gsNil, gsCons, gTupD, Dn.tSub, Dn.valOf, asB, ownAt, asI, isPin, sl, dCut, iOf, iNo, fin, endV, runP, runF, runV, runW, startR, startV, dEmp, dChain, res, truR, Dn.tru, itemsOf, sNone, sSeq, sRg1, sRg2, sZip, sEnum, sFor, dApp, dPop, sBrk, sCnt, isNone, atI0, atI1, atI2, ixN3_0, ixN3_1, ixN3_2, ixN2_0, ixN2_1, noPins, e_add, e_addT, e_addL, e_sub, e_mul, e_mulL, e_mulT, e_div, e_mod, e_neg, e_eqI, e_neI, e_eqB, e_eqT, e_eqL, e_neT, e_neL, e_cmp, e_is, e_isnot, e_ixL, e_ixT, e_lenL, e_lenT, e_tupL, e_tupT, e_lstL, e_lstT, e_int, e_intB, e_abs, e_sum, e_divmod, e_gcd, e_max, e_min, e_isi, e_cutL, e_cutT, z, dComp, loopC, wipeR, m1, m2, l]
  · have m1 : mulOk (-1) a = true := mul_ok (n := 1) (by unfold Bd; decide) ha (by omega)
    have m2 : mulOk (-1) b = true := mul_ok (n := 1) (by unfold Bd; decide) hb (by omega)
    have l := lowest_spec (a := -a) (b := -b) (by omega) hb.neg hd
    rw [Rat.neg_divInt_neg] at l
    simp [F_lowest_over, d_lowest_over, dLoc, dCon, dNil, dCons, dOp, dTup, dLst, looks, look, frz, dCall, dCallV, dCallK, reord, sSeq2, sSkip, sExp, sRet, sRetN, sIf, sAsg, sAsgT, bVal, bTru, bNot, bAnd, bOr, bYes, dAnd, dOr, dNot, dIf, tName, gsNil, gsCons, gTupD, Dn.tSub, Dn.valOf, asB, ownAt, asI, isPin, sl, dCut, iOf, iNo, fin, endV, runP, runF, runV, runW, startR, startV, dEmp, dChain, res, truR, Dn.tru, itemsOf, sNone, sSeq, sRg1, sRg2, sZip, sEnum, sFor, dApp, dPop, sBrk, sCnt, isNone, atI0, atI1, atI2, ixN3_0, ixN3_1, ixN3_2, ixN2_0, ixN2_1, noPins, e_add, e_addT, e_addL, e_sub, e_mul, e_mulL, e_mulT, e_div, e_mod, e_neg, e_eqI, e_neI, e_eqB, e_eqT, e_eqL, e_neT, e_neL, e_cmp, e_is, e_isnot, e_ixL, e_ixT, e_lenL, e_lenT, e_tupL, e_tupT, e_lstL, e_lstT, e_int, e_intB, e_abs, e_sum, e_divmod, e_gcd, e_max, e_min, e_isi, e_cutL, e_cutT, z, dComp, loopC, wipeR, m1, m2, l]
theorem ratio_spec {n d : Nat} {a b : Int} (h : b ≠ 0) (ha : Bd n a) (hb : Bd d b) (hn : n ≤ 100000) (hd : d ≤ 9000) : F_ratio [.int a, .int b] = some (.v (enc (Rat.divInt a b))) := by
  simp [F_ratio, d_ratio, dLoc, dCon, dNil, dCons, dOp, dTup, dLst, looks, look, frz, dCall, dCallV, dCallK, reord, sSeq2, sSkip, sExp, sRet, sRetN, sIf, sAsg, sAsgT, bVal, bTru, bNot, bAnd, bOr, bYes, dAnd, dOr, dNot, dIf, tName, gsNil, gsCons, gTupD, Dn.tSub, Dn.valOf, asB, ownAt, asI, isPin, sl, dCut, iOf, iNo, fin, endV, runP, runF, runV, runW, startR, startV, dEmp, dChain, res, truR, Dn.tru, itemsOf, sNone, sSeq, sRg1, sRg2, sZip, sEnum, sFor, dApp, dPop, sBrk, sCnt, isNone, atI0, atI1, atI2, ixN3_0, ixN3_1, ixN3_2, ixN2_0, ixN2_1, noPins, e_add, e_addT, e_addL, e_sub, e_mul, e_mulL, e_mulT, e_div, e_mod, e_neg, e_eqI, e_neI, e_eqB, e_eqT, e_eqL, e_neT, e_neL, e_cmp, e_is, e_isnot, e_ixL, e_ixT, e_lenL, e_lenT, e_tupL, e_tupT, e_lstL, e_lstT, e_int, e_intB, e_abs, e_sum, e_divmod, e_gcd, e_max, e_min, e_isi, e_cutL, e_cutT, lowest_over_spec h ha hb hn hd]
theorem plus_spec {n d m e : Nat} {r s : Rat} (hr : RB n d r) (hs : RB m e s) (h1 : n + e ≤ 90000) (h2 : m + d ≤ 90000) (h3 : d + e ≤ 9000) : F_plus [enc r, enc s] = some (.v (enc (r + s))) := by
  have m1 : mulOk r.num s.den = true := mul_ok hr.num hs.den (by omega)
  have m2 : mulOk s.num r.den = true := mul_ok hs.num hr.den (by omega)
  have m3 : mulOk r.den s.den = true := mul_ok hr.den hs.den (by omega)
  have f := ratio_spec (a := r.num * s.den + s.num * r.den) (den_mul_ne r s) (((hr.num.mul hs.den).up (Nat.le_max_left _ _)).add ((hs.num.mul hr.den).up (Nat.le_max_right _ _))) (hr.den.mul hs.den) (by omega) h3
  rw [← add_divInt] at f
  simp only [enc] at f ⊢
  simp [F_plus, d_plus, dLoc, dCon, dNil, dCons, dOp, dTup, dLst, looks, look, frz, dCall, dCallV, dCallK, reord, sSeq2, sSkip, sExp, sRet, sRetN, sIf, sAsg, sAsgT, bVal, bTru, bNot, bAnd, bOr, bYes, dAnd, dOr, dNot, dIf, tName, gsNil, gsCons, gTupD, Dn.tSub, Dn.valOf, asB, ownAt, asI, isPin, sl, dCut, iOf, iNo, fin, endV, runP, runF, runV, runW, startR, startV, dEmp, dChain, res, truR, Dn.tru, itemsOf, sNone, sSeq, sRg1, sRg2, sZip, sEnum, sFor, dApp, dPop, sBrk, sCnt, isNone, atI0, atI1, atI2, ixN3_0, ixN3_1, ixN3_2, ixN2_0, ixN2_1, noPins, e_add, e_addT, e_addL, e_sub, e_mul, e_mulL, e_mulT, e_div, e_mod, e_neg, e_eqI, e_neI, e_eqB, e_eqT, e_eqL, e_neT, e_neL, e_cmp, e_is, e_isnot, e_ixL, e_ixT, e_lenL, e_lenT, e_tupL, e_tupT, e_lstL, e_lstT, e_int, e_intB, e_abs, e_sum, e_divmod, e_gcd, e_max, e_min, e_isi, e_cutL, e_cutT, m1, m2, m3, f]
theorem times_spec {n d m e : Nat} {r s : Rat} (hr : RB n d r) (hs : RB m e s) (h1 : n + m ≤ 90000) (h3 : d + e ≤ 9000) : F_times [enc r, enc s] = some (.v (enc (r * s))) := by
  have m1 : mulOk r.num s.num = true := mul_ok hr.num hs.num (by omega)
  have m3 : mulOk r.den s.den = true := mul_ok hr.den hs.den (by omega)
  have f := ratio_spec (a := r.num * s.num) (den_mul_ne r s) (hr.num.mul hs.num) (hr.den.mul hs.den) (by omega) h3
  rw [← mul_divInt] at f
  simp only [enc] at f ⊢
  simp [F_times, d_times, dLoc, dCon, dNil, dCons, dOp, dTup, dLst, looks, look, frz, dCall, dCallV, dCallK, reord, sSeq2, sSkip, sExp, sRet, sRetN, sIf, sAsg, sAsgT, bVal, bTru, bNot, bAnd, bOr, bYes, dAnd, dOr, dNot, dIf, tName, gsNil, gsCons, gTupD, Dn.tSub, Dn.valOf, asB, ownAt, asI, isPin, sl, dCut, iOf, iNo, fin, endV, runP, runF, runV, runW, startR, startV, dEmp, dChain, res, truR, Dn.tru, itemsOf, sNone, sSeq, sRg1, sRg2, sZip, sEnum, sFor, dApp, dPop, sBrk, sCnt, isNone, atI0, atI1, atI2, ixN3_0, ixN3_1, ixN3_2, ixN2_0, ixN2_1, noPins, e_add, e_addT, e_addL, e_sub, e_mul, e_mulL, e_mulT, e_div, e_mod, e_neg, e_eqI, e_neI, e_eqB, e_eqT, e_eqL, e_neT, e_neL, e_cmp, e_is, e_isnot, e_ixL, e_ixT, e_lenL, e_lenT, e_tupL, e_tupT, e_lstL, e_lstT, e_int, e_intB, e_abs, e_sum, e_divmod, e_gcd, e_max, e_min, e_isi, e_cutL, e_cutT, m1, m3, f]
end Pl

set_option Elab.async false
set_option linter.all false
set_option maxRecDepth 100000
set_option maxHeartbeats 4000000
namespace Pl
open PySem PySem.Spec PyProof.Rows L2 Dn

theorem loopC_map {α : Type} {vs : List Nat} {tgt : TGD} {cond : TB} {elt : TD} {ρ : Rho} {f : α → D} {g : α → Option D} : ∀ {l : List α} {acc : List D}, (∀ x ∈ l, stepC vs tgt cond elt (f x) ρ = some (g x, ρ)) → acc.length + l.length ≤ 1000000 →
    loopC vs tgt cond elt (l.map f) ρ acc = some (acc ++ l.filterMap g, ρ) := by
  intro l acc h hl
  -- items as pairs of place and value
  induction l generalizing acc with
  | nil => simp [loopC]
  | cons x l ih =>
    have h1 := h x List.mem_cons_self
    have one := loopC_ev (vs := vs) (tgt := tgt) (cond := cond) (elt := elt) (ρ := ρ) (g := fun _ => g x) (ds := [f x]) (acc := acc) (fun d hd => by rw [List.mem_singleton.mp hd]; exact h1) (by simp at hl ⊢; omega)
    have hl' : acc.length + l.length + 1 ≤ 1000000 := by simpa [Nat.add_assoc] using hl
    have cons_eq : ∀ (d : D) (ds : List D), loopC vs tgt cond elt (d :: ds) ρ acc = match loopC vs tgt cond elt [d] ρ acc with
        | some (a, ρ') => loopC vs tgt cond elt ds ρ' a
        | none => none := by
      intro d ds
      simp only [loopC]
      split <;> rename_i e1
      · split <;> rename_i e2
        · split <;> rename_i e3
          · split <;> rename_i e4
            · split <;> rfl
            · rfl
          · rfl
        · rfl
        · rfl
      · rfl
    rw [List.map_cons, cons_eq, one]
    simp only
    rw [ih (fun y hy => h y (List.mem_cons_of_mem _ hy)) (by
      cases g x <;> simp <;> omega)]
    cases hg : g x <;> simp [List.filterMap_cons, hg]
theorem dComp_map {α : Type} {vs : List Nat} {src : TSr} {tgt : TGD} {cond : TB} {elt : TD} {ρ ρ1 : Rho} {f : α → D} {g : α → Option D} {l : List α} (hs : src ρ = some (l.map f, ρ1)) (hp : noPins ρ1 vs = true) (hl : l.length ≤ 1000000) (h : ∀ x ∈ l, stepC vs tgt cond elt (f x) (wipeR ρ1 vs) = some (g x, wipeR ρ1 vs)) :
    dComp vs src tgt cond elt ρ = some (.o (l.filterMap g), wipeR ρ1 vs) := by
  unfold dComp
  rw [hs]
  simp only
  rw [hp, loopC_map h (by simpa using hl)]
  simp
theorem loopF_fold {α β : Type} {tgt : TGD} {body : TSD} {f : α → D} {S : β → Rho} {step : β → α → β} {ok : β → List α → Prop} (h : ∀ st x l, ok st (x :: l) → ∃ ρ1, tgt (.v (f x)) (S st) = some ρ1 ∧ body ρ1 = some (.nx (S (step st x))) ∧ ok (step st x) l) :
    ∀ (l : List α) (st : β), ok st l → loopF tgt body (l.map f) (S st) = some (.nx (S (l.foldl step st)))
  | [], st, _ => rfl
  | x :: l, st, i => by
    obtain ⟨ρ1, e1, e2, i2⟩ := h st x l i
    rw [List.map_cons, loopF]
    simp only [e1, e2]
    exact loopF_fold h l _ i2

/-! ### rows, tables -/
def row (l : List Rat) : D := .tuple (l.map enc)
def tab (t : List (List Rat)) : D := .tuple (t.map row)
def sumQ (l : List Rat) : Rat := l.foldl (· + ·) 0
def dotQ (x y : List Rat) : Rat := sumQ (List.zipWith (· * ·) x y)
theorem zipD_map (x y : List Rat) : zipD (x.map enc) (y.map enc) = (x.zip y).map fun p => .tuple [enc p.1, enc p.2] := by
  induction x generalizing y with
  | nil => rfl
  | cons a x ih => cases y with
    | nil => rfl
    | cons b y => simp [zipD, ih]
/-- a sum's bounds on the way -/
def SB (N D : Nat) (k : Nat) (acc : Rat) (l : List Rat) : Prop := ∃ i, i + l.length = k ∧ RB (N + D * i + i + 1) (1 + D * i) acc ∧ ∀ x ∈ l, RB N D x
theorem SB.step {N D k : Nat} {acc x : Rat} {l : List Rat} (h : SB N D k acc (x :: l)) : SB N D k (acc + x) l ∧ RB (N + D * k + k + 1) (1 + D * k) acc ∧ RB N D x := by
  obtain ⟨i, hi, ha, hl⟩ := h
  have hx := hl x List.mem_cons_self
  have hk : i + 1 + l.length = k := by rw [← hi, List.length_cons]; omega
  have li : D * i + D ≤ D * k := by
    have : D * (i + 1) ≤ D * k := Nat.mul_le_mul_left D (by omega)
    rw [Nat.mul_add] at this; omega
  have e : D * (i + 1) = D * i + D := by rw [Nat.mul_add]; omega
  refine ⟨⟨i + 1, hk, (ha.add hx).up ?_ ?_, fun y hy => hl y (List.mem_cons_of_mem _ hy)⟩, ha.up (by omega) (by omega), hx⟩
  · rw [e]; omega
  · rw [e]; omega
theorem SB.fin {N D k : Nat} : ∀ {l : List Rat} {acc : Rat}, SB N D k acc l → RB (N + D * k + k + 1) (1 + D * k) (l.foldl (· + ·) acc)
  | [], acc, ⟨i, hi, ha, _⟩ => by
    have : i = k := by simpa using hi
    subst this; exact ha
  | x :: l, acc, h => by rw [List.foldl_cons]; exact h.step.1.fin
theorem SB.start {N D : Nat} {l : List Rat} (h : ∀ x ∈ l, RB N D x) : SB N D l.length 0 l := ⟨0, by simp, RB.zero.up (by omega) (by omega), h⟩
theorem zipWith_zip {α β γ : Type} (f : α → β → γ) (x : List α) (y : List β) : List.zipWith f x y = (x.zip y).map fun p => f p.1 p.2 := by
  induction x generalizing y with
  | nil => rfl
  | cons a x ih => cases y with
    | nil => rfl
    | cons b y => simp [ih]
theorem fold_fst {σ : Type} {f : Rat → σ} (l : List Rat) (a : Rat) (o : σ) : (l.foldl (fun (st : Rat × σ) x => (st.1 + x, f x)) (a, o)).1 = l.foldl (· + ·) a := by
  induction l generalizing a o with
  | nil => rfl
  | cons x l ih => rw [List.foldl_cons, List.foldl_cons, ih]
theorem total_spec {N D : Nat} {l : List Rat} (h : ∀ x ∈ l, RB N D x) (hk : l.length ≤ 1000) (hN : N + D * l.length + l.length + D + 10 ≤ 9000) : F_total [.list (l.map enc)] = some (.v (enc (sumQ l))) ∧ RB (N + D * l.length + l.length + 1) (1 + D * l.length) (sumQ l) := by
  refine ⟨?_, (SB.start h).fin⟩
  have key := loopF_fold (tgt := tName 2) (body := sSeq2 (sAsg (dCall F_plus (dCons (dLoc 1) (dCons (dLoc 2) dNil))) (tName 1)) sSkip) (f := enc) (S := fun (st : Rat × Option PyData) => [some (.val (.list (l.map enc))), some (.val (enc st.1)), st.2.map Slot.val]) (step := fun st x => (st.1 + x, some (enc x)))
    (ok := fun st r => SB N D l.length st.1 r) (fun st x r i => by
      obtain ⟨h1, h2, h3⟩ := i.step
      refine ⟨[some (.val (.list (l.map enc))), some (.val (enc st.1)), some (.val (enc x))], by obtain ⟨a, o⟩ := st; cases o <;> simp [dLoc, dCon, dNil, dCons, dOp, dTup, dLst, looks, look, frz, dCall, dCallV, dCallK, reord, sSeq2, sSkip, sExp, sRet, sRetN, sIf, sAsg, sAsgT, bVal, bTru, bNot, bAnd, bOr, bYes, dAnd, dOr, dNot, dIf, tName, gsNil, gsCons, gTupD, Dn.tSub, Dn.valOf, asB, ownAt, asI, isPin, sl, dCut, iOf, iNo, fin, endV, runP, runF, runV, runW, startR, startV, dEmp, dChain, res, truR, Dn.tru, itemsOf, sNone, sSeq, sRg1, sRg2, sZip, sEnum, sFor, dApp, dPop, sBrk, sCnt, isNone, atI0, atI1, atI2, ixN3_0, ixN3_1, ixN3_2, ixN2_0, ixN2_1, noPins, e_add, e_addT, e_addL, e_sub, e_mul, e_mulL, e_mulT, e_div, e_mod, e_neg, e_eqI, e_neI, e_eqB, e_eqT, e_eqL, e_neT, e_neL, e_cmp, e_is, e_isnot, e_ixL, e_ixT, e_lenL, e_lenT, e_tupL, e_tupT, e_lstL, e_lstT, e_int, e_intB, e_abs, e_sum, e_divmod, e_gcd, e_max, e_min, e_isi, e_cutL, e_cutT], ?_, h1⟩
      have p := plus_spec h2 h3 (by omega) (by omega) (by omega)
      simp [dLoc, dCon, dNil, dCons, dOp, dTup, dLst, looks, look, frz, dCall, dCallV, dCallK, reord, sSeq2, sSkip, sExp, sRet, sRetN, sIf, sAsg, sAsgT, bVal, bTru, bNot, bAnd, bOr, bYes, dAnd, dOr, dNot, dIf, tName, gsNil, gsCons, gTupD, Dn.tSub, Dn.valOf, asB, ownAt, asI, isPin, sl, dCut, iOf, iNo, fin, endV, runP, runF, runV, runW, startR, startV, dEmp, dChain, res, truR, Dn.tru, itemsOf, sNone, sSeq, sRg1, sRg2, sZip, sEnum, sFor, dApp, dPop, sBrk, sCnt, isNone, atI0, atI1, atI2, ixN3_0, ixN3_1, ixN3_2, ixN2_0, ixN2_1, noPins, e_add, e_addT, e_addL, e_sub, e_mul, e_mulL, e_mulT, e_div, e_mod, e_neg, e_eqI, e_neI, e_eqB, e_eqT, e_eqL, e_neT, e_neL, e_cmp, e_is, e_isnot, e_ixL, e_ixT, e_lenL, e_lenT, e_tupL, e_tupT, e_lstL, e_lstT, e_int, e_intB, e_abs, e_sum, e_divmod, e_gcd, e_max, e_min, e_isi, e_cutL, e_cutT, p]) l (0, none) (SB.start h)
  simp only [dLoc, dCon, dNil, dCons, dOp, dTup, dLst, looks, look, frz, dCall, dCallV, dCallK, reord, sSeq2, sSkip, sExp, sRet, sRetN, sIf, sAsg, sAsgT, bVal, bTru, bNot, bAnd, bOr, bYes, dAnd, dOr, dNot, dIf, tName, gsNil, gsCons, gTupD, Dn.tSub, Dn.valOf, asB, ownAt, asI, isPin, sl, dCut, iOf, iNo, fin, endV, runP, runF, runV, runW, startR, startV, dEmp, dChain, res, truR, Dn.tru, itemsOf, sNone, sSeq, sRg1, sRg2, sZip, sEnum, sFor, dApp, dPop, sBrk, sCnt, isNone, atI0, atI1, atI2, ixN3_0, ixN3_1, ixN3_2, ixN2_0, ixN2_1, noPins, e_add, e_addT, e_addL, e_sub, e_mul, e_mulL, e_mulT, e_div, e_mod, e_neg, e_eqI, e_neI, e_eqB, e_eqT, e_eqL, e_neT, e_neL, e_cmp, e_is, e_isnot, e_ixL, e_ixT, e_lenL, e_lenT, e_tupL, e_tupT, e_lstL, e_lstT, e_int, e_intB, e_abs, e_sum, e_divmod, e_gcd, e_max, e_min, e_isi, e_cutL, e_cutT] at key
  have e0 : enc 0 = .tuple [.int 0, .int 1] := rfl
  rw [e0, Option.map_none] at key
  simp [F_total, d_total, dLoc, dCon, dNil, dCons, dOp, dTup, dLst, looks, look, frz, dCall, dCallV, dCallK, reord, sSeq2, sSkip, sExp, sRet, sRetN, sIf, sAsg, sAsgT, bVal, bTru, bNot, bAnd, bOr, bYes, dAnd, dOr, dNot, dIf, tName, gsNil, gsCons, gTupD, Dn.tSub, Dn.valOf, asB, ownAt, asI, isPin, sl, dCut, iOf, iNo, fin, endV, runP, runF, runV, runW, startR, startV, dEmp, dChain, res, truR, Dn.tru, itemsOf, sNone, sSeq, sRg1, sRg2, sZip, sEnum, sFor, dApp, dPop, sBrk, sCnt, isNone, atI0, atI1, atI2, ixN3_0, ixN3_1, ixN3_2, ixN2_0, ixN2_1, noPins, e_add, e_addT, e_addL, e_sub, e_mul, e_mulL, e_mulT, e_div, e_mod, e_neg, e_eqI, e_neI, e_eqB, e_eqT, e_eqL, e_neT, e_neL, e_cmp, e_is, e_isnot, e_ixL, e_ixT, e_lenL, e_lenT, e_tupL, e_tupT, e_lstL, e_lstT, e_int, e_intB, e_abs, e_sum, e_divmod, e_gcd, e_max, e_min, e_isi, e_cutL, e_cutT, key, fold_fst, sumQ]
theorem dot_spec {n d m e : Nat} {x y : List Rat} (hx : ∀ r ∈ x, RB n d r) (hy : ∀ r ∈ y, RB m e r) (hl : x.length = y.length) (hk : x.length ≤ 1000) (hN : (n + m) + (d + e) * x.length + x.length + (d + e) + 10 ≤ 9000) :
    F_dot [row x, row y] = some (.v (enc (dotQ x y))) ∧ RB ((n + m) + (d + e) * x.length + x.length + 1) (1 + (d + e) * x.length) (dotQ x y) := by
  have hz : (List.zipWith (· * ·) x y).length = x.length := by simp [hl]
  have t := total_spec (N := n + m) (D := d + e) (l := List.zipWith (· * ·) x y) (fun r hr => by
    rw [zipWith_zip] at hr
    obtain ⟨p, hp, rfl⟩ := List.mem_map.mp hr
    exact (hx p.1 (List.of_mem_zip hp).1).mul (hy p.2 (List.of_mem_zip hp).2)) (by omega) (by rw [hz]; exact hN)
  rw [hz] at t
  refine ⟨?_, t.2⟩
  have c := dComp_map (vs := [2, 3]) (src := sZip (dLoc 0) (dLoc 1)) (tgt := gTupD 2 (gsCons (tName 2) (gsCons (tName 3) gsNil))) (cond := bYes) (elt := dCall F_times (dCons (dLoc 2) (dCons (dLoc 3) dNil))) (ρ := [some (.val (row x)), some (.val (row y)), none, none])
    (ρ1 := [some (.val (row x)), some (.val (row y)), none, none]) (l := x.zip y) (f := fun p => .tuple [enc p.1, enc p.2]) (g := fun p => some (enc (p.1 * p.2))) (by simp [dLoc, dCon, dNil, dCons, dOp, dTup, dLst, looks, look, frz, dCall, dCallV, dCallK, reord, sSeq2, sSkip, sExp, sRet, sRetN, sIf, sAsg, sAsgT, bVal, bTru, bNot, bAnd, bOr, bYes, dAnd, dOr, dNot, dIf, tName, gsNil, gsCons, gTupD, Dn.tSub, Dn.valOf, asB, ownAt, asI, isPin, sl, dCut, iOf, iNo, fin, endV, runP, runF, runV, runW, startR, startV, dEmp, dChain, res, truR, Dn.tru, itemsOf, sNone, sSeq, sRg1, sRg2, sZip, sEnum, sFor, dApp, dPop, sBrk, sCnt, isNone, atI0, atI1, atI2, ixN3_0, ixN3_1, ixN3_2, ixN2_0, ixN2_1, noPins, e_add, e_addT, e_addL, e_sub, e_mul, e_mulL, e_mulT, e_div, e_mod, e_neg, e_eqI, e_neI, e_eqB, e_eqT, e_eqL, e_neT, e_neL, e_cmp, e_is, e_isnot, e_ixL, e_ixT, e_lenL, e_lenT, e_tupL, e_tupT, e_lstL, e_lstT, e_int, e_intB, e_abs, e_sum, e_divmod, e_gcd, e_max, e_min, e_isi, e_cutL, e_cutT, row, zipD_map]) (by simp [dLoc, dCon, dNil, dCons, dOp, dTup, dLst, looks, look, frz, dCall, dCallV, dCallK, reord, sSeq2, sSkip, sExp, sRet, sRetN, sIf, sAsg, sAsgT, bVal, bTru, bNot, bAnd, bOr, bYes, dAnd, dOr, dNot, dIf, tName, gsNil, gsCons, gTupD, Dn.tSub, Dn.valOf, asB, ownAt, asI, isPin, sl, dCut, iOf, iNo, fin, endV, runP, runF, runV, runW, startR, startV, dEmp, dChain, res, truR, Dn.tru, itemsOf, sNone, sSeq, sRg1, sRg2, sZip, sEnum, sFor, dApp, dPop, sBrk, sCnt, isNone, atI0, atI1, atI2, ixN3_0, ixN3_1, ixN3_2, ixN2_0, ixN2_1, noPins, e_add, e_addT, e_addL, e_sub, e_mul, e_mulL, e_mulT, e_div, e_mod, e_neg, e_eqI, e_neI, e_eqB, e_eqT, e_eqL, e_neT, e_neL, e_cmp, e_is, e_isnot, e_ixL, e_ixT, e_lenL, e_lenT, e_tupL, e_tupT, e_lstL, e_lstT, e_int, e_intB, e_abs, e_sum, e_divmod, e_gcd, e_max, e_min, e_isi, e_cutL, e_cutT]) (by simp; omega) (fun p hp => by
      have q := times_spec (hx p.1 (List.of_mem_zip hp).1) (hy p.2 (List.of_mem_zip hp).2) (by omega) (by omega)
      simp [stepC, dLoc, dCon, dNil, dCons, dOp, dTup, dLst, looks, look, frz, dCall, dCallV, dCallK, reord, sSeq2, sSkip, sExp, sRet, sRetN, sIf, sAsg, sAsgT, bVal, bTru, bNot, bAnd, bOr, bYes, dAnd, dOr, dNot, dIf, tName, gsNil, gsCons, gTupD, Dn.tSub, Dn.valOf, asB, ownAt, asI, isPin, sl, dCut, iOf, iNo, fin, endV, runP, runF, runV, runW, startR, startV, dEmp, dChain, res, truR, Dn.tru, itemsOf, sNone, sSeq, sRg1, sRg2, sZip, sEnum, sFor, dApp, dPop, sBrk, sCnt, isNone, atI0, atI1, atI2, ixN3_0, ixN3_1, ixN3_2, ixN2_0, ixN2_1, noPins, e_add, e_addT, e_addL, e_sub, e_mul, e_mulL, e_mulT, e_div, e_mod, e_neg, e_eqI, e_neI, e_eqB, e_eqT, e_eqL, e_neT, e_neL, e_cmp, e_is, e_isnot, e_ixL, e_ixT, e_lenL, e_lenT, e_tupL, e_tupT, e_lstL, e_lstT, e_int, e_intB, e_abs, e_sum, e_divmod, e_gcd, e_max, e_min, e_isi, e_cutL, e_cutT, wipeR, q])
  have e1 : (x.zip y).filterMap (fun p => some (enc (p.1 * p.2))) = (List.zipWith (· * ·) x y).map enc := by
    rw [filterMap_some, zipWith_zip, List.map_map]
    rfl
  rw [e1] at c
  simp [F_dot, d_dot, dLoc, dCon, dNil, dCons, dOp, dTup, dLst, looks, look, frz, dCall, dCallV, dCallK, reord, sSeq2, sSkip, sExp, sRet, sRetN, sIf, sAsg, sAsgT, bVal, bTru, bNot, bAnd, bOr, bYes, dAnd, dOr, dNot, dIf, tName, gsNil, gsCons, gTupD, Dn.tSub, Dn.valOf, asB, ownAt, asI, isPin, sl, dCut, iOf, iNo, fin, endV, runP, runF, runV, runW, startR, startV, dEmp, dChain, res, truR, Dn.tru, itemsOf, sNone, sSeq, sRg1, sRg2, sZip, sEnum, sFor, dApp, dPop, sBrk, sCnt, isNone, atI0, atI1, atI2, ixN3_0, ixN3_1, ixN3_2, ixN2_0, ixN2_1, noPins, e_add, e_addT, e_addL, e_sub, e_mul, e_mulL, e_mulT, e_div, e_mod, e_neg, e_eqI, e_neI, e_eqB, e_eqT, e_eqL, e_neT, e_neL, e_cmp, e_is, e_isnot, e_ixL, e_ixT, e_lenL, e_lenT, e_tupL, e_tupT, e_lstL, e_lstT, e_int, e_intB, e_abs, e_sum, e_divmod, e_gcd, e_max, e_min, e_isi, e_cutL, e_cutT, c, t.1, dotQ, wipeR, -List.map_zipWith]
end Pl

set_option Elab.async false
set_option linter.all false
set_option maxRecDepth 100000
set_option maxHeartbeats 4000000
namespace Pl
open PySem PySem.Spec PyProof.Rows L2 Dn

theorem rg_ok {n : Nat} (h : n ≤ 1000) : rgOk 0 (n : Int) = true := by unfold rgOk; simp; omega
theorem rg_map (n : Nat) : rgD 0 (n : Int) = (List.range n).map fun i => .int (i : Int) := by unfold rgD; simp
theorem zero_num {a : Rat} : a.num = 0 ↔ a = 0 := Rat.num_eq_zero
theorem law_dot_spec {n d m e : Nat} {x y : List Rat} (hx : ∀ r ∈ x, RB n d r) (hy : ∀ r ∈ y, RB m e r) (hl : x.length = y.length) (hk : x.length ≤ 1000) (hN : (n + m) + (d + e) * x.length + x.length + (d + e) + 10 ≤ 9000) :
    F__law_dot [row x, row y] = some (.v (enc (dotQ x y))) := by
  have hz : (x.zip y).length = x.length := by simp [hl]
  have key := loopF_fold (tgt := gTupD 2 (gsCons (tName 3) (gsCons (tName 4) gsNil))) (body := (sSeq2 (sIf (bAnd (bVal (dOp pNe (dCons (dOp pIx (dCons (dLoc 3) (dCons (dCon (.int 0)) dNil))) (dCons (dCon (.int 0)) dNil)))) (bVal (dOp pNe (dCons (dOp pIx (dCons (dLoc 4) (dCons (dCon (.int 0)) dNil))) (dCons (dCon (.int 0)) dNil))))) (sSeq2 (sAsg (dCall F__law_add (dCons (dLoc 2) (dCons (dCall F__law_mul (dCons (dLoc 3) (dCons (dLoc 4) dNil))) dNil))) (tName 2)) sSkip) sSkip) sSkip))
    (f := fun p : Rat × Rat => .tuple [enc p.1, enc p.2]) (S := fun (st : Rat × Option (Rat × Rat)) => [some (.val (row x)), some (.val (row y)), some (.val (enc st.1)), st.2.map fun p => .val (enc p.1), st.2.map fun p => .val (enc p.2)]) (step := fun st p => (st.1 + p.1 * p.2, some p))
    (ok := fun st r => SB (n + m) (d + e) x.length st.1 (r.map fun p => p.1 * p.2) ∧ ∀ p ∈ r, RB n d p.1 ∧ RB m e p.2) (fun st p r i => by
      obtain ⟨i1, i2⟩ := i
      rw [List.map_cons] at i1
      obtain ⟨h1, h2, h3⟩ := i1.step
      obtain ⟨p1, p2⟩ := i2 p List.mem_cons_self
      refine ⟨[some (.val (row x)), some (.val (row y)), some (.val (enc st.1)), some (.val (enc p.1)), some (.val (enc p.2))], by obtain ⟨a, o⟩ := st; cases o <;> simp [dLoc, dCon, dNil, dCons, dOp, dTup, dLst, looks, look, frz, dCall, dCallV, dCallK, reord, sSeq2, sSkip, sExp, sRet, sRetN, sIf, sAsg, sAsgT, bVal, bTru, bNot, bAnd, bOr, bYes, dAnd, dOr, dNot, dIf, tName, gsNil, gsCons, gTupD, Dn.tSub, Dn.valOf, asB, ownAt, asI, isPin, sl, dCut, iOf, iNo, fin, endV, runP, runF, runV, runW, startR, startV, dEmp, dChain, res, truR, Dn.tru, itemsOf, sNone, sSeq, sRg1, sRg2, sZip, sEnum, sFor, dApp, dPop, sBrk, sCnt, isNone, atI0, atI1, atI2, ixN3_0, ixN3_1, ixN3_2, ixN2_0, ixN2_1, noPins, e_add, e_addT, e_addL, e_sub, e_mul, e_mulL, e_mulT, e_div, e_mod, e_neg, e_eqI, e_neI, e_eqB, e_eqT, e_eqL, e_neT, e_neL, e_cmp, e_is, e_isnot, e_ixL, e_ixT, e_lenL, e_lenT, e_tupL, e_tupT, e_lstL, e_lstT, e_int, e_intB, e_abs, e_sum, e_divmod, e_gcd, e_max, e_min, e_isi, e_cutL, e_cutT], ?_, h1, fun q hq => i2 q (List.mem_cons_of_mem _ hq)⟩
      have q1 := law_mul_spec p1 p2 (by omega) (by omega)
      have q2 := law_add_spec h2 h3 (by omega) (by omega) (by omega)
      have ix1 : ∀ r : Rat, pIx [enc r, .int 0] = some (.v (.int r.num)) := fun r => by simp [enc, dLoc, dCon, dNil, dCons, dOp, dTup, dLst, looks, look, frz, dCall, dCallV, dCallK, reord, sSeq2, sSkip, sExp, sRet, sRetN, sIf, sAsg, sAsgT, bVal, bTru, bNot, bAnd, bOr, bYes, dAnd, dOr, dNot, dIf, tName, gsNil, gsCons, gTupD, Dn.tSub, Dn.valOf, asB, ownAt, asI, isPin, sl, dCut, iOf, iNo, fin, endV, runP, runF, runV, runW, startR, startV, dEmp, dChain, res, truR, Dn.tru, itemsOf, sNone, sSeq, sRg1, sRg2, sZip, sEnum, sFor, dApp, dPop, sBrk, sCnt, isNone, atI0, atI1, atI2, ixN3_0, ixN3_1, ixN3_2, ixN2_0, ixN2_1, noPins, e_add, e_addT, e_addL, e_sub, e_mul, e_mulL, e_mulT, e_div, e_mod, e_neg, e_eqI, e_neI, e_eqB, e_eqT, e_eqL, e_neT, e_neL, e_cmp, e_is, e_isnot, e_ixL, e_ixT, e_lenL, e_lenT, e_tupL, e_tupT, e_lstL, e_lstT, e_int, e_intB, e_abs, e_sum, e_divmod, e_gcd, e_max, e_min, e_isi, e_cutL, e_cutT]
      by_cases z1 : p.1 = 0
      · simp [dLoc, dCon, dNil, dCons, dOp, dTup, dLst, looks, look, frz, dCall, dCallV, dCallK, reord, sSeq2, sSkip, sExp, sRet, sRetN, sIf, sAsg, sAsgT, bVal, bTru, bNot, bAnd, bOr, bYes, dAnd, dOr, dNot, dIf, tName, gsNil, gsCons, gTupD, Dn.tSub, Dn.valOf, asB, ownAt, asI, isPin, sl, dCut, iOf, iNo, fin, endV, runP, runF, runV, runW, startR, startV, dEmp, dChain, res, truR, Dn.tru, itemsOf, sNone, sSeq, sRg1, sRg2, sZip, sEnum, sFor, dApp, dPop, sBrk, sCnt, isNone, atI0, atI1, atI2, ixN3_0, ixN3_1, ixN3_2, ixN2_0, ixN2_1, noPins, e_add, e_addT, e_addL, e_sub, e_mul, e_mulL, e_mulT, e_div, e_mod, e_neg, e_eqI, e_neI, e_eqB, e_eqT, e_eqL, e_neT, e_neL, e_cmp, e_is, e_isnot, e_ixL, e_ixT, e_lenL, e_lenT, e_tupL, e_tupT, e_lstL, e_lstT, e_int, e_intB, e_abs, e_sum, e_divmod, e_gcd, e_max, e_min, e_isi, e_cutL, e_cutT, ix1, z1, show (0 : Rat).num = 0 from rfl, Rat.zero_mul, Rat.add_zero]
      · have n1 : (p.1.num == 0) = false := by simpa using fun z => z1 (zero_num.mp z)
        by_cases z2 : p.2 = 0
        · simp [dLoc, dCon, dNil, dCons, dOp, dTup, dLst, looks, look, frz, dCall, dCallV, dCallK, reord, sSeq2, sSkip, sExp, sRet, sRetN, sIf, sAsg, sAsgT, bVal, bTru, bNot, bAnd, bOr, bYes, dAnd, dOr, dNot, dIf, tName, gsNil, gsCons, gTupD, Dn.tSub, Dn.valOf, asB, ownAt, asI, isPin, sl, dCut, iOf, iNo, fin, endV, runP, runF, runV, runW, startR, startV, dEmp, dChain, res, truR, Dn.tru, itemsOf, sNone, sSeq, sRg1, sRg2, sZip, sEnum, sFor, dApp, dPop, sBrk, sCnt, isNone, atI0, atI1, atI2, ixN3_0, ixN3_1, ixN3_2, ixN2_0, ixN2_1, noPins, e_add, e_addT, e_addL, e_sub, e_mul, e_mulL, e_mulT, e_div, e_mod, e_neg, e_eqI, e_neI, e_eqB, e_eqT, e_eqL, e_neT, e_neL, e_cmp, e_is, e_isnot, e_ixL, e_ixT, e_lenL, e_lenT, e_tupL, e_tupT, e_lstL, e_lstT, e_int, e_intB, e_abs, e_sum, e_divmod, e_gcd, e_max, e_min, e_isi, e_cutL, e_cutT, ix1, z2, n1, show (0 : Rat).num = 0 from rfl, Rat.mul_zero, Rat.add_zero]
        · have n2 : (p.2.num == 0) = false := by simpa using fun z => z2 (zero_num.mp z)
          simp [dLoc, dCon, dNil, dCons, dOp, dTup, dLst, looks, look, frz, dCall, dCallV, dCallK, reord, sSeq2, sSkip, sExp, sRet, sRetN, sIf, sAsg, sAsgT, bVal, bTru, bNot, bAnd, bOr, bYes, dAnd, dOr, dNot, dIf, tName, gsNil, gsCons, gTupD, Dn.tSub, Dn.valOf, asB, ownAt, asI, isPin, sl, dCut, iOf, iNo, fin, endV, runP, runF, runV, runW, startR, startV, dEmp, dChain, res, truR, Dn.tru, itemsOf, sNone, sSeq, sRg1, sRg2, sZip, sEnum, sFor, dApp, dPop, sBrk, sCnt, isNone, atI0, atI1, atI2, ixN3_0, ixN3_1, ixN3_2, ixN2_0, ixN2_1, noPins, e_add, e_addT, e_addL, e_sub, e_mul, e_mulL, e_mulT, e_div, e_mod, e_neg, e_eqI, e_neI, e_eqB, e_eqT, e_eqL, e_neT, e_neL, e_cmp, e_is, e_isnot, e_ixL, e_ixT, e_lenL, e_lenT, e_tupL, e_tupT, e_lstL, e_lstT, e_int, e_intB, e_abs, e_sum, e_divmod, e_gcd, e_max, e_min, e_isi, e_cutL, e_cutT, ix1, n1, n2, q1, q2]) (x.zip y) (0, none) ⟨by
      have s := SB.start (N := n + m) (D := d + e) (l := (x.zip y).map fun p => p.1 * p.2) (fun r hr => by
        obtain ⟨p, hp, rfl⟩ := List.mem_map.mp hr
        exact (hx p.1 (List.of_mem_zip hp).1).mul (hy p.2 (List.of_mem_zip hp).2))
      rw [List.length_map, hz] at s
      exact s, fun p hp => ⟨hx p.1 (List.of_mem_zip hp).1, hy p.2 (List.of_mem_zip hp).2⟩⟩
  have e0 : enc 0 = .tuple [.int 0, .int 1] := rfl
  rw [e0, Option.map_none, Option.map_none] at key
  have ef : ∀ (l : List (Rat × Rat)) (a : Rat) (o : Option (Rat × Rat)), (l.foldl (fun (st : Rat × Option (Rat × Rat)) p => (st.1 + p.1 * p.2, some p)) (a, o)).1 = (l.map fun p => p.1 * p.2).foldl (· + ·) a := by
    intro l
    induction l with
    | nil => intro a o; rfl
    | cons p l ih => intro a o; rw [List.foldl_cons, List.map_cons, List.foldl_cons, ih]
  have es : dotQ x y = ((x.zip y).map fun p => p.1 * p.2).foldl (· + ·) 0 := by rw [dotQ, sumQ, zipWith_zip]
  rw [← zipD_map] at key
  have hr : row x = .tuple (x.map enc) := rfl
  have hr2 : row y = .tuple (y.map enc) := rfl
  rw [hr, hr2] at key ⊢
  simp [F__law_dot, d__law_dot, dLoc, dCon, dNil, dCons, dOp, dTup, dLst, looks, look, frz, dCall, dCallV, dCallK, reord, sSeq2, sSkip, sExp, sRet, sRetN, sIf, sAsg, sAsgT, bVal, bTru, bNot, bAnd, bOr, bYes, dAnd, dOr, dNot, dIf, tName, gsNil, gsCons, gTupD, Dn.tSub, Dn.valOf, asB, ownAt, asI, isPin, sl, dCut, iOf, iNo, fin, endV, runP, runF, runV, runW, startR, startV, dEmp, dChain, res, truR, Dn.tru, itemsOf, sNone, sSeq, sRg1, sRg2, sZip, sEnum, sFor, dApp, dPop, sBrk, sCnt, isNone, atI0, atI1, atI2, ixN3_0, ixN3_1, ixN3_2, ixN2_0, ixN2_1, noPins, e_add, e_addT, e_addL, e_sub, e_mul, e_mulL, e_mulT, e_div, e_mod, e_neg, e_eqI, e_neI, e_eqB, e_eqT, e_eqL, e_neT, e_neL, e_cmp, e_is, e_isnot, e_ixL, e_ixT, e_lenL, e_lenT, e_tupL, e_tupT, e_lstL, e_lstT, e_int, e_intB, e_abs, e_sum, e_divmod, e_gcd, e_max, e_min, e_isi, e_cutL, e_cutT, key, ef, es, -List.map_zipWith]
def flipQ (n : Nat) (t : List (List Rat)) : List (List Rat) := (List.range n).map fun k => t.map fun r => r.getD k 0
theorem col_get {r : List Rat} {k : Nat} (h : k < r.length) : atI (r.map enc) (k : Int) = some (enc (r.getD k 0)) := by
  rw [atI_at rfl, List.getElem?_map, List.getElem?_eq_getElem h]; simp [List.getD, h]
theorem flip_inner {t : List (List Rat)} {n k : Nat} (h1 : t.length ≤ 1000) (hr : ∀ r ∈ t, r.length = n) (hk : k < n) :
    dComp [2] (sSeq (dLoc 0)) (tName 2) bYes (dOp pIx (dCons (dLoc 2) (dCons (dLoc 1) dNil))) [some (.val (tab t)), some (.val (.int (k : Int))), none] = some (.o (t.map fun r => enc (r.getD k 0)), [some (.val (tab t)), some (.val (.int (k : Int))), none]) := by
  have c := dComp_map (vs := [2]) (src := sSeq (dLoc 0)) (tgt := tName 2) (cond := bYes) (elt := dOp pIx (dCons (dLoc 2) (dCons (dLoc 1) dNil))) (ρ := [some (.val (tab t)), some (.val (.int (k : Int))), none]) (ρ1 := [some (.val (tab t)), some (.val (.int (k : Int))), none]) (l := t) (f := row) (g := fun r => some (enc (r.getD k 0)))
    (by simp [dLoc, dCon, dNil, dCons, dOp, dTup, dLst, looks, look, frz, dCall, dCallV, dCallK, reord, sSeq2, sSkip, sExp, sRet, sRetN, sIf, sAsg, sAsgT, bVal, bTru, bNot, bAnd, bOr, bYes, dAnd, dOr, dNot, dIf, tName, gsNil, gsCons, gTupD, Dn.tSub, Dn.valOf, asB, ownAt, asI, isPin, sl, dCut, iOf, iNo, fin, endV, runP, runF, runV, runW, startR, startV, dEmp, dChain, res, truR, Dn.tru, itemsOf, sNone, sSeq, sRg1, sRg2, sZip, sEnum, sFor, dApp, dPop, sBrk, sCnt, isNone, atI0, atI1, atI2, ixN3_0, ixN3_1, ixN3_2, ixN2_0, ixN2_1, noPins, e_add, e_addT, e_addL, e_sub, e_mul, e_mulL, e_mulT, e_div, e_mod, e_neg, e_eqI, e_neI, e_eqB, e_eqT, e_eqL, e_neT, e_neL, e_cmp, e_is, e_isnot, e_ixL, e_ixT, e_lenL, e_lenT, e_tupL, e_tupT, e_lstL, e_lstT, e_int, e_intB, e_abs, e_sum, e_divmod, e_gcd, e_max, e_min, e_isi, e_cutL, e_cutT, tab]) (by simp [dLoc, dCon, dNil, dCons, dOp, dTup, dLst, looks, look, frz, dCall, dCallV, dCallK, reord, sSeq2, sSkip, sExp, sRet, sRetN, sIf, sAsg, sAsgT, bVal, bTru, bNot, bAnd, bOr, bYes, dAnd, dOr, dNot, dIf, tName, gsNil, gsCons, gTupD, Dn.tSub, Dn.valOf, asB, ownAt, asI, isPin, sl, dCut, iOf, iNo, fin, endV, runP, runF, runV, runW, startR, startV, dEmp, dChain, res, truR, Dn.tru, itemsOf, sNone, sSeq, sRg1, sRg2, sZip, sEnum, sFor, dApp, dPop, sBrk, sCnt, isNone, atI0, atI1, atI2, ixN3_0, ixN3_1, ixN3_2, ixN2_0, ixN2_1, noPins, e_add, e_addT, e_addL, e_sub, e_mul, e_mulL, e_mulT, e_div, e_mod, e_neg, e_eqI, e_neI, e_eqB, e_eqT, e_eqL, e_neT, e_neL, e_cmp, e_is, e_isnot, e_ixL, e_ixT, e_lenL, e_lenT, e_tupL, e_tupT, e_lstL, e_lstT, e_int, e_intB, e_abs, e_sum, e_divmod, e_gcd, e_max, e_min, e_isi, e_cutL, e_cutT]) (by omega) (fun r hm => by
      have q := col_get (r := r) (k := k) (by rw [hr r hm]; exact hk)
      simp [stepC, dLoc, dCon, dNil, dCons, dOp, dTup, dLst, looks, look, frz, dCall, dCallV, dCallK, reord, sSeq2, sSkip, sExp, sRet, sRetN, sIf, sAsg, sAsgT, bVal, bTru, bNot, bAnd, bOr, bYes, dAnd, dOr, dNot, dIf, tName, gsNil, gsCons, gTupD, Dn.tSub, Dn.valOf, asB, ownAt, asI, isPin, sl, dCut, iOf, iNo, fin, endV, runP, runF, runV, runW, startR, startV, dEmp, dChain, res, truR, Dn.tru, itemsOf, sNone, sSeq, sRg1, sRg2, sZip, sEnum, sFor, dApp, dPop, sBrk, sCnt, isNone, atI0, atI1, atI2, ixN3_0, ixN3_1, ixN3_2, ixN2_0, ixN2_1, noPins, e_add, e_addT, e_addL, e_sub, e_mul, e_mulL, e_mulT, e_div, e_mod, e_neg, e_eqI, e_neI, e_eqB, e_eqT, e_eqL, e_neT, e_neL, e_cmp, e_is, e_isnot, e_ixL, e_ixT, e_lenL, e_lenT, e_tupL, e_tupT, e_lstL, e_lstT, e_int, e_intB, e_abs, e_sum, e_divmod, e_gcd, e_max, e_min, e_isi, e_cutL, e_cutT, wipeR, row, q])
  rw [filterMap_some] at c
  simpa [wipeR] using c
theorem turned_of_spec {t : List (List Rat)} {n : Nat} (h0 : t ≠ []) (h1 : t.length ≤ 1000) (hn : n ≤ 1000) (hr : ∀ r ∈ t, r.length = n) : F_turned_of [tab t] = some (.v (tab (flipQ n t))) := by
  obtain ⟨r0, t', rfl⟩ : ∃ r0 t', t = r0 :: t' := by cases t with
    | nil => exact absurd rfl h0
    | cons a b => exact ⟨a, b, rfl⟩
  have e0 : pIx [tab (r0 :: t'), .int 0] = some (.v (row r0)) := by simp [tab, dLoc, dCon, dNil, dCons, dOp, dTup, dLst, looks, look, frz, dCall, dCallV, dCallK, reord, sSeq2, sSkip, sExp, sRet, sRetN, sIf, sAsg, sAsgT, bVal, bTru, bNot, bAnd, bOr, bYes, dAnd, dOr, dNot, dIf, tName, gsNil, gsCons, gTupD, Dn.tSub, Dn.valOf, asB, ownAt, asI, isPin, sl, dCut, iOf, iNo, fin, endV, runP, runF, runV, runW, startR, startV, dEmp, dChain, res, truR, Dn.tru, itemsOf, sNone, sSeq, sRg1, sRg2, sZip, sEnum, sFor, dApp, dPop, sBrk, sCnt, isNone, atI0, atI1, atI2, ixN3_0, ixN3_1, ixN3_2, ixN2_0, ixN2_1, noPins, e_add, e_addT, e_addL, e_sub, e_mul, e_mulL, e_mulT, e_div, e_mod, e_neg, e_eqI, e_neI, e_eqB, e_eqT, e_eqL, e_neT, e_neL, e_cmp, e_is, e_isnot, e_ixL, e_ixT, e_lenL, e_lenT, e_tupL, e_tupT, e_lstL, e_lstT, e_int, e_intB, e_abs, e_sum, e_divmod, e_gcd, e_max, e_min, e_isi, e_cutL, e_cutT]
  have el : pLen [row r0] = some (.v (.int (n : Int))) := by simp [row, dLoc, dCon, dNil, dCons, dOp, dTup, dLst, looks, look, frz, dCall, dCallV, dCallK, reord, sSeq2, sSkip, sExp, sRet, sRetN, sIf, sAsg, sAsgT, bVal, bTru, bNot, bAnd, bOr, bYes, dAnd, dOr, dNot, dIf, tName, gsNil, gsCons, gTupD, Dn.tSub, Dn.valOf, asB, ownAt, asI, isPin, sl, dCut, iOf, iNo, fin, endV, runP, runF, runV, runW, startR, startV, dEmp, dChain, res, truR, Dn.tru, itemsOf, sNone, sSeq, sRg1, sRg2, sZip, sEnum, sFor, dApp, dPop, sBrk, sCnt, isNone, atI0, atI1, atI2, ixN3_0, ixN3_1, ixN3_2, ixN2_0, ixN2_1, noPins, e_add, e_addT, e_addL, e_sub, e_mul, e_mulL, e_mulT, e_div, e_mod, e_neg, e_eqI, e_neI, e_eqB, e_eqT, e_eqL, e_neT, e_neL, e_cmp, e_is, e_isnot, e_ixL, e_ixT, e_lenL, e_lenT, e_tupL, e_tupT, e_lstL, e_lstT, e_int, e_intB, e_abs, e_sum, e_divmod, e_gcd, e_max, e_min, e_isi, e_cutL, e_cutT, hr r0 List.mem_cons_self]
  have c := dComp_map (vs := [1]) (src := sRg1 (dOp pLen (dCons (dOp pIx (dCons (dLoc 0) (dCons (dCon (.int 0)) dNil))) dNil))) (tgt := tName 1) (cond := bYes) (elt := dOp pTuple (dCons (dComp [2] (sSeq (dLoc 0)) (tName 2) bYes (dOp pIx (dCons (dLoc 2) (dCons (dLoc 1) dNil)))) dNil)) (ρ := [some (.val (tab (r0 :: t'))), none, none]) (ρ1 := [some (.val (tab (r0 :: t'))), none, none])
    (l := List.range n) (f := fun (k : Nat) => .int (k : Int)) (g := fun (k : Nat) => some (row ((r0 :: t').map fun r => r.getD k 0))) (by simp [dLoc, dCon, dNil, dCons, dOp, dTup, dLst, looks, look, frz, dCall, dCallV, dCallK, reord, sSeq2, sSkip, sExp, sRet, sRetN, sIf, sAsg, sAsgT, bVal, bTru, bNot, bAnd, bOr, bYes, dAnd, dOr, dNot, dIf, tName, gsNil, gsCons, gTupD, Dn.tSub, Dn.valOf, asB, ownAt, asI, isPin, sl, dCut, iOf, iNo, fin, endV, runP, runF, runV, runW, startR, startV, dEmp, dChain, res, truR, Dn.tru, itemsOf, sNone, sSeq, sRg1, sRg2, sZip, sEnum, sFor, dApp, dPop, sBrk, sCnt, isNone, atI0, atI1, atI2, ixN3_0, ixN3_1, ixN3_2, ixN2_0, ixN2_1, noPins, e_add, e_addT, e_addL, e_sub, e_mul, e_mulL, e_mulT, e_div, e_mod, e_neg, e_eqI, e_neI, e_eqB, e_eqT, e_eqL, e_neT, e_neL, e_cmp, e_is, e_isnot, e_ixL, e_ixT, e_lenL, e_lenT, e_tupL, e_tupT, e_lstL, e_lstT, e_int, e_intB, e_abs, e_sum, e_divmod, e_gcd, e_max, e_min, e_isi, e_cutL, e_cutT, e0, el, rg_ok hn, rg_map]) (by simp [dLoc, dCon, dNil, dCons, dOp, dTup, dLst, looks, look, frz, dCall, dCallV, dCallK, reord, sSeq2, sSkip, sExp, sRet, sRetN, sIf, sAsg, sAsgT, bVal, bTru, bNot, bAnd, bOr, bYes, dAnd, dOr, dNot, dIf, tName, gsNil, gsCons, gTupD, Dn.tSub, Dn.valOf, asB, ownAt, asI, isPin, sl, dCut, iOf, iNo, fin, endV, runP, runF, runV, runW, startR, startV, dEmp, dChain, res, truR, Dn.tru, itemsOf, sNone, sSeq, sRg1, sRg2, sZip, sEnum, sFor, dApp, dPop, sBrk, sCnt, isNone, atI0, atI1, atI2, ixN3_0, ixN3_1, ixN3_2, ixN2_0, ixN2_1, noPins, e_add, e_addT, e_addL, e_sub, e_mul, e_mulL, e_mulT, e_div, e_mod, e_neg, e_eqI, e_neI, e_eqB, e_eqT, e_eqL, e_neT, e_neL, e_cmp, e_is, e_isnot, e_ixL, e_ixT, e_lenL, e_lenT, e_tupL, e_tupT, e_lstL, e_lstT, e_int, e_intB, e_abs, e_sum, e_divmod, e_gcd, e_max, e_min, e_isi, e_cutL, e_cutT]) (by simp; omega) (fun k hk => by
      have q := flip_inner (t := r0 :: t') (n := n) (k := k) h1 hr (List.mem_range.mp hk)
      simp [stepC, dLoc, dCon, dNil, dCons, dOp, dTup, dLst, looks, look, frz, dCall, dCallV, dCallK, reord, sSeq2, sSkip, sExp, sRet, sRetN, sIf, sAsg, sAsgT, bVal, bTru, bNot, bAnd, bOr, bYes, dAnd, dOr, dNot, dIf, tName, gsNil, gsCons, gTupD, Dn.tSub, Dn.valOf, asB, ownAt, asI, isPin, sl, dCut, iOf, iNo, fin, endV, runP, runF, runV, runW, startR, startV, dEmp, dChain, res, truR, Dn.tru, itemsOf, sNone, sSeq, sRg1, sRg2, sZip, sEnum, sFor, dApp, dPop, sBrk, sCnt, isNone, atI0, atI1, atI2, ixN3_0, ixN3_1, ixN3_2, ixN2_0, ixN2_1, noPins, e_add, e_addT, e_addL, e_sub, e_mul, e_mulL, e_mulT, e_div, e_mod, e_neg, e_eqI, e_neI, e_eqB, e_eqT, e_eqL, e_neT, e_neL, e_cmp, e_is, e_isnot, e_ixL, e_ixT, e_lenL, e_lenT, e_tupL, e_tupT, e_lstL, e_lstT, e_int, e_intB, e_abs, e_sum, e_divmod, e_gcd, e_max, e_min, e_isi, e_cutL, e_cutT, q, wipeR, row, Function.comp_def])
  rw [filterMap_some] at c
  have ee : (List.range n).map (fun k => row ((r0 :: t').map fun r => r.getD k 0)) = (flipQ n (r0 :: t')).map row := by simp [flipQ]
  rw [ee] at c
  simp [F_turned_of, d_turned_of, dLoc, dCon, dNil, dCons, dOp, dTup, dLst, looks, look, frz, dCall, dCallV, dCallK, reord, sSeq2, sSkip, sExp, sRet, sRetN, sIf, sAsg, sAsgT, bVal, bTru, bNot, bAnd, bOr, bYes, dAnd, dOr, dNot, dIf, tName, gsNil, gsCons, gTupD, Dn.tSub, Dn.valOf, asB, ownAt, asI, isPin, sl, dCut, iOf, iNo, fin, endV, runP, runF, runV, runW, startR, startV, dEmp, dChain, res, truR, Dn.tru, itemsOf, sNone, sSeq, sRg1, sRg2, sZip, sEnum, sFor, dApp, dPop, sBrk, sCnt, isNone, atI0, atI1, atI2, ixN3_0, ixN3_1, ixN3_2, ixN2_0, ixN2_1, noPins, e_add, e_addT, e_addL, e_sub, e_mul, e_mulL, e_mulT, e_div, e_mod, e_neg, e_eqI, e_neI, e_eqB, e_eqT, e_eqL, e_neT, e_neL, e_cmp, e_is, e_isnot, e_ixL, e_ixT, e_lenL, e_lenT, e_tupL, e_tupT, e_lstL, e_lstT, e_int, e_intB, e_abs, e_sum, e_divmod, e_gcd, e_max, e_min, e_isi, e_cutL, e_cutT, c, wipeR]
  rfl
theorem law_flip_spec {t : List (List Rat)} {n : Nat} (h1 : t.length = n) (hn : n ≤ 1000) (hr : ∀ r ∈ t, r.length = n) : F__law_flip [tab t] = some (.v (tab (flipQ n t))) := by
  have el : pLen [tab t] = some (.v (.int (n : Int))) := by simp [tab, dLoc, dCon, dNil, dCons, dOp, dTup, dLst, looks, look, frz, dCall, dCallV, dCallK, reord, sSeq2, sSkip, sExp, sRet, sRetN, sIf, sAsg, sAsgT, bVal, bTru, bNot, bAnd, bOr, bYes, dAnd, dOr, dNot, dIf, tName, gsNil, gsCons, gTupD, Dn.tSub, Dn.valOf, asB, ownAt, asI, isPin, sl, dCut, iOf, iNo, fin, endV, runP, runF, runV, runW, startR, startV, dEmp, dChain, res, truR, Dn.tru, itemsOf, sNone, sSeq, sRg1, sRg2, sZip, sEnum, sFor, dApp, dPop, sBrk, sCnt, isNone, atI0, atI1, atI2, ixN3_0, ixN3_1, ixN3_2, ixN2_0, ixN2_1, noPins, e_add, e_addT, e_addL, e_sub, e_mul, e_mulL, e_mulT, e_div, e_mod, e_neg, e_eqI, e_neI, e_eqB, e_eqT, e_eqL, e_neT, e_neL, e_cmp, e_is, e_isnot, e_ixL, e_ixT, e_lenL, e_lenT, e_tupL, e_tupT, e_lstL, e_lstT, e_int, e_intB, e_abs, e_sum, e_divmod, e_gcd, e_max, e_min, e_isi, e_cutL, e_cutT, h1]
  have c := dComp_map (vs := [1]) (src := sRg1 (dOp pLen (dCons (dLoc 0) dNil))) (tgt := tName 1) (cond := bYes) (elt := dOp pTuple (dCons (dComp [2] (sSeq (dLoc 0)) (tName 2) bYes (dOp pIx (dCons (dLoc 2) (dCons (dLoc 1) dNil)))) dNil)) (ρ := [some (.val (tab t)), none, none]) (ρ1 := [some (.val (tab t)), none, none])
    (l := List.range n) (f := fun (k : Nat) => .int (k : Int)) (g := fun (k : Nat) => some (row (t.map fun r => r.getD k 0))) (by simp [dLoc, dCon, dNil, dCons, dOp, dTup, dLst, looks, look, frz, dCall, dCallV, dCallK, reord, sSeq2, sSkip, sExp, sRet, sRetN, sIf, sAsg, sAsgT, bVal, bTru, bNot, bAnd, bOr, bYes, dAnd, dOr, dNot, dIf, tName, gsNil, gsCons, gTupD, Dn.tSub, Dn.valOf, asB, ownAt, asI, isPin, sl, dCut, iOf, iNo, fin, endV, runP, runF, runV, runW, startR, startV, dEmp, dChain, res, truR, Dn.tru, itemsOf, sNone, sSeq, sRg1, sRg2, sZip, sEnum, sFor, dApp, dPop, sBrk, sCnt, isNone, atI0, atI1, atI2, ixN3_0, ixN3_1, ixN3_2, ixN2_0, ixN2_1, noPins, e_add, e_addT, e_addL, e_sub, e_mul, e_mulL, e_mulT, e_div, e_mod, e_neg, e_eqI, e_neI, e_eqB, e_eqT, e_eqL, e_neT, e_neL, e_cmp, e_is, e_isnot, e_ixL, e_ixT, e_lenL, e_lenT, e_tupL, e_tupT, e_lstL, e_lstT, e_int, e_intB, e_abs, e_sum, e_divmod, e_gcd, e_max, e_min, e_isi, e_cutL, e_cutT, el, rg_ok hn, rg_map]) (by simp [dLoc, dCon, dNil, dCons, dOp, dTup, dLst, looks, look, frz, dCall, dCallV, dCallK, reord, sSeq2, sSkip, sExp, sRet, sRetN, sIf, sAsg, sAsgT, bVal, bTru, bNot, bAnd, bOr, bYes, dAnd, dOr, dNot, dIf, tName, gsNil, gsCons, gTupD, Dn.tSub, Dn.valOf, asB, ownAt, asI, isPin, sl, dCut, iOf, iNo, fin, endV, runP, runF, runV, runW, startR, startV, dEmp, dChain, res, truR, Dn.tru, itemsOf, sNone, sSeq, sRg1, sRg2, sZip, sEnum, sFor, dApp, dPop, sBrk, sCnt, isNone, atI0, atI1, atI2, ixN3_0, ixN3_1, ixN3_2, ixN2_0, ixN2_1, noPins, e_add, e_addT, e_addL, e_sub, e_mul, e_mulL, e_mulT, e_div, e_mod, e_neg, e_eqI, e_neI, e_eqB, e_eqT, e_eqL, e_neT, e_neL, e_cmp, e_is, e_isnot, e_ixL, e_ixT, e_lenL, e_lenT, e_tupL, e_tupT, e_lstL, e_lstT, e_int, e_intB, e_abs, e_sum, e_divmod, e_gcd, e_max, e_min, e_isi, e_cutL, e_cutT]) (by simp; omega) (fun k hk => by
      have q := flip_inner (t := t) (n := n) (k := k) (by omega) hr (List.mem_range.mp hk)
      simp [stepC, dLoc, dCon, dNil, dCons, dOp, dTup, dLst, looks, look, frz, dCall, dCallV, dCallK, reord, sSeq2, sSkip, sExp, sRet, sRetN, sIf, sAsg, sAsgT, bVal, bTru, bNot, bAnd, bOr, bYes, dAnd, dOr, dNot, dIf, tName, gsNil, gsCons, gTupD, Dn.tSub, Dn.valOf, asB, ownAt, asI, isPin, sl, dCut, iOf, iNo, fin, endV, runP, runF, runV, runW, startR, startV, dEmp, dChain, res, truR, Dn.tru, itemsOf, sNone, sSeq, sRg1, sRg2, sZip, sEnum, sFor, dApp, dPop, sBrk, sCnt, isNone, atI0, atI1, atI2, ixN3_0, ixN3_1, ixN3_2, ixN2_0, ixN2_1, noPins, e_add, e_addT, e_addL, e_sub, e_mul, e_mulL, e_mulT, e_div, e_mod, e_neg, e_eqI, e_neI, e_eqB, e_eqT, e_eqL, e_neT, e_neL, e_cmp, e_is, e_isnot, e_ixL, e_ixT, e_lenL, e_lenT, e_tupL, e_tupT, e_lstL, e_lstT, e_int, e_intB, e_abs, e_sum, e_divmod, e_gcd, e_max, e_min, e_isi, e_cutL, e_cutT, q, wipeR, row, Function.comp_def])
  rw [filterMap_some] at c
  have ee : (List.range n).map (fun k => row (t.map fun r => r.getD k 0)) = (flipQ n t).map row := by simp [flipQ]
  rw [ee] at c
  simp [F__law_flip, d__law_flip, dLoc, dCon, dNil, dCons, dOp, dTup, dLst, looks, look, frz, dCall, dCallV, dCallK, reord, sSeq2, sSkip, sExp, sRet, sRetN, sIf, sAsg, sAsgT, bVal, bTru, bNot, bAnd, bOr, bYes, dAnd, dOr, dNot, dIf, tName, gsNil, gsCons, gTupD, Dn.tSub, Dn.valOf, asB, ownAt, asI, isPin, sl, dCut, iOf, iNo, fin, endV, runP, runF, runV, runW, startR, startV, dEmp, dChain, res, truR, Dn.tru, itemsOf, sNone, sSeq, sRg1, sRg2, sZip, sEnum, sFor, dApp, dPop, sBrk, sCnt, isNone, atI0, atI1, atI2, ixN3_0, ixN3_1, ixN3_2, ixN2_0, ixN2_1, noPins, e_add, e_addT, e_addL, e_sub, e_mul, e_mulL, e_mulT, e_div, e_mod, e_neg, e_eqI, e_neI, e_eqB, e_eqT, e_eqL, e_neT, e_neL, e_cmp, e_is, e_isnot, e_ixL, e_ixT, e_lenL, e_lenT, e_tupL, e_tupT, e_lstL, e_lstT, e_int, e_intB, e_abs, e_sum, e_divmod, e_gcd, e_max, e_min, e_isi, e_cutL, e_cutT, c, wipeR]
  rfl
end Pl

set_option Elab.async false
set_option linter.all false
set_option maxRecDepth 100000
set_option maxHeartbeats 4000000
namespace Pl
open PySem PySem.Spec PyProof.Rows L2 Dn

/-! ### what is a table -/
def isI : D → Bool
  | .int _ => true
  | _ => false
def isFr : D → Bool
  | .tuple [.int a, .int b] => decide (0 < b) && (Nat.gcd a.natAbs b.natAbs == 1)
  | _ => false
def isRow (n : Nat) : D → Bool
  | .tuple ds => ds.length == n && ds.all isFr
  | _ => false
def isTab : D → Bool
  | .tuple ds => decide (1 ≤ ds.length) && decide (ds.length ≤ 5) && ds.all (isRow ds.length)
  | _ => false
/-- whole numbers of at most n figures, tuples of at most L things, F deep -/
def OKD (n L : Nat) : Nat → D → Prop
  | _, .int i => Bd n i
  | F + 1, .tuple ds => ds.length ≤ L ∧ ∀ d ∈ ds, OKD n L F d
  | 0, .tuple _ => False
  | _, _ => True
theorem OKD.tup {n L F : Nat} {ds : List D} (h : OKD n L F (.tuple ds)) : ds.length ≤ L ∧ ∃ G, F = G + 1 ∧ ∀ d ∈ ds, OKD n L G d := by
  cases F with
  | zero => exact h.elim
  | succ G => exact ⟨h.1, G, rfl, h.2⟩
theorem OKD.int {n L F : Nat} {i : Int} (h : OKD n L F (.int i)) : Bd n i := by cases F <;> exact h
theorem is_whole_spec (d : D) : F_is_whole [d] = some (.v (.bool (isI d))) := by
  cases d <;> simp [F_is_whole, d_is_whole, dLoc, dCon, dNil, dCons, dOp, dTup, dLst, looks, look, frz, dCall, dCallV, dCallK, reord, sSeq2, sSkip, sExp, sRet, sRetN, sIf, sAsg, sAsgT, bVal, bTru, bNot, bAnd, bOr, bYes, dAnd, dOr, dNot, dIf, tName, gsNil, gsCons, gTupD, Dn.tSub, Dn.valOf, asB, ownAt, asI, isPin, sl, dCut, iOf, iNo, fin, endV, runP, runF, runV, runW, startR, startV, dEmp, dChain, res, truR, Dn.tru, itemsOf, sNone, sSeq, sRg1, sRg2, sZip, sEnum, sFor, dApp, dPop, sBrk, sCnt, isNone, atI0, atI1, atI2, ixN3_0, ixN3_1, ixN3_2, ixN2_0, ixN2_1, noPins, e_add, e_addT, e_addL, e_sub, e_mul, e_mulL, e_mulT, e_div, e_mod, e_neg, e_eqI, e_neI, e_eqB, e_eqT, e_eqL, e_neT, e_neL, e_cmp, e_is, e_isnot, e_ixL, e_ixT, e_lenL, e_lenT, e_tupL, e_tupT, e_lstL, e_lstT, e_int, e_intB, e_abs, e_sum, e_divmod, e_gcd, e_max, e_min, e_isi, e_cutL, e_cutT, isTy, isTyN, tyName, isI]
theorem law_is_whole_spec (d : D) : F__law_is_whole [d] = some (.v (.bool (isI d))) := by
  cases d <;> simp [F__law_is_whole, d__law_is_whole, dLoc, dCon, dNil, dCons, dOp, dTup, dLst, looks, look, frz, dCall, dCallV, dCallK, reord, sSeq2, sSkip, sExp, sRet, sRetN, sIf, sAsg, sAsgT, bVal, bTru, bNot, bAnd, bOr, bYes, dAnd, dOr, dNot, dIf, tName, gsNil, gsCons, gTupD, Dn.tSub, Dn.valOf, asB, ownAt, asI, isPin, sl, dCut, iOf, iNo, fin, endV, runP, runF, runV, runW, startR, startV, dEmp, dChain, res, truR, Dn.tru, itemsOf, sNone, sSeq, sRg1, sRg2, sZip, sEnum, sFor, dApp, dPop, sBrk, sCnt, isNone, atI0, atI1, atI2, ixN3_0, ixN3_1, ixN3_2, ixN2_0, ixN2_1, noPins, e_add, e_addT, e_addL, e_sub, e_mul, e_mulL, e_mulT, e_div, e_mod, e_neg, e_eqI, e_neI, e_eqB, e_eqT, e_eqL, e_neT, e_neL, e_cmp, e_is, e_isnot, e_ixL, e_ixT, e_lenL, e_lenT, e_tupL, e_tupT, e_lstL, e_lstT, e_int, e_intB, e_abs, e_sum, e_divmod, e_gcd, e_max, e_min, e_isi, e_cutL, e_cutT, isTy, isTyN, tyName, isI]
theorem tup_or (d : D) : (∃ ds, d = .tuple ds) ∨ ((∀ ds, d ≠ .tuple ds) ∧ isTy "tuple" d = false) := by
  cases d <;> first | exact .inl ⟨_, rfl⟩ | exact .inr (And.intro (fun _ h => nomatch h) rfl)
theorem isTy_tup (ds : List D) : isTy "tuple" (.tuple ds) = true := rfl
theorem filter_empty {α : Type} {p : α → Bool} (l : List α) : (l.filter fun x => !p x).isEmpty = l.all p := by
  induction l with
  | nil => rfl
  | cons x l ih => by_cases h : p x <;> simp [List.filter_cons, h, ih]
/-- [each for each in value if not P(each)] -/
theorem comp_not {C : List D → Option R} {p : D → Bool} {ds : List D} {ρ : Rho} {i j : Nat} {e : D} (hρ : ρ = [some (.val (.tuple ds)), some (.val e), none]) (hl : ds.length ≤ 1000000) (h : ∀ d ∈ ds, C [d] = some (.v (.bool (p d)))) :
    dComp [2] (sSeq (dLoc 0)) (tName 2) (bNot (bTru (dCall C (dCons (dLoc 2) dNil)))) (dLoc 2) ρ = some (.o (ds.filter fun d => !p d), ρ) := by
  subst hρ
  have c := dComp_map (vs := [2]) (src := sSeq (dLoc 0)) (tgt := tName 2) (cond := bNot (bTru (dCall C (dCons (dLoc 2) dNil)))) (elt := dLoc 2) (ρ := [some (.val (.tuple ds)), some (.val e), none]) (ρ1 := [some (.val (.tuple ds)), some (.val e), none]) (l := ds) (f := id) (g := fun d => if !p d then some d else none)
    (by simp [dLoc, dCon, dNil, dCons, dOp, dTup, dLst, looks, look, frz, dCall, dCallV, dCallK, reord, sSeq2, sSkip, sExp, sRet, sRetN, sIf, sAsg, sAsgT, bVal, bTru, bNot, bAnd, bOr, bYes, dAnd, dOr, dNot, dIf, tName, gsNil, gsCons, gTupD, Dn.tSub, Dn.valOf, asB, ownAt, asI, isPin, sl, dCut, iOf, iNo, fin, endV, runP, runF, runV, runW, startR, startV, dEmp, dChain, res, truR, Dn.tru, itemsOf, sNone, sSeq, sRg1, sRg2, sZip, sEnum, sFor, dApp, dPop, sBrk, sCnt, isNone, atI0, atI1, atI2, ixN3_0, ixN3_1, ixN3_2, ixN2_0, ixN2_1, noPins, e_add, e_addT, e_addL, e_sub, e_mul, e_mulL, e_mulT, e_div, e_mod, e_neg, e_eqI, e_neI, e_eqB, e_eqT, e_eqL, e_neT, e_neL, e_cmp, e_is, e_isnot, e_ixL, e_ixT, e_lenL, e_lenT, e_tupL, e_tupT, e_lstL, e_lstT, e_int, e_intB, e_abs, e_sum, e_divmod, e_gcd, e_max, e_min, e_isi, e_cutL, e_cutT]) (by simp [dLoc, dCon, dNil, dCons, dOp, dTup, dLst, looks, look, frz, dCall, dCallV, dCallK, reord, sSeq2, sSkip, sExp, sRet, sRetN, sIf, sAsg, sAsgT, bVal, bTru, bNot, bAnd, bOr, bYes, dAnd, dOr, dNot, dIf, tName, gsNil, gsCons, gTupD, Dn.tSub, Dn.valOf, asB, ownAt, asI, isPin, sl, dCut, iOf, iNo, fin, endV, runP, runF, runV, runW, startR, startV, dEmp, dChain, res, truR, Dn.tru, itemsOf, sNone, sSeq, sRg1, sRg2, sZip, sEnum, sFor, dApp, dPop, sBrk, sCnt, isNone, atI0, atI1, atI2, ixN3_0, ixN3_1, ixN3_2, ixN2_0, ixN2_1, noPins, e_add, e_addT, e_addL, e_sub, e_mul, e_mulL, e_mulT, e_div, e_mod, e_neg, e_eqI, e_neI, e_eqB, e_eqT, e_eqL, e_neT, e_neL, e_cmp, e_is, e_isnot, e_ixL, e_ixT, e_lenL, e_lenT, e_tupL, e_tupT, e_lstL, e_lstT, e_int, e_intB, e_abs, e_sum, e_divmod, e_gcd, e_max, e_min, e_isi, e_cutL, e_cutT]) hl (fun d hd => by
      have q := h d hd
      cases hp : p d <;> simp [stepC, dLoc, dCon, dNil, dCons, dOp, dTup, dLst, looks, look, frz, dCall, dCallV, dCallK, reord, sSeq2, sSkip, sExp, sRet, sRetN, sIf, sAsg, sAsgT, bVal, bTru, bNot, bAnd, bOr, bYes, dAnd, dOr, dNot, dIf, tName, gsNil, gsCons, gTupD, Dn.tSub, Dn.valOf, asB, ownAt, asI, isPin, sl, dCut, iOf, iNo, fin, endV, runP, runF, runV, runW, startR, startV, dEmp, dChain, res, truR, Dn.tru, itemsOf, sNone, sSeq, sRg1, sRg2, sZip, sEnum, sFor, dApp, dPop, sBrk, sCnt, isNone, atI0, atI1, atI2, ixN3_0, ixN3_1, ixN3_2, ixN2_0, ixN2_1, noPins, e_add, e_addT, e_addL, e_sub, e_mul, e_mulL, e_mulT, e_div, e_mod, e_neg, e_eqI, e_neI, e_eqB, e_eqT, e_eqL, e_neT, e_neL, e_cmp, e_is, e_isnot, e_ixL, e_ixT, e_lenL, e_lenT, e_tupL, e_tupT, e_lstL, e_lstT, e_int, e_intB, e_abs, e_sum, e_divmod, e_gcd, e_max, e_min, e_isi, e_cutL, e_cutT, wipeR, q, hp])
  rw [filterMap_if] at c
  simpa [wipeR] using c
theorem are_wholes_spec {d : D} {m : Int} (hl : ∀ ds, d = .tuple ds → ds.length ≤ 1000) : F_are_wholes [d, .int m] = some (.v (.bool (match d with | .tuple ds => ((ds.length : Int) == m) && ds.all isI | _ => false))) := by
  rcases tup_or d with ⟨ds, rfl⟩ | ⟨h, h2⟩
  · have c := comp_not (C := F_is_whole) (p := isI) (ds := ds) (e := .int m) (i := 0) (j := 0) rfl (by have := hl ds rfl; omega) (fun d _ => is_whole_spec d)
    by_cases z : (ds.length : Int) == m
    · simp [F_are_wholes, d_are_wholes, dLoc, dCon, dNil, dCons, dOp, dTup, dLst, looks, look, frz, dCall, dCallV, dCallK, reord, sSeq2, sSkip, sExp, sRet, sRetN, sIf, sAsg, sAsgT, bVal, bTru, bNot, bAnd, bOr, bYes, dAnd, dOr, dNot, dIf, tName, gsNil, gsCons, gTupD, Dn.tSub, Dn.valOf, asB, ownAt, asI, isPin, sl, dCut, iOf, iNo, fin, endV, runP, runF, runV, runW, startR, startV, dEmp, dChain, res, truR, Dn.tru, itemsOf, sNone, sSeq, sRg1, sRg2, sZip, sEnum, sFor, dApp, dPop, sBrk, sCnt, isNone, atI0, atI1, atI2, ixN3_0, ixN3_1, ixN3_2, ixN2_0, ixN2_1, noPins, e_add, e_addT, e_addL, e_sub, e_mul, e_mulL, e_mulT, e_div, e_mod, e_neg, e_eqI, e_neI, e_eqB, e_eqT, e_eqL, e_neT, e_neL, e_cmp, e_is, e_isnot, e_ixL, e_ixT, e_lenL, e_lenT, e_tupL, e_tupT, e_lstL, e_lstT, e_int, e_intB, e_abs, e_sum, e_divmod, e_gcd, e_max, e_min, e_isi, e_cutL, e_cutT, isTy_tup, z, c, filter_empty]
    · simp [F_are_wholes, d_are_wholes, dLoc, dCon, dNil, dCons, dOp, dTup, dLst, looks, look, frz, dCall, dCallV, dCallK, reord, sSeq2, sSkip, sExp, sRet, sRetN, sIf, sAsg, sAsgT, bVal, bTru, bNot, bAnd, bOr, bYes, dAnd, dOr, dNot, dIf, tName, gsNil, gsCons, gTupD, Dn.tSub, Dn.valOf, asB, ownAt, asI, isPin, sl, dCut, iOf, iNo, fin, endV, runP, runF, runV, runW, startR, startV, dEmp, dChain, res, truR, Dn.tru, itemsOf, sNone, sSeq, sRg1, sRg2, sZip, sEnum, sFor, dApp, dPop, sBrk, sCnt, isNone, atI0, atI1, atI2, ixN3_0, ixN3_1, ixN3_2, ixN2_0, ixN2_1, noPins, e_add, e_addT, e_addL, e_sub, e_mul, e_mulL, e_mulT, e_div, e_mod, e_neg, e_eqI, e_neI, e_eqB, e_eqT, e_eqL, e_neT, e_neL, e_cmp, e_is, e_isnot, e_ixL, e_ixT, e_lenL, e_lenT, e_tupL, e_tupT, e_lstL, e_lstT, e_int, e_intB, e_abs, e_sum, e_divmod, e_gcd, e_max, e_min, e_isi, e_cutL, e_cutT, isTy_tup, z]
  · cases d <;> first | (exact absurd rfl (h _)) | simp [F_are_wholes, d_are_wholes, dLoc, dCon, dNil, dCons, dOp, dTup, dLst, looks, look, frz, dCall, dCallV, dCallK, reord, sSeq2, sSkip, sExp, sRet, sRetN, sIf, sAsg, sAsgT, bVal, bTru, bNot, bAnd, bOr, bYes, dAnd, dOr, dNot, dIf, tName, gsNil, gsCons, gTupD, Dn.tSub, Dn.valOf, asB, ownAt, asI, isPin, sl, dCut, iOf, iNo, fin, endV, runP, runF, runV, runW, startR, startV, dEmp, dChain, res, truR, Dn.tru, itemsOf, sNone, sSeq, sRg1, sRg2, sZip, sEnum, sFor, dApp, dPop, sBrk, sCnt, isNone, atI0, atI1, atI2, ixN3_0, ixN3_1, ixN3_2, ixN2_0, ixN2_1, noPins, e_add, e_addT, e_addL, e_sub, e_mul, e_mulL, e_mulT, e_div, e_mod, e_neg, e_eqI, e_neI, e_eqB, e_eqT, e_eqL, e_neT, e_neL, e_cmp, e_is, e_isnot, e_ixL, e_ixT, e_lenL, e_lenT, e_tupL, e_tupT, e_lstL, e_lstT, e_int, e_intB, e_abs, e_sum, e_divmod, e_gcd, e_max, e_min, e_isi, e_cutL, e_cutT, h2]
theorem two_ints {ds : List D} (h1 : ds.length = 2) (h2 : ds.all isI = true) : ∃ a b, ds = [.int a, .int b] := by
  match ds, h1 with
  | [x, y], _ =>
    simp only [List.all_cons, List.all_nil, Bool.and_true, Bool.and_eq_true] at h2
    cases x <;> cases y <;> first | exact ⟨_, _, rfl⟩ | (simp [isI] at h2)
theorem is_fr_not {ds : List D} (h : ¬ (ds.length = 2 ∧ ds.all isI = true)) : isFr (.tuple ds) = false := by
  match ds, h with
  | [], _ => rfl
  | [x], _ => cases x <;> rfl
  | [.int a, .int b], h => exact absurd ⟨rfl, rfl⟩ h
  | [x, y], h => cases x <;> cases y <;> first | rfl | exact absurd ⟨rfl, rfl⟩ h
  | x :: y :: z :: r, _ => cases x <;> cases y <;> rfl
theorem is_fraction_spec {d : D} (hl : ∀ ds, d = .tuple ds → ds.length ≤ 1000) : F_is_fraction [d] = some (.v (.bool (isFr d))) := by
  have w := are_wholes_spec (m := 2) hl
  rcases tup_or d with ⟨ds, rfl⟩ | ⟨h, h2⟩
  · by_cases z : ds.length = 2 ∧ ds.all isI = true
    · obtain ⟨a, b, rfl⟩ := two_ints z.1 z.2
      simp only [List.length_cons, List.length_nil] at w
      have w' : F_are_wholes [.tuple [.int a, .int b], .int 2] = some (.v (.bool true)) := by rw [w]; rfl
      by_cases hb : 0 < b
      · have e : ∀ g : Nat, ((g : Int) == 1) = (g == 1) := fun g => by rw [Bool.eq_iff_iff]; simp; omega
        simp [F_is_fraction, d_is_fraction, dLoc, dCon, dNil, dCons, dOp, dTup, dLst, looks, look, frz, dCall, dCallV, dCallK, reord, sSeq2, sSkip, sExp, sRet, sRetN, sIf, sAsg, sAsgT, bVal, bTru, bNot, bAnd, bOr, bYes, dAnd, dOr, dNot, dIf, tName, gsNil, gsCons, gTupD, Dn.tSub, Dn.valOf, asB, ownAt, asI, isPin, sl, dCut, iOf, iNo, fin, endV, runP, runF, runV, runW, startR, startV, dEmp, dChain, res, truR, Dn.tru, itemsOf, sNone, sSeq, sRg1, sRg2, sZip, sEnum, sFor, dApp, dPop, sBrk, sCnt, isNone, atI0, atI1, atI2, ixN3_0, ixN3_1, ixN3_2, ixN2_0, ixN2_1, noPins, e_add, e_addT, e_addL, e_sub, e_mul, e_mulL, e_mulT, e_div, e_mod, e_neg, e_eqI, e_neI, e_eqB, e_eqT, e_eqL, e_neT, e_neL, e_cmp, e_is, e_isnot, e_ixL, e_ixT, e_lenL, e_lenT, e_tupL, e_tupT, e_lstL, e_lstT, e_int, e_intB, e_abs, e_sum, e_divmod, e_gcd, e_max, e_min, e_isi, e_cutL, e_cutT, w', hb, isFr, e]
      · simp [F_is_fraction, d_is_fraction, dLoc, dCon, dNil, dCons, dOp, dTup, dLst, looks, look, frz, dCall, dCallV, dCallK, reord, sSeq2, sSkip, sExp, sRet, sRetN, sIf, sAsg, sAsgT, bVal, bTru, bNot, bAnd, bOr, bYes, dAnd, dOr, dNot, dIf, tName, gsNil, gsCons, gTupD, Dn.tSub, Dn.valOf, asB, ownAt, asI, isPin, sl, dCut, iOf, iNo, fin, endV, runP, runF, runV, runW, startR, startV, dEmp, dChain, res, truR, Dn.tru, itemsOf, sNone, sSeq, sRg1, sRg2, sZip, sEnum, sFor, dApp, dPop, sBrk, sCnt, isNone, atI0, atI1, atI2, ixN3_0, ixN3_1, ixN3_2, ixN2_0, ixN2_1, noPins, e_add, e_addT, e_addL, e_sub, e_mul, e_mulL, e_mulT, e_div, e_mod, e_neg, e_eqI, e_neI, e_eqB, e_eqT, e_eqL, e_neT, e_neL, e_cmp, e_is, e_isnot, e_ixL, e_ixT, e_lenL, e_lenT, e_tupL, e_tupT, e_lstL, e_lstT, e_int, e_intB, e_abs, e_sum, e_divmod, e_gcd, e_max, e_min, e_isi, e_cutL, e_cutT, w', hb, isFr]
    · have w' : F_are_wholes [.tuple ds, .int 2] = some (.v (.bool false)) := by
        rw [w]
        simp only [Option.some.injEq, R.v.injEq, PyData.bool.injEq, Bool.and_eq_false_iff]
        by_cases q : ds.length = 2
        · refine .inr ?_
          cases t : ds.all isI with
          | false => rfl
          | true => exact absurd ⟨q, t⟩ z
        · exact .inl (by simp; omega)
      simp [F_is_fraction, d_is_fraction, dLoc, dCon, dNil, dCons, dOp, dTup, dLst, looks, look, frz, dCall, dCallV, dCallK, reord, sSeq2, sSkip, sExp, sRet, sRetN, sIf, sAsg, sAsgT, bVal, bTru, bNot, bAnd, bOr, bYes, dAnd, dOr, dNot, dIf, tName, gsNil, gsCons, gTupD, Dn.tSub, Dn.valOf, asB, ownAt, asI, isPin, sl, dCut, iOf, iNo, fin, endV, runP, runF, runV, runW, startR, startV, dEmp, dChain, res, truR, Dn.tru, itemsOf, sNone, sSeq, sRg1, sRg2, sZip, sEnum, sFor, dApp, dPop, sBrk, sCnt, isNone, atI0, atI1, atI2, ixN3_0, ixN3_1, ixN3_2, ixN2_0, ixN2_1, noPins, e_add, e_addT, e_addL, e_sub, e_mul, e_mulL, e_mulT, e_div, e_mod, e_neg, e_eqI, e_neI, e_eqB, e_eqT, e_eqL, e_neT, e_neL, e_cmp, e_is, e_isnot, e_ixL, e_ixT, e_lenL, e_lenT, e_tupL, e_tupT, e_lstL, e_lstT, e_int, e_intB, e_abs, e_sum, e_divmod, e_gcd, e_max, e_min, e_isi, e_cutL, e_cutT, w', is_fr_not z]
  · cases d <;> first | (exact absurd rfl (h _)) | simp [F_is_fraction, d_is_fraction, dLoc, dCon, dNil, dCons, dOp, dTup, dLst, looks, look, frz, dCall, dCallV, dCallK, reord, sSeq2, sSkip, sExp, sRet, sRetN, sIf, sAsg, sAsgT, bVal, bTru, bNot, bAnd, bOr, bYes, dAnd, dOr, dNot, dIf, tName, gsNil, gsCons, gTupD, Dn.tSub, Dn.valOf, asB, ownAt, asI, isPin, sl, dCut, iOf, iNo, fin, endV, runP, runF, runV, runW, startR, startV, dEmp, dChain, res, truR, Dn.tru, itemsOf, sNone, sSeq, sRg1, sRg2, sZip, sEnum, sFor, dApp, dPop, sBrk, sCnt, isNone, atI0, atI1, atI2, ixN3_0, ixN3_1, ixN3_2, ixN2_0, ixN2_1, noPins, e_add, e_addT, e_addL, e_sub, e_mul, e_mulL, e_mulT, e_div, e_mod, e_neg, e_eqI, e_neI, e_eqB, e_eqT, e_eqL, e_neT, e_neL, e_cmp, e_is, e_isnot, e_ixL, e_ixT, e_lenL, e_lenT, e_tupL, e_tupT, e_lstL, e_lstT, e_int, e_intB, e_abs, e_sum, e_divmod, e_gcd, e_max, e_min, e_isi, e_cutL, e_cutT, w, isFr]
end Pl

set_option Elab.async false
set_option linter.all false
set_option maxRecDepth 100000
set_option maxHeartbeats 4000000
namespace Pl
open PySem PySem.Spec PyProof.Rows L2 Dn
theorem map_bools {α : Type} (f : α → Bool) (l : List α) : l.map (fun d => PyData.bool (f d)) = (l.map f).map PyData.bool := by rw [List.map_map]; rfl
theorem OKD.len {n L F : Nat} {d : D} (h : OKD n L F d) (hL : L ≤ 1000) : ∀ ds, d = .tuple ds → ds.length ≤ 1000 := fun ds e => by
  subst e
  exact Nat.le_trans h.tup.1 hL
theorem are_fractions_spec {d : D} {n L F m : Nat} (h : OKD n L F d) (hL : L ≤ 1000) : F_are_fractions [d, .int (m : Int)] = some (.v (.bool (isRow m d))) := by
  rcases tup_or d with ⟨ds, rfl⟩ | ⟨h1, h2⟩
  · obtain ⟨hl, G, rfl, hs⟩ := h.tup
    have c := comp_not (C := F_is_fraction) (p := isFr) (ds := ds) (e := .int (m : Int)) (i := 0) (j := 0) rfl (by omega) (fun d hd => is_fraction_spec ((hs d hd).len hL))
    have e : ((ds.length : Int) == (m : Int)) = (ds.length == m) := by rw [Bool.eq_iff_iff]; simp; omega
    cases z : ds.length == m
    · simp [F_are_fractions, d_are_fractions, dLoc, dCon, dNil, dCons, dOp, dTup, dLst, looks, look, frz, dCall, dCallV, dCallK, reord, sSeq2, sSkip, sExp, sRet, sRetN, sIf, sAsg, sAsgT, bVal, bTru, bNot, bAnd, bOr, bYes, dAnd, dOr, dNot, dIf, tName, gsNil, gsCons, gTupD, Dn.tSub, Dn.valOf, asB, ownAt, asI, isPin, sl, dCut, iOf, iNo, fin, endV, runP, runF, runV, runW, startR, startV, dEmp, dChain, res, truR, Dn.tru, itemsOf, sNone, sSeq, sRg1, sRg2, sZip, sEnum, sFor, dApp, dPop, sBrk, sCnt, isNone, atI0, atI1, atI2, ixN3_0, ixN3_1, ixN3_2, ixN2_0, ixN2_1, noPins, e_add, e_addT, e_addL, e_sub, e_mul, e_mulL, e_mulT, e_div, e_mod, e_neg, e_eqI, e_neI, e_eqB, e_eqT, e_eqL, e_neT, e_neL, e_cmp, e_is, e_isnot, e_ixL, e_ixT, e_lenL, e_lenT, e_tupL, e_tupT, e_lstL, e_lstT, e_int, e_intB, e_abs, e_sum, e_divmod, e_gcd, e_max, e_min, e_isi, e_cutL, e_cutT, isTy_tup, e, z, isRow]
    · simp [F_are_fractions, d_are_fractions, dLoc, dCon, dNil, dCons, dOp, dTup, dLst, looks, look, frz, dCall, dCallV, dCallK, reord, sSeq2, sSkip, sExp, sRet, sRetN, sIf, sAsg, sAsgT, bVal, bTru, bNot, bAnd, bOr, bYes, dAnd, dOr, dNot, dIf, tName, gsNil, gsCons, gTupD, Dn.tSub, Dn.valOf, asB, ownAt, asI, isPin, sl, dCut, iOf, iNo, fin, endV, runP, runF, runV, runW, startR, startV, dEmp, dChain, res, truR, Dn.tru, itemsOf, sNone, sSeq, sRg1, sRg2, sZip, sEnum, sFor, dApp, dPop, sBrk, sCnt, isNone, atI0, atI1, atI2, ixN3_0, ixN3_1, ixN3_2, ixN2_0, ixN2_1, noPins, e_add, e_addT, e_addL, e_sub, e_mul, e_mulL, e_mulT, e_div, e_mod, e_neg, e_eqI, e_neI, e_eqB, e_eqT, e_eqL, e_neT, e_neL, e_cmp, e_is, e_isnot, e_ixL, e_ixT, e_lenL, e_lenT, e_tupL, e_tupT, e_lstL, e_lstT, e_int, e_intB, e_abs, e_sum, e_divmod, e_gcd, e_max, e_min, e_isi, e_cutL, e_cutT, isTy_tup, e, z, c, filter_empty, isRow]
  · cases d <;> first | (exact absurd rfl (h1 _)) | simp [F_are_fractions, d_are_fractions, dLoc, dCon, dNil, dCons, dOp, dTup, dLst, looks, look, frz, dCall, dCallV, dCallK, reord, sSeq2, sSkip, sExp, sRet, sRetN, sIf, sAsg, sAsgT, bVal, bTru, bNot, bAnd, bOr, bYes, dAnd, dOr, dNot, dIf, tName, gsNil, gsCons, gTupD, Dn.tSub, Dn.valOf, asB, ownAt, asI, isPin, sl, dCut, iOf, iNo, fin, endV, runP, runF, runV, runW, startR, startV, dEmp, dChain, res, truR, Dn.tru, itemsOf, sNone, sSeq, sRg1, sRg2, sZip, sEnum, sFor, dApp, dPop, sBrk, sCnt, isNone, atI0, atI1, atI2, ixN3_0, ixN3_1, ixN3_2, ixN2_0, ixN2_1, noPins, e_add, e_addT, e_addL, e_sub, e_mul, e_mulL, e_mulT, e_div, e_mod, e_neg, e_eqI, e_neI, e_eqB, e_eqT, e_eqL, e_neT, e_neL, e_cmp, e_is, e_isnot, e_ixL, e_ixT, e_lenL, e_lenT, e_tupL, e_tupT, e_lstL, e_lstT, e_int, e_intB, e_abs, e_sum, e_divmod, e_gcd, e_max, e_min, e_isi, e_cutL, e_cutT, h2, isRow]
theorem comp_not1 {C : List D → Option R} {p : D → Bool} {ds : List D} (hl : ds.length ≤ 1000000) (h : ∀ d ∈ ds, C [d, .int (ds.length : Int)] = some (.v (.bool (p d)))) :
    dComp [1] (sSeq (dLoc 0)) (tName 1) (bNot (bTru (dCall C (dCons (dLoc 1) (dCons (dOp pLen (dCons (dLoc 0) dNil)) dNil))))) (dLoc 1) [some (.val (.tuple ds)), none] = some (.o (ds.filter fun d => !p d), [some (.val (.tuple ds)), none]) := by
  have c := dComp_map (vs := [1]) (src := sSeq (dLoc 0)) (tgt := tName 1) (cond := bNot (bTru (dCall C (dCons (dLoc 1) (dCons (dOp pLen (dCons (dLoc 0) dNil)) dNil))))) (elt := dLoc 1) (ρ := [some (.val (.tuple ds)), none]) (ρ1 := [some (.val (.tuple ds)), none]) (l := ds) (f := id) (g := fun d => if !p d then some d else none)
    (by simp [dLoc, dCon, dNil, dCons, dOp, dTup, dLst, looks, look, frz, dCall, dCallV, dCallK, reord, sSeq2, sSkip, sExp, sRet, sRetN, sIf, sAsg, sAsgT, bVal, bTru, bNot, bAnd, bOr, bYes, dAnd, dOr, dNot, dIf, tName, gsNil, gsCons, gTupD, Dn.tSub, Dn.valOf, asB, ownAt, asI, isPin, sl, dCut, iOf, iNo, fin, endV, runP, runF, runV, runW, startR, startV, dEmp, dChain, res, truR, Dn.tru, itemsOf, sNone, sSeq, sRg1, sRg2, sZip, sEnum, sFor, dApp, dPop, sBrk, sCnt, isNone, atI0, atI1, atI2, ixN3_0, ixN3_1, ixN3_2, ixN2_0, ixN2_1, noPins, e_add, e_addT, e_addL, e_sub, e_mul, e_mulL, e_mulT, e_div, e_mod, e_neg, e_eqI, e_neI, e_eqB, e_eqT, e_eqL, e_neT, e_neL, e_cmp, e_is, e_isnot, e_ixL, e_ixT, e_lenL, e_lenT, e_tupL, e_tupT, e_lstL, e_lstT, e_int, e_intB, e_abs, e_sum, e_divmod, e_gcd, e_max, e_min, e_isi, e_cutL, e_cutT]) (by simp [dLoc, dCon, dNil, dCons, dOp, dTup, dLst, looks, look, frz, dCall, dCallV, dCallK, reord, sSeq2, sSkip, sExp, sRet, sRetN, sIf, sAsg, sAsgT, bVal, bTru, bNot, bAnd, bOr, bYes, dAnd, dOr, dNot, dIf, tName, gsNil, gsCons, gTupD, Dn.tSub, Dn.valOf, asB, ownAt, asI, isPin, sl, dCut, iOf, iNo, fin, endV, runP, runF, runV, runW, startR, startV, dEmp, dChain, res, truR, Dn.tru, itemsOf, sNone, sSeq, sRg1, sRg2, sZip, sEnum, sFor, dApp, dPop, sBrk, sCnt, isNone, atI0, atI1, atI2, ixN3_0, ixN3_1, ixN3_2, ixN2_0, ixN2_1, noPins, e_add, e_addT, e_addL, e_sub, e_mul, e_mulL, e_mulT, e_div, e_mod, e_neg, e_eqI, e_neI, e_eqB, e_eqT, e_eqL, e_neT, e_neL, e_cmp, e_is, e_isnot, e_ixL, e_ixT, e_lenL, e_lenT, e_tupL, e_tupT, e_lstL, e_lstT, e_int, e_intB, e_abs, e_sum, e_divmod, e_gcd, e_max, e_min, e_isi, e_cutL, e_cutT]) hl (fun d hd => by
      have q := h d hd
      cases hp : p d <;> simp [stepC, dLoc, dCon, dNil, dCons, dOp, dTup, dLst, looks, look, frz, dCall, dCallV, dCallK, reord, sSeq2, sSkip, sExp, sRet, sRetN, sIf, sAsg, sAsgT, bVal, bTru, bNot, bAnd, bOr, bYes, dAnd, dOr, dNot, dIf, tName, gsNil, gsCons, gTupD, Dn.tSub, Dn.valOf, asB, ownAt, asI, isPin, sl, dCut, iOf, iNo, fin, endV, runP, runF, runV, runW, startR, startV, dEmp, dChain, res, truR, Dn.tru, itemsOf, sNone, sSeq, sRg1, sRg2, sZip, sEnum, sFor, dApp, dPop, sBrk, sCnt, isNone, atI0, atI1, atI2, ixN3_0, ixN3_1, ixN3_2, ixN2_0, ixN2_1, noPins, e_add, e_addT, e_addL, e_sub, e_mul, e_mulL, e_mulT, e_div, e_mod, e_neg, e_eqI, e_neI, e_eqB, e_eqT, e_eqL, e_neT, e_neL, e_cmp, e_is, e_isnot, e_ixL, e_ixT, e_lenL, e_lenT, e_tupL, e_tupT, e_lstL, e_lstT, e_int, e_intB, e_abs, e_sum, e_divmod, e_gcd, e_max, e_min, e_isi, e_cutL, e_cutT, wipeR, q, hp])
  rw [filterMap_if] at c
  simpa [wipeR] using c
theorem is_table_spec {d : D} {n L F : Nat} (h : OKD n L F d) (hL : L ≤ 1000) : F_is_table [d] = some (.v (.bool (isTab d))) := by
  rcases tup_or d with ⟨ds, rfl⟩ | ⟨h1, h2⟩
  · obtain ⟨hl, G, rfl, hs⟩ := h.tup
    have c := comp_not1 (C := F_are_fractions) (p := isRow ds.length) (ds := ds) (by omega) (fun d hd => are_fractions_spec (hs d hd) hL)
    by_cases z1 : 1 ≤ ds.length
    · have y1 : decide ((1 : Int) ≤ (ds.length : Int)) = true := decide_eq_true (by omega)
      by_cases z2 : ds.length ≤ 5
      · have y2 : decide ((ds.length : Int) ≤ 5) = true := decide_eq_true (by omega)
        simp [F_is_table, d_is_table, dLoc, dCon, dNil, dCons, dOp, dTup, dLst, looks, look, frz, dCall, dCallV, dCallK, reord, sSeq2, sSkip, sExp, sRet, sRetN, sIf, sAsg, sAsgT, bVal, bTru, bNot, bAnd, bOr, bYes, dAnd, dOr, dNot, dIf, tName, gsNil, gsCons, gTupD, Dn.tSub, Dn.valOf, asB, ownAt, asI, isPin, sl, dCut, iOf, iNo, fin, endV, runP, runF, runV, runW, startR, startV, dEmp, dChain, res, truR, Dn.tru, itemsOf, sNone, sSeq, sRg1, sRg2, sZip, sEnum, sFor, dApp, dPop, sBrk, sCnt, isNone, atI0, atI1, atI2, ixN3_0, ixN3_1, ixN3_2, ixN2_0, ixN2_1, noPins, e_add, e_addT, e_addL, e_sub, e_mul, e_mulL, e_mulT, e_div, e_mod, e_neg, e_eqI, e_neI, e_eqB, e_eqT, e_eqL, e_neT, e_neL, e_cmp, e_is, e_isnot, e_ixL, e_ixT, e_lenL, e_lenT, e_tupL, e_tupT, e_lstL, e_lstT, e_int, e_intB, e_abs, e_sum, e_divmod, e_gcd, e_max, e_min, e_isi, e_cutL, e_cutT, isTy_tup, y1, y2, z1, z2, c, filter_empty, isTab]
      · have y2 : decide ((ds.length : Int) ≤ 5) = false := decide_eq_false (by omega)
        simp [F_is_table, d_is_table, dLoc, dCon, dNil, dCons, dOp, dTup, dLst, looks, look, frz, dCall, dCallV, dCallK, reord, sSeq2, sSkip, sExp, sRet, sRetN, sIf, sAsg, sAsgT, bVal, bTru, bNot, bAnd, bOr, bYes, dAnd, dOr, dNot, dIf, tName, gsNil, gsCons, gTupD, Dn.tSub, Dn.valOf, asB, ownAt, asI, isPin, sl, dCut, iOf, iNo, fin, endV, runP, runF, runV, runW, startR, startV, dEmp, dChain, res, truR, Dn.tru, itemsOf, sNone, sSeq, sRg1, sRg2, sZip, sEnum, sFor, dApp, dPop, sBrk, sCnt, isNone, atI0, atI1, atI2, ixN3_0, ixN3_1, ixN3_2, ixN2_0, ixN2_1, noPins, e_add, e_addT, e_addL, e_sub, e_mul, e_mulL, e_mulT, e_div, e_mod, e_neg, e_eqI, e_neI, e_eqB, e_eqT, e_eqL, e_neT, e_neL, e_cmp, e_is, e_isnot, e_ixL, e_ixT, e_lenL, e_lenT, e_tupL, e_tupT, e_lstL, e_lstT, e_int, e_intB, e_abs, e_sum, e_divmod, e_gcd, e_max, e_min, e_isi, e_cutL, e_cutT, isTy_tup, y1, y2, z1, z2, isTab]
    · have y1 : decide ((1 : Int) ≤ (ds.length : Int)) = false := decide_eq_false (by omega)
      simp [F_is_table, d_is_table, dLoc, dCon, dNil, dCons, dOp, dTup, dLst, looks, look, frz, dCall, dCallV, dCallK, reord, sSeq2, sSkip, sExp, sRet, sRetN, sIf, sAsg, sAsgT, bVal, bTru, bNot, bAnd, bOr, bYes, dAnd, dOr, dNot, dIf, tName, gsNil, gsCons, gTupD, Dn.tSub, Dn.valOf, asB, ownAt, asI, isPin, sl, dCut, iOf, iNo, fin, endV, runP, runF, runV, runW, startR, startV, dEmp, dChain, res, truR, Dn.tru, itemsOf, sNone, sSeq, sRg1, sRg2, sZip, sEnum, sFor, dApp, dPop, sBrk, sCnt, isNone, atI0, atI1, atI2, ixN3_0, ixN3_1, ixN3_2, ixN2_0, ixN2_1, noPins, e_add, e_addT, e_addL, e_sub, e_mul, e_mulL, e_mulT, e_div, e_mod, e_neg, e_eqI, e_neI, e_eqB, e_eqT, e_eqL, e_neT, e_neL, e_cmp, e_is, e_isnot, e_ixL, e_ixT, e_lenL, e_lenT, e_tupL, e_tupT, e_lstL, e_lstT, e_int, e_intB, e_abs, e_sum, e_divmod, e_gcd, e_max, e_min, e_isi, e_cutL, e_cutT, isTy_tup, y1, z1, isTab]
  · cases d <;> first | (exact absurd rfl (h1 _)) | simp [F_is_table, d_is_table, dLoc, dCon, dNil, dCons, dOp, dTup, dLst, looks, look, frz, dCall, dCallV, dCallK, reord, sSeq2, sSkip, sExp, sRet, sRetN, sIf, sAsg, sAsgT, bVal, bTru, bNot, bAnd, bOr, bYes, dAnd, dOr, dNot, dIf, tName, gsNil, gsCons, gTupD, Dn.tSub, Dn.valOf, asB, ownAt, asI, isPin, sl, dCut, iOf, iNo, fin, endV, runP, runF, runV, runW, startR, startV, dEmp, dChain, res, truR, Dn.tru, itemsOf, sNone, sSeq, sRg1, sRg2, sZip, sEnum, sFor, dApp, dPop, sBrk, sCnt, isNone, atI0, atI1, atI2, ixN3_0, ixN3_1, ixN3_2, ixN2_0, ixN2_1, noPins, e_add, e_addT, e_addL, e_sub, e_mul, e_mulL, e_mulT, e_div, e_mod, e_neg, e_eqI, e_neI, e_eqB, e_eqT, e_eqL, e_neT, e_neL, e_cmp, e_is, e_isnot, e_ixL, e_ixT, e_lenL, e_lenT, e_tupL, e_tupT, e_lstL, e_lstT, e_int, e_intB, e_abs, e_sum, e_divmod, e_gcd, e_max, e_min, e_isi, e_cutL, e_cutT, h2, isTab]

/-! ### the law's own words for it -/
theorem shaped_bools (l : List Bool) : SeqAt.shaped (.list (l.map PyData.bool)) = true := by
  have h1 : PyData.canLayAll0 (l.map PyData.bool) = true := by
    induction l with
    | nil => rfl
    | cons b l ih => rw [List.map_cons, PyData.canLayAll0, ih]; rfl
  have h2 : PyData.depthAll (l.map PyData.bool) ≤ 0 := depthA_map fun _ _ => Nat.le_refl _
  unfold SeqAt.shaped
  rw [show PyData.canLay0 (.list (l.map PyData.bool)) = true by simpa [PyData.canLay0] using h1, Bool.true_and]
  refine decide_eq_true ?_
  show PyData.depthAll (l.map PyData.bool) + 1 ≤ 64
  omega
theorem any_false (l : List Bool) : ((l.map PyData.bool).any fun z => PyData.eqv z (.bool false)) = !(l.all id) := by
  induction l with
  | nil => rfl
  | cons b l ih => rw [List.map_cons, List.any_cons, ih]; cases b <;> simp [PyData.eqv]
theorem in_bools (l : List Bool) : pIn [.bool false, .list (l.map .bool)] = some (.v (.bool (!(l.all id)))) := by
  rw [← any_false]; exact if_pos (by rw [shaped_bools]; rfl)
theorem notin_bools (l : List Bool) : pNotIn [.bool false, .list (l.map .bool)] = some (.v (.bool (l.all id))) := by
  have e := any_false l
  have : pNotIn [.bool false, .list (l.map .bool)] = some (.v (.bool (!((l.map PyData.bool).any fun z => PyData.eqv z (.bool false))))) := if_pos (by rw [shaped_bools]; rfl)
  rw [this, e, Bool.not_not]
theorem frac_same {a b : Int} (hb : 0 < b) : ((Rat.divInt a b).num == a && ((Rat.divInt a b).den : Int) == b) = (Nat.gcd a.natAbs b.natAbs == 1) := by
  rw [Bool.eq_iff_iff]
  simp only [Bool.and_eq_true, beq_iff_eq]
  constructor
  · rintro ⟨h1, h2⟩
    have r := (Rat.divInt a b).reduced
    rw [h1] at r
    have e : (Rat.divInt a b).den = b.natAbs := by omega
    rw [e] at r
    exact r
  · intro g
    have lp := low_pair (a := a) (b := b) (by omega) rfl
    rw [if_pos hb, g] at lp
    have f : ∀ x : Int, x.fdiv ((1 : Nat) : Int) = x := fun x => by rw [show ((1 : Nat) : Int) = 1 from rfl, Int.fdiv_one]
    rw [f, f] at lp
    exact ⟨lp.1.symm, lp.2.symm⟩
theorem eqv2 {a b c e : Int} : PyData.eqv (.tuple [.int a, .int b]) (.tuple [.int c, .int e]) = (a == c && b == e) := by simp [PyData.eqv, PyData.eqvAll]
theorem shaped2 {a b : Int} : SeqAt.shaped (.tuple [.int a, .int b]) = true := rfl
theorem law_is_frac_spec {d : D} {n L F : Nat} (h : OKD n L F d) (hL : L ≤ 1000) (hn : n ≤ 9000) : F__law_is_frac [d] = some (.v (.bool (isFr d))) := by
  rcases tup_or d with ⟨ds, rfl⟩ | ⟨h1, h2⟩
  · obtain ⟨hl, G, rfl, hs⟩ := h.tup
    have c := dComp_map (vs := [1]) (src := sSeq (dLoc 0)) (tgt := tName 1) (cond := bYes) (elt := dCall F__law_is_whole (dCons (dLoc 1) dNil)) (ρ := [some (.val (.tuple ds)), none]) (ρ1 := [some (.val (.tuple ds)), none]) (l := ds) (f := id) (g := fun d => some (.bool (isI d)))
      (by simp [dLoc, dCon, dNil, dCons, dOp, dTup, dLst, looks, look, frz, dCall, dCallV, dCallK, reord, sSeq2, sSkip, sExp, sRet, sRetN, sIf, sAsg, sAsgT, bVal, bTru, bNot, bAnd, bOr, bYes, dAnd, dOr, dNot, dIf, tName, gsNil, gsCons, gTupD, Dn.tSub, Dn.valOf, asB, ownAt, asI, isPin, sl, dCut, iOf, iNo, fin, endV, runP, runF, runV, runW, startR, startV, dEmp, dChain, res, truR, Dn.tru, itemsOf, sNone, sSeq, sRg1, sRg2, sZip, sEnum, sFor, dApp, dPop, sBrk, sCnt, isNone, atI0, atI1, atI2, ixN3_0, ixN3_1, ixN3_2, ixN2_0, ixN2_1, noPins, e_add, e_addT, e_addL, e_sub, e_mul, e_mulL, e_mulT, e_div, e_mod, e_neg, e_eqI, e_neI, e_eqB, e_eqT, e_eqL, e_neT, e_neL, e_cmp, e_is, e_isnot, e_ixL, e_ixT, e_lenL, e_lenT, e_tupL, e_tupT, e_lstL, e_lstT, e_int, e_intB, e_abs, e_sum, e_divmod, e_gcd, e_max, e_min, e_isi, e_cutL, e_cutT]) (by simp [dLoc, dCon, dNil, dCons, dOp, dTup, dLst, looks, look, frz, dCall, dCallV, dCallK, reord, sSeq2, sSkip, sExp, sRet, sRetN, sIf, sAsg, sAsgT, bVal, bTru, bNot, bAnd, bOr, bYes, dAnd, dOr, dNot, dIf, tName, gsNil, gsCons, gTupD, Dn.tSub, Dn.valOf, asB, ownAt, asI, isPin, sl, dCut, iOf, iNo, fin, endV, runP, runF, runV, runW, startR, startV, dEmp, dChain, res, truR, Dn.tru, itemsOf, sNone, sSeq, sRg1, sRg2, sZip, sEnum, sFor, dApp, dPop, sBrk, sCnt, isNone, atI0, atI1, atI2, ixN3_0, ixN3_1, ixN3_2, ixN2_0, ixN2_1, noPins, e_add, e_addT, e_addL, e_sub, e_mul, e_mulL, e_mulT, e_div, e_mod, e_neg, e_eqI, e_neI, e_eqB, e_eqT, e_eqL, e_neT, e_neL, e_cmp, e_is, e_isnot, e_ixL, e_ixT, e_lenL, e_lenT, e_tupL, e_tupT, e_lstL, e_lstT, e_int, e_intB, e_abs, e_sum, e_divmod, e_gcd, e_max, e_min, e_isi, e_cutL, e_cutT]) (by omega) (fun d hd => by simp [stepC, dLoc, dCon, dNil, dCons, dOp, dTup, dLst, looks, look, frz, dCall, dCallV, dCallK, reord, sSeq2, sSkip, sExp, sRet, sRetN, sIf, sAsg, sAsgT, bVal, bTru, bNot, bAnd, bOr, bYes, dAnd, dOr, dNot, dIf, tName, gsNil, gsCons, gTupD, Dn.tSub, Dn.valOf, asB, ownAt, asI, isPin, sl, dCut, iOf, iNo, fin, endV, runP, runF, runV, runW, startR, startV, dEmp, dChain, res, truR, Dn.tru, itemsOf, sNone, sSeq, sRg1, sRg2, sZip, sEnum, sFor, dApp, dPop, sBrk, sCnt, isNone, atI0, atI1, atI2, ixN3_0, ixN3_1, ixN3_2, ixN2_0, ixN2_1, noPins, e_add, e_addT, e_addL, e_sub, e_mul, e_mulL, e_mulT, e_div, e_mod, e_neg, e_eqI, e_neI, e_eqB, e_eqT, e_eqL, e_neT, e_neL, e_cmp, e_is, e_isnot, e_ixL, e_ixT, e_lenL, e_lenT, e_tupL, e_tupT, e_lstL, e_lstT, e_int, e_intB, e_abs, e_sum, e_divmod, e_gcd, e_max, e_min, e_isi, e_cutL, e_cutT, wipeR, law_is_whole_spec])
    rw [filterMap_some, map_bools (isI) ds] at c
    have b := in_bools (ds.map isI)
    have ea : (ds.map isI).all id = ds.all isI := by simp [List.all_map]
    rw [ea] at b
    by_cases z : ds.length = 2
    · have e2 : ((ds.length : Int) == 2) = true := by rw [z]; rfl
      by_cases y : ds.all isI = true
      · obtain ⟨a, b', rfl⟩ := two_ints z y
        have hb' : Bd n b' := (hs (.int b') (by simp)).int
        have b2 : pIn [.bool false, .list [.bool true, .bool true]] = some (.v (.bool false)) := in_bools [true, true]
        by_cases p : 0 < b'
        · have f := frac_spec (n := 0) (a := a) (b := b') (by omega) hb' hn
          simp only [enc] at f
          have q := e_eq (d := .tuple [.int (Rat.divInt a b').num, .int ((Rat.divInt a b').den : Int)]) (e := .tuple [.int a, .int b']) shaped2 shaped2
          rw [eqv2, frac_same p] at q
          simp [F__law_is_frac, d__law_is_frac, dLoc, dCon, dNil, dCons, dOp, dTup, dLst, looks, look, frz, dCall, dCallV, dCallK, reord, sSeq2, sSkip, sExp, sRet, sRetN, sIf, sAsg, sAsgT, bVal, bTru, bNot, bAnd, bOr, bYes, dAnd, dOr, dNot, dIf, tName, gsNil, gsCons, gTupD, Dn.tSub, Dn.valOf, asB, ownAt, asI, isPin, sl, dCut, iOf, iNo, fin, endV, runP, runF, runV, runW, startR, startV, dEmp, dChain, res, truR, Dn.tru, itemsOf, sNone, sSeq, sRg1, sRg2, sZip, sEnum, sFor, dApp, dPop, sBrk, sCnt, isNone, atI0, atI1, atI2, ixN3_0, ixN3_1, ixN3_2, ixN2_0, ixN2_1, noPins, e_add, e_addT, e_addL, e_sub, e_mul, e_mulL, e_mulT, e_div, e_mod, e_neg, e_eqI, e_neI, e_eqB, e_eqT, e_eqL, e_neT, e_neL, e_cmp, e_is, e_isnot, e_ixL, e_ixT, e_lenL, e_lenT, e_tupL, e_tupT, e_lstL, e_lstT, e_int, e_intB, e_abs, e_sum, e_divmod, e_gcd, e_max, e_min, e_isi, e_cutL, e_cutT, isTy_tup, c, b2, isI, p, f, q, isFr, wipeR, -List.map_map]
        · simp [F__law_is_frac, d__law_is_frac, dLoc, dCon, dNil, dCons, dOp, dTup, dLst, looks, look, frz, dCall, dCallV, dCallK, reord, sSeq2, sSkip, sExp, sRet, sRetN, sIf, sAsg, sAsgT, bVal, bTru, bNot, bAnd, bOr, bYes, dAnd, dOr, dNot, dIf, tName, gsNil, gsCons, gTupD, Dn.tSub, Dn.valOf, asB, ownAt, asI, isPin, sl, dCut, iOf, iNo, fin, endV, runP, runF, runV, runW, startR, startV, dEmp, dChain, res, truR, Dn.tru, itemsOf, sNone, sSeq, sRg1, sRg2, sZip, sEnum, sFor, dApp, dPop, sBrk, sCnt, isNone, atI0, atI1, atI2, ixN3_0, ixN3_1, ixN3_2, ixN2_0, ixN2_1, noPins, e_add, e_addT, e_addL, e_sub, e_mul, e_mulL, e_mulT, e_div, e_mod, e_neg, e_eqI, e_neI, e_eqB, e_eqT, e_eqL, e_neT, e_neL, e_cmp, e_is, e_isnot, e_ixL, e_ixT, e_lenL, e_lenT, e_tupL, e_tupT, e_lstL, e_lstT, e_int, e_intB, e_abs, e_sum, e_divmod, e_gcd, e_max, e_min, e_isi, e_cutL, e_cutT, isTy_tup, c, b2, isI, p, isFr, wipeR, -List.map_map]
      · have y' : ds.all isI = false := by simpa using y
        have nf := is_fr_not (ds := ds) (fun q => y q.2)
        rw [y'] at b
        simp [F__law_is_frac, d__law_is_frac, dLoc, dCon, dNil, dCons, dOp, dTup, dLst, looks, look, frz, dCall, dCallV, dCallK, reord, sSeq2, sSkip, sExp, sRet, sRetN, sIf, sAsg, sAsgT, bVal, bTru, bNot, bAnd, bOr, bYes, dAnd, dOr, dNot, dIf, tName, gsNil, gsCons, gTupD, Dn.tSub, Dn.valOf, asB, ownAt, asI, isPin, sl, dCut, iOf, iNo, fin, endV, runP, runF, runV, runW, startR, startV, dEmp, dChain, res, truR, Dn.tru, itemsOf, sNone, sSeq, sRg1, sRg2, sZip, sEnum, sFor, dApp, dPop, sBrk, sCnt, isNone, atI0, atI1, atI2, ixN3_0, ixN3_1, ixN3_2, ixN2_0, ixN2_1, noPins, e_add, e_addT, e_addL, e_sub, e_mul, e_mulL, e_mulT, e_div, e_mod, e_neg, e_eqI, e_neI, e_eqB, e_eqT, e_eqL, e_neT, e_neL, e_cmp, e_is, e_isnot, e_ixL, e_ixT, e_lenL, e_lenT, e_tupL, e_tupT, e_lstL, e_lstT, e_int, e_intB, e_abs, e_sum, e_divmod, e_gcd, e_max, e_min, e_isi, e_cutL, e_cutT, isTy_tup, c, b, e2, nf, wipeR, -List.map_map]
    · have e2 : ((ds.length : Int) == 2) = false := by simp; omega
      have nf := is_fr_not (ds := ds) (fun q => z q.1)
      simp [F__law_is_frac, d__law_is_frac, dLoc, dCon, dNil, dCons, dOp, dTup, dLst, looks, look, frz, dCall, dCallV, dCallK, reord, sSeq2, sSkip, sExp, sRet, sRetN, sIf, sAsg, sAsgT, bVal, bTru, bNot, bAnd, bOr, bYes, dAnd, dOr, dNot, dIf, tName, gsNil, gsCons, gTupD, Dn.tSub, Dn.valOf, asB, ownAt, asI, isPin, sl, dCut, iOf, iNo, fin, endV, runP, runF, runV, runW, startR, startV, dEmp, dChain, res, truR, Dn.tru, itemsOf, sNone, sSeq, sRg1, sRg2, sZip, sEnum, sFor, dApp, dPop, sBrk, sCnt, isNone, atI0, atI1, atI2, ixN3_0, ixN3_1, ixN3_2, ixN2_0, ixN2_1, noPins, e_add, e_addT, e_addL, e_sub, e_mul, e_mulL, e_mulT, e_div, e_mod, e_neg, e_eqI, e_neI, e_eqB, e_eqT, e_eqL, e_neT, e_neL, e_cmp, e_is, e_isnot, e_ixL, e_ixT, e_lenL, e_lenT, e_tupL, e_tupT, e_lstL, e_lstT, e_int, e_intB, e_abs, e_sum, e_divmod, e_gcd, e_max, e_min, e_isi, e_cutL, e_cutT, isTy_tup, e2, nf]
  · cases d <;> first | (exact absurd rfl (h1 _)) | simp [F__law_is_frac, d__law_is_frac, dLoc, dCon, dNil, dCons, dOp, dTup, dLst, looks, look, frz, dCall, dCallV, dCallK, reord, sSeq2, sSkip, sExp, sRet, sRetN, sIf, sAsg, sAsgT, bVal, bTru, bNot, bAnd, bOr, bYes, dAnd, dOr, dNot, dIf, tName, gsNil, gsCons, gTupD, Dn.tSub, Dn.valOf, asB, ownAt, asI, isPin, sl, dCut, iOf, iNo, fin, endV, runP, runF, runV, runW, startR, startV, dEmp, dChain, res, truR, Dn.tru, itemsOf, sNone, sSeq, sRg1, sRg2, sZip, sEnum, sFor, dApp, dPop, sBrk, sCnt, isNone, atI0, atI1, atI2, ixN3_0, ixN3_1, ixN3_2, ixN2_0, ixN2_1, noPins, e_add, e_addT, e_addL, e_sub, e_mul, e_mulL, e_mulT, e_div, e_mod, e_neg, e_eqI, e_neI, e_eqB, e_eqT, e_eqL, e_neT, e_neL, e_cmp, e_is, e_isnot, e_ixL, e_ixT, e_lenL, e_lenT, e_tupL, e_tupT, e_lstL, e_lstT, e_int, e_intB, e_abs, e_sum, e_divmod, e_gcd, e_max, e_min, e_isi, e_cutL, e_cutT, h2, isFr]
theorem law_is_line_spec {d : D} {n L F m : Nat} (h : OKD n L F d) (hL : L ≤ 1000) (hn : n ≤ 9000) : F__law_is_line [d, .int (m : Int)] = some (.v (.bool (isRow m d))) := by
  rcases tup_or d with ⟨ds, rfl⟩ | ⟨h1, h2⟩
  · obtain ⟨hl, G, rfl, hs⟩ := h.tup
    have c := dComp_map (vs := [2]) (src := sSeq (dLoc 0)) (tgt := tName 2) (cond := bYes) (elt := dCall F__law_is_frac (dCons (dLoc 2) dNil)) (ρ := [some (.val (.tuple ds)), some (.val (.int (m : Int))), none]) (ρ1 := [some (.val (.tuple ds)), some (.val (.int (m : Int))), none]) (l := ds) (f := id) (g := fun d => some (.bool (isFr d)))
      (by simp [dLoc, dCon, dNil, dCons, dOp, dTup, dLst, looks, look, frz, dCall, dCallV, dCallK, reord, sSeq2, sSkip, sExp, sRet, sRetN, sIf, sAsg, sAsgT, bVal, bTru, bNot, bAnd, bOr, bYes, dAnd, dOr, dNot, dIf, tName, gsNil, gsCons, gTupD, Dn.tSub, Dn.valOf, asB, ownAt, asI, isPin, sl, dCut, iOf, iNo, fin, endV, runP, runF, runV, runW, startR, startV, dEmp, dChain, res, truR, Dn.tru, itemsOf, sNone, sSeq, sRg1, sRg2, sZip, sEnum, sFor, dApp, dPop, sBrk, sCnt, isNone, atI0, atI1, atI2, ixN3_0, ixN3_1, ixN3_2, ixN2_0, ixN2_1, noPins, e_add, e_addT, e_addL, e_sub, e_mul, e_mulL, e_mulT, e_div, e_mod, e_neg, e_eqI, e_neI, e_eqB, e_eqT, e_eqL, e_neT, e_neL, e_cmp, e_is, e_isnot, e_ixL, e_ixT, e_lenL, e_lenT, e_tupL, e_tupT, e_lstL, e_lstT, e_int, e_intB, e_abs, e_sum, e_divmod, e_gcd, e_max, e_min, e_isi, e_cutL, e_cutT]) (by simp [dLoc, dCon, dNil, dCons, dOp, dTup, dLst, looks, look, frz, dCall, dCallV, dCallK, reord, sSeq2, sSkip, sExp, sRet, sRetN, sIf, sAsg, sAsgT, bVal, bTru, bNot, bAnd, bOr, bYes, dAnd, dOr, dNot, dIf, tName, gsNil, gsCons, gTupD, Dn.tSub, Dn.valOf, asB, ownAt, asI, isPin, sl, dCut, iOf, iNo, fin, endV, runP, runF, runV, runW, startR, startV, dEmp, dChain, res, truR, Dn.tru, itemsOf, sNone, sSeq, sRg1, sRg2, sZip, sEnum, sFor, dApp, dPop, sBrk, sCnt, isNone, atI0, atI1, atI2, ixN3_0, ixN3_1, ixN3_2, ixN2_0, ixN2_1, noPins, e_add, e_addT, e_addL, e_sub, e_mul, e_mulL, e_mulT, e_div, e_mod, e_neg, e_eqI, e_neI, e_eqB, e_eqT, e_eqL, e_neT, e_neL, e_cmp, e_is, e_isnot, e_ixL, e_ixT, e_lenL, e_lenT, e_tupL, e_tupT, e_lstL, e_lstT, e_int, e_intB, e_abs, e_sum, e_divmod, e_gcd, e_max, e_min, e_isi, e_cutL, e_cutT]) (by omega) (fun d hd => by
        have q := law_is_frac_spec (hs d hd) hL hn
        simp [stepC, dLoc, dCon, dNil, dCons, dOp, dTup, dLst, looks, look, frz, dCall, dCallV, dCallK, reord, sSeq2, sSkip, sExp, sRet, sRetN, sIf, sAsg, sAsgT, bVal, bTru, bNot, bAnd, bOr, bYes, dAnd, dOr, dNot, dIf, tName, gsNil, gsCons, gTupD, Dn.tSub, Dn.valOf, asB, ownAt, asI, isPin, sl, dCut, iOf, iNo, fin, endV, runP, runF, runV, runW, startR, startV, dEmp, dChain, res, truR, Dn.tru, itemsOf, sNone, sSeq, sRg1, sRg2, sZip, sEnum, sFor, dApp, dPop, sBrk, sCnt, isNone, atI0, atI1, atI2, ixN3_0, ixN3_1, ixN3_2, ixN2_0, ixN2_1, noPins, e_add, e_addT, e_addL, e_sub, e_mul, e_mulL, e_mulT, e_div, e_mod, e_neg, e_eqI, e_neI, e_eqB, e_eqT, e_eqL, e_neT, e_neL, e_cmp, e_is, e_isnot, e_ixL, e_ixT, e_lenL, e_lenT, e_tupL, e_tupT, e_lstL, e_lstT, e_int, e_intB, e_abs, e_sum, e_divmod, e_gcd, e_max, e_min, e_isi, e_cutL, e_cutT, wipeR, q])
    rw [filterMap_some, map_bools (isFr) ds] at c
    have b := notin_bools (ds.map isFr)
    have ea : (ds.map isFr).all id = ds.all isFr := by simp [List.all_map]
    rw [ea] at b
    have e : ((ds.length : Int) == (m : Int)) = (ds.length == m) := by rw [Bool.eq_iff_iff]; simp; omega
    cases z : ds.length == m
    · simp [F__law_is_line, d__law_is_line, dLoc, dCon, dNil, dCons, dOp, dTup, dLst, looks, look, frz, dCall, dCallV, dCallK, reord, sSeq2, sSkip, sExp, sRet, sRetN, sIf, sAsg, sAsgT, bVal, bTru, bNot, bAnd, bOr, bYes, dAnd, dOr, dNot, dIf, tName, gsNil, gsCons, gTupD, Dn.tSub, Dn.valOf, asB, ownAt, asI, isPin, sl, dCut, iOf, iNo, fin, endV, runP, runF, runV, runW, startR, startV, dEmp, dChain, res, truR, Dn.tru, itemsOf, sNone, sSeq, sRg1, sRg2, sZip, sEnum, sFor, dApp, dPop, sBrk, sCnt, isNone, atI0, atI1, atI2, ixN3_0, ixN3_1, ixN3_2, ixN2_0, ixN2_1, noPins, e_add, e_addT, e_addL, e_sub, e_mul, e_mulL, e_mulT, e_div, e_mod, e_neg, e_eqI, e_neI, e_eqB, e_eqT, e_eqL, e_neT, e_neL, e_cmp, e_is, e_isnot, e_ixL, e_ixT, e_lenL, e_lenT, e_tupL, e_tupT, e_lstL, e_lstT, e_int, e_intB, e_abs, e_sum, e_divmod, e_gcd, e_max, e_min, e_isi, e_cutL, e_cutT, isTy_tup, e, z, isRow]
    · simp [F__law_is_line, d__law_is_line, dLoc, dCon, dNil, dCons, dOp, dTup, dLst, looks, look, frz, dCall, dCallV, dCallK, reord, sSeq2, sSkip, sExp, sRet, sRetN, sIf, sAsg, sAsgT, bVal, bTru, bNot, bAnd, bOr, bYes, dAnd, dOr, dNot, dIf, tName, gsNil, gsCons, gTupD, Dn.tSub, Dn.valOf, asB, ownAt, asI, isPin, sl, dCut, iOf, iNo, fin, endV, runP, runF, runV, runW, startR, startV, dEmp, dChain, res, truR, Dn.tru, itemsOf, sNone, sSeq, sRg1, sRg2, sZip, sEnum, sFor, dApp, dPop, sBrk, sCnt, isNone, atI0, atI1, atI2, ixN3_0, ixN3_1, ixN3_2, ixN2_0, ixN2_1, noPins, e_add, e_addT, e_addL, e_sub, e_mul, e_mulL, e_mulT, e_div, e_mod, e_neg, e_eqI, e_neI, e_eqB, e_eqT, e_eqL, e_neT, e_neL, e_cmp, e_is, e_isnot, e_ixL, e_ixT, e_lenL, e_lenT, e_tupL, e_tupT, e_lstL, e_lstT, e_int, e_intB, e_abs, e_sum, e_divmod, e_gcd, e_max, e_min, e_isi, e_cutL, e_cutT, isTy_tup, e, z, c, b, isRow, wipeR, -List.map_map]
  · cases d <;> first | (exact absurd rfl (h1 _)) | simp [F__law_is_line, d__law_is_line, dLoc, dCon, dNil, dCons, dOp, dTup, dLst, looks, look, frz, dCall, dCallV, dCallK, reord, sSeq2, sSkip, sExp, sRet, sRetN, sIf, sAsg, sAsgT, bVal, bTru, bNot, bAnd, bOr, bYes, dAnd, dOr, dNot, dIf, tName, gsNil, gsCons, gTupD, Dn.tSub, Dn.valOf, asB, ownAt, asI, isPin, sl, dCut, iOf, iNo, fin, endV, runP, runF, runV, runW, startR, startV, dEmp, dChain, res, truR, Dn.tru, itemsOf, sNone, sSeq, sRg1, sRg2, sZip, sEnum, sFor, dApp, dPop, sBrk, sCnt, isNone, atI0, atI1, atI2, ixN3_0, ixN3_1, ixN3_2, ixN2_0, ixN2_1, noPins, e_add, e_addT, e_addL, e_sub, e_mul, e_mulL, e_mulT, e_div, e_mod, e_neg, e_eqI, e_neI, e_eqB, e_eqT, e_eqL, e_neT, e_neL, e_cmp, e_is, e_isnot, e_ixL, e_ixT, e_lenL, e_lenT, e_tupL, e_tupT, e_lstL, e_lstT, e_int, e_intB, e_abs, e_sum, e_divmod, e_gcd, e_max, e_min, e_isi, e_cutL, e_cutT, h2, isRow]
theorem law_is_grid_spec {d : D} {n L F : Nat} (h : OKD n L F d) (hL : L ≤ 1000) (hn : n ≤ 9000) : F__law_is_grid [d] = some (.v (.bool (isTab d))) := by
  rcases tup_or d with ⟨ds, rfl⟩ | ⟨h1, h2⟩
  · obtain ⟨hl, G, rfl, hs⟩ := h.tup
    have c := dComp_map (vs := [1]) (src := sSeq (dLoc 0)) (tgt := tName 1) (cond := bYes) (elt := dCall F__law_is_line (dCons (dLoc 1) (dCons (dOp pLen (dCons (dLoc 0) dNil)) dNil))) (ρ := [some (.val (.tuple ds)), none]) (ρ1 := [some (.val (.tuple ds)), none]) (l := ds) (f := id) (g := fun d => some (.bool (isRow ds.length d)))
      (by simp [dLoc, dCon, dNil, dCons, dOp, dTup, dLst, looks, look, frz, dCall, dCallV, dCallK, reord, sSeq2, sSkip, sExp, sRet, sRetN, sIf, sAsg, sAsgT, bVal, bTru, bNot, bAnd, bOr, bYes, dAnd, dOr, dNot, dIf, tName, gsNil, gsCons, gTupD, Dn.tSub, Dn.valOf, asB, ownAt, asI, isPin, sl, dCut, iOf, iNo, fin, endV, runP, runF, runV, runW, startR, startV, dEmp, dChain, res, truR, Dn.tru, itemsOf, sNone, sSeq, sRg1, sRg2, sZip, sEnum, sFor, dApp, dPop, sBrk, sCnt, isNone, atI0, atI1, atI2, ixN3_0, ixN3_1, ixN3_2, ixN2_0, ixN2_1, noPins, e_add, e_addT, e_addL, e_sub, e_mul, e_mulL, e_mulT, e_div, e_mod, e_neg, e_eqI, e_neI, e_eqB, e_eqT, e_eqL, e_neT, e_neL, e_cmp, e_is, e_isnot, e_ixL, e_ixT, e_lenL, e_lenT, e_tupL, e_tupT, e_lstL, e_lstT, e_int, e_intB, e_abs, e_sum, e_divmod, e_gcd, e_max, e_min, e_isi, e_cutL, e_cutT]) (by simp [dLoc, dCon, dNil, dCons, dOp, dTup, dLst, looks, look, frz, dCall, dCallV, dCallK, reord, sSeq2, sSkip, sExp, sRet, sRetN, sIf, sAsg, sAsgT, bVal, bTru, bNot, bAnd, bOr, bYes, dAnd, dOr, dNot, dIf, tName, gsNil, gsCons, gTupD, Dn.tSub, Dn.valOf, asB, ownAt, asI, isPin, sl, dCut, iOf, iNo, fin, endV, runP, runF, runV, runW, startR, startV, dEmp, dChain, res, truR, Dn.tru, itemsOf, sNone, sSeq, sRg1, sRg2, sZip, sEnum, sFor, dApp, dPop, sBrk, sCnt, isNone, atI0, atI1, atI2, ixN3_0, ixN3_1, ixN3_2, ixN2_0, ixN2_1, noPins, e_add, e_addT, e_addL, e_sub, e_mul, e_mulL, e_mulT, e_div, e_mod, e_neg, e_eqI, e_neI, e_eqB, e_eqT, e_eqL, e_neT, e_neL, e_cmp, e_is, e_isnot, e_ixL, e_ixT, e_lenL, e_lenT, e_tupL, e_tupT, e_lstL, e_lstT, e_int, e_intB, e_abs, e_sum, e_divmod, e_gcd, e_max, e_min, e_isi, e_cutL, e_cutT]) (by omega) (fun d hd => by
        have q := law_is_line_spec (m := ds.length) (hs d hd) hL hn
        simp [stepC, dLoc, dCon, dNil, dCons, dOp, dTup, dLst, looks, look, frz, dCall, dCallV, dCallK, reord, sSeq2, sSkip, sExp, sRet, sRetN, sIf, sAsg, sAsgT, bVal, bTru, bNot, bAnd, bOr, bYes, dAnd, dOr, dNot, dIf, tName, gsNil, gsCons, gTupD, Dn.tSub, Dn.valOf, asB, ownAt, asI, isPin, sl, dCut, iOf, iNo, fin, endV, runP, runF, runV, runW, startR, startV, dEmp, dChain, res, truR, Dn.tru, itemsOf, sNone, sSeq, sRg1, sRg2, sZip, sEnum, sFor, dApp, dPop, sBrk, sCnt, isNone, atI0, atI1, atI2, ixN3_0, ixN3_1, ixN3_2, ixN2_0, ixN2_1, noPins, e_add, e_addT, e_addL, e_sub, e_mul, e_mulL, e_mulT, e_div, e_mod, e_neg, e_eqI, e_neI, e_eqB, e_eqT, e_eqL, e_neT, e_neL, e_cmp, e_is, e_isnot, e_ixL, e_ixT, e_lenL, e_lenT, e_tupL, e_tupT, e_lstL, e_lstT, e_int, e_intB, e_abs, e_sum, e_divmod, e_gcd, e_max, e_min, e_isi, e_cutL, e_cutT, wipeR, q])
    rw [filterMap_some, map_bools (isRow ds.length) ds] at c
    have b := notin_bools (ds.map (isRow ds.length))
    have ea : (ds.map (isRow ds.length)).all id = ds.all (isRow ds.length) := by simp [List.all_map]
    rw [ea] at b
    by_cases z1 : 1 ≤ ds.length
    · have y1 : decide (0 < ds.length) = true := decide_eq_true (by omega)
      by_cases z2 : ds.length ≤ 5
      · have y2 : decide ((ds.length : Int) < 6) = true := decide_eq_true (by omega)
        simp [F__law_is_grid, d__law_is_grid, dLoc, dCon, dNil, dCons, dOp, dTup, dLst, looks, look, frz, dCall, dCallV, dCallK, reord, sSeq2, sSkip, sExp, sRet, sRetN, sIf, sAsg, sAsgT, bVal, bTru, bNot, bAnd, bOr, bYes, dAnd, dOr, dNot, dIf, tName, gsNil, gsCons, gTupD, Dn.tSub, Dn.valOf, asB, ownAt, asI, isPin, sl, dCut, iOf, iNo, fin, endV, runP, runF, runV, runW, startR, startV, dEmp, dChain, res, truR, Dn.tru, itemsOf, sNone, sSeq, sRg1, sRg2, sZip, sEnum, sFor, dApp, dPop, sBrk, sCnt, isNone, atI0, atI1, atI2, ixN3_0, ixN3_1, ixN3_2, ixN2_0, ixN2_1, noPins, e_add, e_addT, e_addL, e_sub, e_mul, e_mulL, e_mulT, e_div, e_mod, e_neg, e_eqI, e_neI, e_eqB, e_eqT, e_eqL, e_neT, e_neL, e_cmp, e_is, e_isnot, e_ixL, e_ixT, e_lenL, e_lenT, e_tupL, e_tupT, e_lstL, e_lstT, e_int, e_intB, e_abs, e_sum, e_divmod, e_gcd, e_max, e_min, e_isi, e_cutL, e_cutT, isTy_tup, y1, y2, z1, z2, c, b, isTab, wipeR, -List.map_map]
      · have y2 : decide ((ds.length : Int) < 6) = false := decide_eq_false (by omega)
        simp [F__law_is_grid, d__law_is_grid, dLoc, dCon, dNil, dCons, dOp, dTup, dLst, looks, look, frz, dCall, dCallV, dCallK, reord, sSeq2, sSkip, sExp, sRet, sRetN, sIf, sAsg, sAsgT, bVal, bTru, bNot, bAnd, bOr, bYes, dAnd, dOr, dNot, dIf, tName, gsNil, gsCons, gTupD, Dn.tSub, Dn.valOf, asB, ownAt, asI, isPin, sl, dCut, iOf, iNo, fin, endV, runP, runF, runV, runW, startR, startV, dEmp, dChain, res, truR, Dn.tru, itemsOf, sNone, sSeq, sRg1, sRg2, sZip, sEnum, sFor, dApp, dPop, sBrk, sCnt, isNone, atI0, atI1, atI2, ixN3_0, ixN3_1, ixN3_2, ixN2_0, ixN2_1, noPins, e_add, e_addT, e_addL, e_sub, e_mul, e_mulL, e_mulT, e_div, e_mod, e_neg, e_eqI, e_neI, e_eqB, e_eqT, e_eqL, e_neT, e_neL, e_cmp, e_is, e_isnot, e_ixL, e_ixT, e_lenL, e_lenT, e_tupL, e_tupT, e_lstL, e_lstT, e_int, e_intB, e_abs, e_sum, e_divmod, e_gcd, e_max, e_min, e_isi, e_cutL, e_cutT, isTy_tup, y1, y2, z1, z2, isTab]
    · have y1 : decide (0 < ds.length) = false := decide_eq_false (by omega)
      simp [F__law_is_grid, d__law_is_grid, dLoc, dCon, dNil, dCons, dOp, dTup, dLst, looks, look, frz, dCall, dCallV, dCallK, reord, sSeq2, sSkip, sExp, sRet, sRetN, sIf, sAsg, sAsgT, bVal, bTru, bNot, bAnd, bOr, bYes, dAnd, dOr, dNot, dIf, tName, gsNil, gsCons, gTupD, Dn.tSub, Dn.valOf, asB, ownAt, asI, isPin, sl, dCut, iOf, iNo, fin, endV, runP, runF, runV, runW, startR, startV, dEmp, dChain, res, truR, Dn.tru, itemsOf, sNone, sSeq, sRg1, sRg2, sZip, sEnum, sFor, dApp, dPop, sBrk, sCnt, isNone, atI0, atI1, atI2, ixN3_0, ixN3_1, ixN3_2, ixN2_0, ixN2_1, noPins, e_add, e_addT, e_addL, e_sub, e_mul, e_mulL, e_mulT, e_div, e_mod, e_neg, e_eqI, e_neI, e_eqB, e_eqT, e_eqL, e_neT, e_neL, e_cmp, e_is, e_isnot, e_ixL, e_ixT, e_lenL, e_lenT, e_tupL, e_tupT, e_lstL, e_lstT, e_int, e_intB, e_abs, e_sum, e_divmod, e_gcd, e_max, e_min, e_isi, e_cutL, e_cutT, isTy_tup, y1, z1, isTab]
  · cases d <;> first | (exact absurd rfl (h1 _)) | simp [F__law_is_grid, d__law_is_grid, dLoc, dCon, dNil, dCons, dOp, dTup, dLst, looks, look, frz, dCall, dCallV, dCallK, reord, sSeq2, sSkip, sExp, sRet, sRetN, sIf, sAsg, sAsgT, bVal, bTru, bNot, bAnd, bOr, bYes, dAnd, dOr, dNot, dIf, tName, gsNil, gsCons, gTupD, Dn.tSub, Dn.valOf, asB, ownAt, asI, isPin, sl, dCut, iOf, iNo, fin, endV, runP, runF, runV, runW, startR, startV, dEmp, dChain, res, truR, Dn.tru, itemsOf, sNone, sSeq, sRg1, sRg2, sZip, sEnum, sFor, dApp, dPop, sBrk, sCnt, isNone, atI0, atI1, atI2, ixN3_0, ixN3_1, ixN3_2, ixN2_0, ixN2_1, noPins, e_add, e_addT, e_addL, e_sub, e_mul, e_mulL, e_mulT, e_div, e_mod, e_neg, e_eqI, e_neI, e_eqB, e_eqT, e_eqL, e_neT, e_neL, e_cmp, e_is, e_isnot, e_ixL, e_ixT, e_lenL, e_lenT, e_tupL, e_tupT, e_lstL, e_lstT, e_int, e_intB, e_abs, e_sum, e_divmod, e_gcd, e_max, e_min, e_isi, e_cutL, e_cutT, h2, isTab]
end Pl

set_option Elab.async false
set_option linter.all false
set_option maxRecDepth 100000
set_option maxHeartbeats 4000000
namespace Pl
open PySem PySem.Spec PyProof.Rows L2 Dn

/-! ### loops that may return; lists within -/
theorem loopF_any {α : Type} {tgt : TGD} {body : TSD} {f : α → D} {bad : α → Bool} {r : R} {P : Rho → Prop} : ∀ {xs : List α} {ρ : Rho},
    (∀ x ∈ xs, ∀ ρ, P ρ → ∃ ρ1, tgt (.v (f x)) ρ = some ρ1 ∧ (bad x = true → ∃ ρ2, body ρ1 = some (.rt r ρ2)) ∧ (bad x = false → ∃ ρ2, body ρ1 = some (.nx ρ2) ∧ P ρ2)) → P ρ →
    (xs.any bad = true → ∃ ρ', loopF tgt body (xs.map f) ρ = some (.rt r ρ')) ∧ (xs.any bad = false → ∃ ρ', loopF tgt body (xs.map f) ρ = some (.nx ρ') ∧ P ρ')
  | [], ρ, _, p => ⟨fun h => by simp at h, fun _ => ⟨ρ, rfl, p⟩⟩
  | x :: xs, ρ, h, p => by
    obtain ⟨ρ1, e1, hb, hg⟩ := h x List.mem_cons_self ρ p
    cases hx : bad x with
    | true =>
      obtain ⟨ρ2, e2⟩ := hb hx
      refine ⟨fun _ => ⟨ρ2, ?_⟩, fun z => by simp [hx] at z⟩
      rw [List.map_cons]; unfold loopF; simp only [e1, e2]
    | false =>
      obtain ⟨ρ2, e2, p2⟩ := hg hx
      obtain ⟨q1, q2⟩ := loopF_any (xs := xs) (fun y hy => h y (List.mem_cons_of_mem _ hy)) p2
      refine ⟨fun z => ?_, fun z => ?_⟩
      · obtain ⟨ρ', e⟩ := q1 (by simpa [hx] using z)
        refine ⟨ρ', ?_⟩
        rw [List.map_cons]; unfold loopF; simp only [e1, e2]; exact e
      · obtain ⟨ρ', e, p'⟩ := q2 (by simpa [hx] using z)
        refine ⟨ρ', ?_, p'⟩
        rw [List.map_cons]; unfold loopF; simp only [e1, e2]; exact e
def runO {α S : Type} (nxt : α → S → Option S) : List α → S → Option S
  | [], s => some s
  | x :: xs, s => match nxt x s with
    | some s' => runO nxt xs s'
    | none => none
theorem loopF_run {α S : Type} {tgt : TGD} {body : TSD} {f : α → D} {nxt : α → S → Option S} {r : R} {P : Nat → S → Rho → Prop} : ∀ {xs : List α} {k : Nat} {s : S} {ρ : Rho},
    (∀ (i : Nat) (x : α), xs[i]? = some x → ∀ s ρ, P (k + i) s ρ → ∃ ρ1, tgt (.v (f x)) ρ = some ρ1 ∧ (nxt x s = none → ∃ ρ2, body ρ1 = some (.rt r ρ2)) ∧ (∀ s', nxt x s = some s' → ∃ ρ2, body ρ1 = some (.nx ρ2) ∧ P (k + i + 1) s' ρ2)) → P k s ρ →
    (runO nxt xs s = none → ∃ ρ', loopF tgt body (xs.map f) ρ = some (.rt r ρ')) ∧ (∀ s', runO nxt xs s = some s' → ∃ ρ', loopF tgt body (xs.map f) ρ = some (.nx ρ') ∧ P (k + xs.length) s' ρ')
  | [], k, s, ρ, _, p => ⟨fun h => by simp [runO] at h, fun s' h => by simp only [runO] at h; cases h; exact ⟨ρ, rfl, p⟩⟩
  | x :: xs, k, s, ρ, h, p => by
    obtain ⟨ρ1, e1, hb, hg⟩ := h 0 x rfl s ρ p
    cases hx : nxt x s with
    | none =>
      obtain ⟨ρ2, e2⟩ := hb hx
      refine ⟨fun _ => ⟨ρ2, ?_⟩, fun s' z => by simp [runO, hx] at z⟩
      rw [List.map_cons]; unfold loopF; simp only [e1, e2]
    | some s2 =>
      obtain ⟨ρ2, e2, p2⟩ := hg s2 hx
      obtain ⟨q1, q2⟩ := loopF_run (xs := xs) (k := k + 1) (s := s2) (fun i y hy s ρ p => by
        have := h (i + 1) y (by simpa using hy) s ρ (by rw [show k + (i + 1) = k + 1 + i by omega]; exact p)
        rw [show k + (i + 1) + 1 = k + 1 + i + 1 by omega] at this
        exact this) p2
      refine ⟨fun z => ?_, fun s' z => ?_⟩
      · obtain ⟨ρ', e⟩ := q1 (by simpa [runO, hx] using z)
        refine ⟨ρ', ?_⟩
        rw [List.map_cons]; unfold loopF; simp only [e1, e2]; exact e
      · obtain ⟨ρ', e, p'⟩ := q2 s' (by simpa [runO, hx] using z)
        refine ⟨ρ', ?_, by rw [List.length_cons, show k + (xs.length + 1) = k + 1 + xs.length by omega]; exact p'⟩
        rw [List.map_cons]; unfold loopF; simp only [e1, e2]; exact e
/-- a slot that is no lent list -/
def nfS : Option Slot → Bool
  | some (.own true _) => false
  | _ => true
theorem nf_isPin {x : Option Slot} (h : nfS x = true) : isPin (some x) = false := by
  match x, h with
  | none, _ => rfl
  | some (.val _), _ => rfl
  | some (.own false _), _ => rfl
theorem nf_thin {x : Option Slot} (h : nfS x = true) : nfS (thin x) = true := by
  rcases thin_cases x with e | ⟨e, _⟩
  · rw [e]; rfl
  · rw [e]; exact h
def pinS : Option Slot → Bool
  | some (.own true xs) => flats xs
  | _ => true
theorem nf_pinS {x : Option Slot} (h : nfS x = true) : pinS x = true := by
  match x, h with
  | none, _ => rfl
  | some (.val _), _ => rfl
  | some (.own false _), _ => rfl
theorem pinsFlat_nil : pinsFlat [] = true := rfl
theorem pinsFlat_cons {x : Option Slot} {ρ : Rho} : pinsFlat (x :: ρ) = (pinS x && pinsFlat ρ) := by
  unfold pinsFlat
  rw [List.all_cons]
  congr 1
theorem pinS_val {d : D} : pinS (some (.val d)) = true := rfl
theorem pinS_none : pinS none = true := rfl
theorem thin_int {i : Int} : thin (some (.val (.int i))) = some (.val (.int i)) := rfl
theorem thin_none : thin none = none := rfl
theorem thin_tup {ds : List D} (h : flats ds = true) : thin (some (.val (.tuple ds))) = some (.val (.tuple ds)) := by simp [thin, flat, h]
theorem flat_int {i : Int} : flat (.int i) = true := rfl
theorem flats_ints {α : Type} (f : α → Int) : ∀ l : List α, flats (l.map fun a => PyData.int (f a)) = true
  | [] => rfl
  | a :: l => by simp [flats, flat, flats_ints f l]
theorem flats_all {α : Type} {f : α → D} : ∀ {l : List α}, (∀ a ∈ l, flat (f a) = true) → flats (l.map f) = true
  | [], _ => rfl
  | a :: l, h => by simp [flats, h a List.mem_cons_self, flats_all (l := l) fun b hb => h b (List.mem_cons_of_mem _ hb)]
theorem loopN_ev {vs : List Nat} {tgt : TGD} {elt : TD} {ρ : Rho} {xs : List D} (hf : flats xs = true) : ∀ {ds acc : List D}, (∀ d ∈ ds, ∃ ρ1 ρ3, tgt (.v d) ρ = some ρ1 ∧ elt ρ1 = some (.o xs, ρ3) ∧ wipeR ρ3 vs = ρ) → acc.length + ds.length ≤ 1000000 →
    loopN vs tgt elt ds ρ acc = some (acc ++ ds.map fun _ => .list xs, ρ)
  | [], acc, _, _ => by simp [loopN]
  | d :: ds, acc, h, hl => by
    obtain ⟨ρ1, ρ3, e1, e2, e3⟩ := h d List.mem_cons_self
    have hl' : acc.length + ds.length + 1 ≤ 1000000 := by simpa [Nat.add_assoc] using hl
    unfold loopN
    simp only [e1, e2]
    rw [if_pos (by simp [hf]; omega), e3, loopN_ev hf (fun e he => h e (List.mem_cons_of_mem _ he)) (by simp; omega)]
    simp
theorem sh_ints (l : List Int) : SeqAt.shaped (.list (l.map PyData.int)) = true := by
  have h1 : ∀ l : List Int, PyData.canLayAll0 (l.map PyData.int) = true := fun l => by
    induction l with
    | nil => rfl
    | cons a l ih => simp [PyData.canLayAll0, PyData.canLay0, ih]
  have h2 : ∀ l : List Int, PyData.depthAll (l.map PyData.int) ≤ 1 := fun l => by
    induction l with
    | nil => simp [PyData.depthAll]
    | cons a l ih => simp [PyData.depthAll, PyData.depth] at ih ⊢; omega
  unfold SeqAt.shaped
  simp [PyData.canLay0, h1, PyData.depth]
  have := h2 l
  omega
theorem e_notinI {i : Int} {l : List Int} : pNotIn [.int i, .list (l.map .int)] = some (.v (.bool (!l.contains i))) := by
  have : pNotIn [.int i, .list (l.map .int)] = some (.v (.bool (!((l.map PyData.int).any fun z => PyData.eqv z (.int i))))) := if_pos (by rw [sh_ints]; rfl)
  have key : ∀ l : List Int, ((l.map PyData.int).any fun z => PyData.eqv z (.int i)) = l.contains i := fun l => by
    induction l with
    | nil => rfl
    | cons a l ih => simp only [List.map_cons, List.any_cons, List.contains_cons, ih, PyData.eqv]; rw [Bool.beq_comm]
  rw [this, key]
/-! ### the distinct ones -/
theorem uniq_mem {ns : List Int} {k : Int} : k ∈ uniq ns ↔ k ∈ ns := by
  have h := firstMet_any (fun i => ns.getD i 0) ns.length k
  have e : (List.range ns.length).map (fun i => ns.getD i 0) = ns := by
    apply List.ext_getElem?
    intro i
    rw [List.getElem?_map]
    by_cases hi : i < ns.length
    · simp [hi]
    · simp [hi]
  rw [e] at h
  have a1 : ∀ l : List Int, l.any (· == k) = true ↔ k ∈ l := fun l => by simp
  rw [← a1, ← a1 ns]
  show (firstMet _ _).any _ = true ↔ _
  rw [h]
theorem uniq_nodup {ns : List Int} : (uniq ns).Nodup := by
  have : ∀ i, (firstMet (fun i => ns.getD i 0) i).Nodup := fun i => by
    induction i with
    | zero => rw [firstMet_zero]; exact List.nodup_nil
    | succ i ih =>
      rw [firstMet_succ]
      unfold step_dedup
      split
      · exact ih
      · rename_i h
        rw [List.nodup_append]
        refine ⟨ih, by simp, fun a ha b hb => ?_⟩
        rw [List.mem_singleton.mp hb]
        intro z
        subst z
        exact h (by simpa using ha)
  exact this _
theorem nodup_le {α : Type} [BEq α] [LawfulBEq α] : ∀ {l m : List α}, l.Nodup → (∀ x ∈ l, x ∈ m) → l.length ≤ m.length
  | [], _, _, _ => Nat.zero_le _
  | a :: l, m, h, hs => by
    have hn := List.nodup_cons.mp h
    have ha : a ∈ m := hs a List.mem_cons_self
    have := nodup_le (l := l) (m := m.erase a) hn.2 fun x hx => by
      have : x ≠ a := fun z => hn.1 (z ▸ hx)
      exact (List.mem_erase_of_ne this).mpr (hs x (List.mem_cons_of_mem _ hx))
    rw [List.length_erase_of_mem ha] at this
    have hp : 0 < m.length := List.length_pos_of_mem ha
    simp only [List.length_cons]
    omega
/-- numbers below n: fewer than n distinct ones if one is missing -/
theorem uniq_lt {n : Nat} {ns : List Int} (h : ∀ x ∈ ns, 0 ≤ x ∧ x < n) : (uniq ns).length < n ↔ ∃ j : Nat, j < n ∧ (j : Int) ∉ ns := by
  have hr : ((List.range n).map fun (i : Nat) => (i : Int)).Nodup := by
    refine List.Pairwise.map _ (fun a b hab => ?_) List.nodup_range
    intro z; exact hab (by exact_mod_cast z)
  constructor
  · intro hl
    by_cases hx : ∃ j : Nat, j < n ∧ (j : Int) ∉ ns
    · exact hx
    · exfalso
      have := nodup_le hr (m := uniq ns) fun x hx' => by
        obtain ⟨i, hi, rfl⟩ := List.mem_map.mp hx'
        have hi : i < n := List.mem_range.mp hi
        rw [uniq_mem]
        exact Classical.byContradiction fun z => hx ⟨i, hi, z⟩
      simp at this
      omega
  · rintro ⟨j, hj, hn⟩
    have := nodup_le uniq_nodup (l := uniq ns) (m := ((List.range n).map fun (i : Nat) => (i : Int)).erase (j : Int)) fun x hx => by
      rw [uniq_mem] at hx
      have hne : x ≠ (j : Int) := fun z => hn (z ▸ hx)
      rw [List.mem_erase_of_ne hne]
      obtain ⟨h0, h1⟩ := h x hx
      exact List.mem_map.mpr ⟨x.toNat, List.mem_range.mpr (by omega), by omega⟩
    rw [List.length_erase_of_mem (List.mem_map.mpr ⟨j, List.mem_range.mpr hj, rfl⟩)] at this
    simp at this
    omega
end Pl

set_option Elab.async false
set_option linter.all false
set_option maxRecDepth 100000
set_option maxHeartbeats 4000000
namespace K48
open PySem PySem.Spec PyProof.Rows L2 Dn
noncomputable section
def topS (i : Nat) : Stmt := PySem.Challenge.pw_sweepends_k48_whole_tidy_steps.main.body.getD i (.Pass ⟨0, 0, 0, 0⟩)
abbrev s__law_cup : Stmt := topS 23
abbrev s__law_one_of : Stmt := topS 24
abbrev s__law_drawn : Stmt := topS 25
abbrev s__law_is_due : Stmt := topS 26
abbrev s_is_whole : Stmt := topS 1
abbrev s_is_between : Stmt := topS 2
abbrev s_check_number : Stmt := topS 9
abbrev s_check_size : Stmt := topS 12
abbrev s_are_wholes : Stmt := topS 3
abbrev s_is_step : Stmt := topS 15
abbrev s_first_wrong : Stmt := topS 16
abbrev s_check_steps : Stmt := topS 17
abbrev s_are_in_time : Stmt := topS 18
abbrev s_are_all_taken : Stmt := topS 19
abbrev s_is_tidy : Stmt := topS 20
abbrev s__law_right : Stmt := topS 27
abbrev s__law_vat : Stmt := topS 22
abbrev s_law : Stmt := topS 28
/-- what stands under the names of the module -/
structure Env (K : PySem.W.Frag) (mg : Str → Option Value) : Prop where
  r__law_cup : Raw K mg "_law_cup" s__law_cup
  r__law_one_of : Raw K mg "_law_one_of" s__law_one_of
  r__law_drawn : Raw K mg "_law_drawn" s__law_drawn
  r__law_is_due : Raw K mg "_law_is_due" s__law_is_due
  r_is_whole : Raw K mg "is_whole" s_is_whole
  r_is_between : Raw K mg "is_between" s_is_between
  r_check_number : Raw K mg "check_number" s_check_number
  r_check_size : Raw K mg "check_size" s_check_size
  r_are_wholes : Raw K mg "are_wholes" s_are_wholes
  r_is_step : Raw K mg "is_step" s_is_step
  r_first_wrong : Raw K mg "first_wrong" s_first_wrong
  r_check_steps : Raw K mg "check_steps" s_check_steps
  r_are_in_time : Raw K mg "are_in_time" s_are_in_time
  r_are_all_taken : Raw K mg "are_all_taken" s_are_all_taken
  r_is_tidy : Raw K mg "is_tidy" s_is_tidy
  r__law_right : Raw K mg "_law_right" s__law_right
  r__law_vat : Raw K mg "_law_vat" s__law_vat
  r_law : Raw K mg "law" s_law
  z_abs : mg "abs" = none
  z_all : mg "all" = none
  z_bool : mg "bool" = none
  z_divmod : mg "divmod" = none
  z_enumerate : mg "enumerate" = none
  z_int : mg "int" = none
  z_isinstance : mg "isinstance" = none
  z_len : mg "len" = none
  z_max : mg "max" = none
  z_range : mg "range" = none
  z_repr : mg "repr" = none
  z_set : mg "set" = none
  z_sum : mg "sum" = none
  z_tuple : mg "tuple" = none
  z_zip : mg "zip" = none
  c_MOST_LATE : KGl K mg "MOST_LATE" (.int 200)
  c_MOST_SIZE : KGl K mg "MOST_SIZE" (.int 5)
def d__law_cup : TSD := (sSeq2 (sIf (bVal (dOp pGt (dCons (dOp pIx (dCons (dLoc 0) (dCons (dCon (.int 0)) dNil))) (dCons (dCon (.int 0)) dNil)))) (sSeq2 (sAsg (dOp pDivmod (dCons (dOp pIx (dCons (dLoc 0) (dCons (dCon (.int 0)) dNil))) (dCons (dLoc 1) dNil))) (gTupD 2 (gsCons (tSub 0 (dCon (.int 0))) (gsCons (tName 3) gsNil))))
  (sSeq2 (sRet (dLoc 3))
  sSkip)) sSkip)
  (sSeq2 (sAsg (dOp pAdd (dCons (dOp pIx (dCons (dLoc 0) (dCons (dCon (.int 2)) dNil))) (dCons (dCon (.int 1)) dNil))) (tSub 0 (dCon (.int 2))))
  (sSeq2 (sAsg (dOp pMod (dCons (dOp pInt (dCons (dOp pAdd (dCons (dOp pAdd (dCons (dOp pMul (dCons (dOp pIx (dCons (dLoc 0) (dCons (dCon (.int 1)) dNil))) (dCons (dCon (.int 40771)) dNil))) (dCons (dOp pMul (dCons (dOp pIx (dCons (dLoc 0) (dCons (dCon (.int 2)) dNil))) (dCons (dCon (.int 52391)) dNil))) dNil))) (dCons (dCon (.int 19)) dNil))) dNil)) (dCons (dCon (.int 2147483353)) dNil))) (tName 2))
  (sSeq2 (sAsg (dOp pMod (dCons (dOp pInt (dCons (dOp pAdd (dCons (dOp pMul (dCons (dLoc 2) (dCons (dOp pAdd (dCons (dOp pMul (dCons (dCon (.int 2)) (dCons (dOp pDiv (dCons (dLoc 2) (dCons (dCon (.int 29)) dNil))) dNil))) (dCons (dCon (.int 18979)) dNil))) dNil))) (dCons (dOp pIx (dCons (dLoc 0) (dCons (dCon (.int 2)) dNil))) dNil))) dNil)) (dCons (dCon (.int 2147483353)) dNil))) (tSub 0 (dCon (.int 1))))
  (sSeq2 (sRet (dOp pMod (dCons (dOp pInt (dCons (dOp pDiv (dCons (dOp pIx (dCons (dLoc 0) (dCons (dCon (.int 1)) dNil))) (dCons (dCon (.int 109)) dNil))) dNil)) (dCons (dLoc 1) dNil))))
  sSkip)))))
def F__law_cup : List D → List D → Option (R × List D) := runW 2 4 d__law_cup
theorem sc__law_cup : FnScope ["vat", "many", "lap", "found"] ["vat", "many"] (defScope s__law_cup) := ⟨rfl, rfl, rfl, by decide +kernel, rfl, by decide +kernel, by decide +kernel⟩
theorem g__law_cup {P : Program} {w : World} {K : PySem.W.Frag} {mg : Str → Option Value} {base : Heap} (V : Env K mg) : CalV P w K mg base 1 "_law_cup" s__law_cup ["vat", "many"] F__law_cup := by
  refine cal_v V.r__law_cup sc__law_cup (fun _ _ _ _ _ _ us hl => match us, hl with | [_, _], _ => rfl) fun f cdv A outer s H E hr hG => ?_
  have ND := sc__law_cup.nd
  exact (dss_cons (ds_if (dt_cmp o_gt (de_ix o_ix (de_loc (i := 0) rfl (vis_of rfl) rfl rfl) de_int (fun _ _ => rfl)) de_int (nomark _)) (dss_cons (ds_asg (de_callB c_divmod rfl V.z_divmod bt_divmod (da_cons (de_ix o_ix (de_loc (i := 0) rfl (vis_of rfl) rfl rfl) de_int (fun _ _ => rfl)) (da_cons (de_loc (i := 1) rfl (vis_of rfl) rfl rfl) da_nil rfl) rfl) (by decide) rfl rfl rfl) (dg_tup rfl (dgs_cons (dg_sub (i := 0) (pe_var rfl (vis_of rfl) rfl rfl) de_int (fun _ => rfl)) (dgs_cons (dg_name (i := 3) ND rfl (loc_of rfl) (lfn_of rfl)) dgs_nil rfl) rfl) rfl rfl) rfl rfl rfl)
  (dss_cons (ds_ret (de_loc (i := 3) rfl (vis_of rfl) rfl rfl))
  dss_nil)) dss_nil)
  (dss_cons (ds_asg (de_bin o_add (de_ix o_ix (de_loc (i := 0) rfl (vis_of rfl) rfl rfl) de_int (fun _ _ => rfl)) de_int) (dg_sub (i := 0) (pe_var rfl (vis_of rfl) rfl rfl) de_int (fun _ => rfl)) rfl rfl rfl)
  (dss_cons (ds_asg (de_bin o_mod (de_callTy c_int rfl V.z_int bt_int (da_cons (de_bin o_add (de_bin o_add (de_bin o_mul (de_ix o_ix (de_loc (i := 0) rfl (vis_of rfl) rfl rfl) de_int (fun _ _ => rfl)) de_int) (de_bin o_mul (de_ix o_ix (de_loc (i := 0) rfl (vis_of rfl) rfl rfl) de_int (fun _ _ => rfl)) de_int)) de_int) da_nil rfl) (by decide) rfl rfl rfl) de_int) (dg_name (i := 2) ND rfl (loc_of rfl) (lfn_of rfl)) rfl rfl rfl)
  (dss_cons (ds_asg (de_bin o_mod (de_callTy c_int rfl V.z_int bt_int (da_cons (de_bin o_add (de_bin o_mul (de_loc (i := 2) rfl (vis_of rfl) rfl rfl) (de_bin o_add (de_bin o_mul de_int (de_bin o_div (de_loc (i := 2) rfl (vis_of rfl) rfl rfl) de_int)) de_int)) (de_ix o_ix (de_loc (i := 0) rfl (vis_of rfl) rfl rfl) de_int (fun _ _ => rfl))) da_nil rfl) (by decide) rfl rfl rfl) de_int) (dg_sub (i := 0) (pe_var rfl (vis_of rfl) rfl rfl) de_int (fun _ => rfl)) rfl rfl rfl)
  (dss_cons (ds_ret (de_bin o_mod (de_callTy c_int rfl V.z_int bt_int (da_cons (de_bin o_div (de_ix o_ix (de_loc (i := 0) rfl (vis_of rfl) rfl rfl) de_int (fun _ _ => rfl)) de_int) da_nil rfl) (by decide) rfl rfl rfl) (de_loc (i := 1) rfl (vis_of rfl) rfl rfl)))
  dss_nil)))))
def d__law_one_of : TSD := (sSeq2 (sRet (dOp pIx (dCons (dLoc 1) (dCons (dCallV F__law_cup (dCons (dLoc 0) (dCons (dOp pLen (dCons (dLoc 1) dNil)) dNil))) dNil))))
  sSkip)
def F__law_one_of : List D → List D → Option (R × List D) := runW 2 2 d__law_one_of
theorem sc__law_one_of : FnScope ["vat", "some"] ["vat", "some"] (defScope s__law_one_of) := ⟨rfl, rfl, rfl, by decide +kernel, rfl, by decide +kernel, by decide +kernel⟩
theorem g__law_one_of {P : Program} {w : World} {K : PySem.W.Frag} {mg : Str → Option Value} {base : Heap} (V : Env K mg) : CalV P w K mg base 2 "_law_one_of" s__law_one_of ["vat", "some"] F__law_one_of := by
  have C__law_cup : CalV P w K mg base 1 "_law_cup" _ _ _ := (g__law_cup V).up (by decide)
  refine cal_v V.r__law_one_of sc__law_one_of (fun _ _ _ _ _ _ us hl => match us, hl with | [_, _], _ => rfl) fun f cdv A outer s H E hr hG => ?_
  have ND := sc__law_one_of.nd
  exact (dss_cons (ds_ret (de_ix o_ix (de_loc (i := 1) rfl (vis_of rfl) rfl rfl) (de_v C__law_cup hr hG rfl (da_cons (de_loc (i := 0) rfl (vis_of rfl) rfl rfl) (da_cons (de_callB c_len rfl V.z_len bt_len (da_cons (de_loc (i := 1) rfl (vis_of rfl) rfl rfl) da_nil rfl) (by decide) rfl rfl rfl) da_nil rfl) rfl) rfl rfl rfl) (fun _ _ => rfl)))
  dss_nil)
def d__law_drawn : TSD := (sSeq2 (sAsgT (dCons (dLst dNil) (dCons (dOp pMul (dCons (dLst (dCons (dCon (.int 1)) dNil)) (dCons (dLoc 1) dNil))) (dCons (dLst dNil) dNil))) 3 (gsCons (tName 4) (gsCons (tName 5) (gsCons (tName 6) gsNil))))
  (sSeq2 (sAsgT (dCons (dOp pEq (dCons (dCallV F__law_cup (dCons (dLoc 0) (dCons (dCon (.int 4)) dNil))) (dCons (dCon (.int 0)) dNil))) (dCons (dCallV F__law_one_of (dCons (dLoc 0) (dCons (dTup (dCons (dCon (.int 1)) (dCons (dCon (.int 1)) (dCons (dCon (.int 2)) (dCons (dCon (.int 3)) dNil))))) dNil))) dNil)) 2 (gsCons (tName 7) (gsCons (tName 8) gsNil)))
  (sSeq2 (sFor (sRg1 (dLoc 2)) (tName 3) (sSeq2 (sIf (bVal (dOp pEq (dCons (dLoc 6) (dCons (dLst dNil) dNil)))) (sSeq2 (sAsg (dComp [12] (sRg1 (dLoc 1)) (tName 12) bYes (dOp pMod (dCons (dOp pInt (dCons (dOp pAdd (dCons (dLoc 12) (dCons (dLoc 3) dNil))) dNil)) (dCons (dLoc 1) dNil)))) (tName 6))
  (sSeq2 (sAsg (dIf (bVal (dOp pEq (dCons (dCallV F__law_cup (dCons (dLoc 0) (dCons (dCon (.int 2)) dNil))) (dCons (dCon (.int 0)) dNil)))) (dOp pRev (dCons (dLoc 6) dNil)) (dLoc 6)) (tName 6))
  sSkip)) sSkip)
  (sSeq2 (sAsgT (dCons (dOp pIx (dCons (dLoc 6) (dCons (dCon (.int 0)) dNil))) (dCons (dLst dNil) dNil)) 2 (gsCons (tName 9) (gsCons (tName 11) gsNil)))
  (sSeq2 (sAsg (dCut (dLoc 6) (iOf (dCon (.int 1))) iNo) (tName 6))
  (sSeq2 (sAsg (dIf (bTru (dLoc 7)) (dCallV F__law_cup (dCons (dLoc 0) (dCons (dLoc 1) dNil))) (dLoc 9)) (tName 9))
  (sSeq2 (sFor (sRg1 (dLoc 1)) (tName 10) (sSeq2 (sExp (dApp 11 (dOp pMax (dCons (dCon (.int 0)) (dCons (dOp pSub (dCons (dOp pIx (dCons (dLoc 5) (dCons (dLoc 10) dNil))) (dCons (dCallV F__law_cup (dCons (dLoc 0) (dCons (dLoc 8) dNil))) dNil))) dNil)))))
  sSkip))
  (sSeq2 (sExp (dApp 4 (dTup (dCons (dLoc 9) (dCons (dOp pTuple (dCons (dLoc 11) dNil)) dNil)))))
  (sSeq2 (sAsg (dOp pAdd (dCons (dOp pIx (dCons (dLoc 5) (dCons (dLoc 9) dNil))) (dCons (dCon (.int 1)) dNil))) (tSub 5 (dLoc 9)))
  sSkip))))))))
  (sSeq2 (sRet (dOp pTuple (dCons (dLoc 4) dNil)))
  sSkip))))
def F__law_drawn : List D → List D → Option (R × List D) := runW 3 13 d__law_drawn
theorem sc__law_drawn : FnScope ["vat", "n", "many", "lap", "found", "last", "order", "is_wild", "old", "i", "j", "picks", "k"] ["vat", "n", "many"] (defScope s__law_drawn) := ⟨rfl, rfl, rfl, by decide +kernel, rfl, by decide +kernel, by decide +kernel⟩
theorem g__law_drawn {P : Program} {w : World} {K : PySem.W.Frag} {mg : Str → Option Value} {base : Heap} (V : Env K mg) : CalV P w K mg base 3 "_law_drawn" s__law_drawn ["vat", "n", "many"] F__law_drawn := by
  have C__law_cup : CalV P w K mg base 2 "_law_cup" _ _ _ := (g__law_cup V).up (by decide)
  have C__law_one_of : CalV P w K mg base 2 "_law_one_of" _ _ _ := (g__law_one_of V).up (by decide)
  refine cal_v V.r__law_drawn sc__law_drawn (fun _ _ _ _ _ _ us hl => match us, hl with | [_, _, _], _ => rfl) fun f cdv A outer s H E hr hG => ?_
  have ND := sc__law_drawn.nd
  exact (dss_cons (ds_par3 (i := 4) (j := 5) (l := 6) rfl ND rfl rfl rfl (by decide) (by decide) (by decide) rfl rfl rfl (da_cons (de_lst da_nil) (da_cons (de_bin o_mul (de_lst (da_cons de_int da_nil rfl)) (de_loc (i := 1) rfl (vis_of rfl) rfl rfl)) (da_cons (de_lst da_nil) da_nil rfl) rfl) rfl) rfl rfl)
  (dss_cons (ds_par (i := 7) (j := 8) rfl ND rfl rfl (by decide) rfl rfl (da_cons (de_cmp (o_eq (huo hr)) (de_v C__law_cup hr hG rfl (da_cons (de_loc (i := 0) rfl (vis_of rfl) rfl rfl) (da_cons de_int da_nil rfl) rfl) rfl rfl rfl) de_int (nomark _)) (da_cons (de_v C__law_one_of hr hG rfl (da_cons (de_loc (i := 0) rfl (vis_of rfl) rfl rfl) (da_cons (de_tup (da_cons de_int (da_cons de_int (da_cons de_int (da_cons de_int da_nil rfl) rfl) rfl) rfl)) da_nil rfl) rfl) rfl rfl rfl) da_nil rfl) rfl) rfl rfl)
  (dss_cons (ds_for PassesOwn.never rfl (di_rg1 rfl V.z_range (de_loc (i := 2) rfl (vis_of rfl) rfl rfl) rfl) (dg_name (i := 3) ND rfl (loc_of rfl) (lfn_of rfl)) (dss_cons (ds_if (dt_cmp (o_eq (huo hr)) (de_loc (i := 6) rfl (vis_of rfl) rfl rfl) (de_lst da_nil) (nomark _)) (dss_cons (ds_setLc (i := 6) rfl (own := [("k", 12)]) ND rfl rfl rfl (di_rg1 rfl V.z_range (de_loc (i := 1) rfl (vis_of rfl) rfl rfl) rfl) (blkOk_by rfl) (fun _ _ _ _ _ => (dg_name (i := 12) ND rfl (loc_of rfl) (lfn_of rfl))) (fun _ _ _ _ _ => pts_yes) (fun _ _ _ _ _ => (de_bin o_mod (de_callTy c_int rfl V.z_int bt_int (da_cons (de_bin o_add (de_loc (i := 12) rfl (vis_of rfl) rfl rfl) (de_loc (i := 3) rfl (vis_of rfl) rfl rfl)) da_nil rfl) (by decide) rfl rfl rfl) (de_loc (i := 1) rfl (vis_of rfl) rfl rfl))) (fun _ => rfl) (by decide))
  (dss_cons (ds_asg (de_if (dt_cmp (o_eq (huo hr)) (de_v C__law_cup hr hG rfl (da_cons (de_loc (i := 0) rfl (vis_of rfl) rfl rfl) (da_cons de_int da_nil rfl) rfl) rfl rfl rfl) de_int (nomark _)) (de_rev (de_loc (i := 6) rfl (vis_of rfl) rfl rfl)) (de_loc (i := 6) rfl (vis_of rfl) rfl rfl)) (dg_name (i := 6) ND rfl (loc_of rfl) (lfn_of rfl)) rfl rfl rfl)
  dss_nil)) dss_nil)
  (dss_cons (ds_par (i := 9) (j := 11) rfl ND rfl rfl (by decide) rfl rfl (da_cons (de_ix o_ix (de_loc (i := 6) rfl (vis_of rfl) rfl rfl) de_int (fun _ _ => rfl)) (da_cons (de_lst da_nil) da_nil rfl) rfl) rfl rfl)
  (dss_cons (ds_asg (de_cut (de_loc (i := 6) rfl (vis_of rfl) rfl rfl) (do_some de_int) do_none) (dg_name (i := 6) ND rfl (loc_of rfl) (lfn_of rfl)) rfl rfl rfl)
  (dss_cons (ds_asg (de_if (dt_tru (de_loc (i := 7) rfl (vis_of rfl) rfl rfl) (fun _ => rfl)) (de_v C__law_cup hr hG rfl (da_cons (de_loc (i := 0) rfl (vis_of rfl) rfl rfl) (da_cons (de_loc (i := 1) rfl (vis_of rfl) rfl rfl) da_nil rfl) rfl) rfl rfl rfl) (de_loc (i := 9) rfl (vis_of rfl) rfl rfl)) (dg_name (i := 9) ND rfl (loc_of rfl) (lfn_of rfl)) rfl rfl rfl)
  (dss_cons (ds_for PassesOwn.never rfl (di_rg1 rfl V.z_range (de_loc (i := 1) rfl (vis_of rfl) rfl rfl) rfl) (dg_name (i := 10) ND rfl (loc_of rfl) (lfn_of rfl)) (dss_cons (ds_exp (de_app (i := 11) (pe_var rfl (vis_of rfl) rfl rfl) (de_callB (c_max rfl) rfl V.z_max bt_max (da_cons de_int (da_cons (de_bin o_sub (de_ix o_ix (de_loc (i := 5) rfl (vis_of rfl) rfl rfl) (de_loc (i := 10) rfl (vis_of rfl) rfl rfl) (fun _ _ => rfl)) (de_v C__law_cup hr hG rfl (da_cons (de_loc (i := 0) rfl (vis_of rfl) rfl rfl) (da_cons (de_loc (i := 8) rfl (vis_of rfl) rfl rfl) da_nil rfl) rfl) rfl rfl rfl)) da_nil rfl) rfl) (by decide) rfl rfl rfl) (fun m h1 h2 => pe_bm PySem.F.plainAttrs_list PySem.F.slot_list_append PySem.F.type_list_append m h1 h2) rfl) rfl)
  dss_nil) (fun _ => rfl))
  (dss_cons (ds_exp (de_app (i := 4) (pe_var rfl (vis_of rfl) rfl rfl) (de_tup (da_cons (de_loc (i := 9) rfl (vis_of rfl) rfl rfl) (da_cons (de_callTy c_tuple rfl V.z_tuple bt_tuple (da_cons (de_loc (i := 11) rfl (vis_of rfl) rfl rfl) da_nil rfl) (by decide) rfl rfl rfl) da_nil rfl) rfl)) (fun m h1 h2 => pe_bm PySem.F.plainAttrs_list PySem.F.slot_list_append PySem.F.type_list_append m h1 h2) rfl) rfl)
  (dss_cons (ds_asg (de_bin o_add (de_ix o_ix (de_loc (i := 5) rfl (vis_of rfl) rfl rfl) (de_loc (i := 9) rfl (vis_of rfl) rfl rfl) (fun _ _ => rfl)) de_int) (dg_sub (i := 5) (pe_var rfl (vis_of rfl) rfl rfl) (de_loc (i := 9) rfl (vis_of rfl) rfl rfl) (fun _ => rfl)) rfl rfl rfl)
  dss_nil))))))) (fun _ => rfl))
  (dss_cons (ds_ret (de_callTy c_tuple rfl V.z_tuple bt_tuple (da_cons (de_loc (i := 4) rfl (vis_of rfl) rfl rfl) da_nil rfl) (by decide) rfl rfl rfl))
  dss_nil))))
def d__law_is_due : TSD := (sSeq2 (sFor (sRg1 (dOp pAdd (dCons (dOp pSub (dCons (dOp pLen (dCons (dLoc 1) dNil)) (dCons (dLoc 2) dNil))) (dCons (dCon (.int 1)) dNil)))) (tName 3) (sSeq2 (sAsg (dComp [5] (sRg2 (dLoc 3) (dOp pAdd (dCons (dLoc 3) (dCons (dLoc 2) dNil)))) (tName 5) bYes (dOp pIx (dCons (dOp pIx (dCons (dLoc 1) (dCons (dLoc 5) dNil))) (dCons (dCon (.int 0)) dNil)))) (tName 6))
  (sSeq2 (sIf (bVal (dOp pNe (dCons (dComp [7] (sRg1 (dLoc 0)) (tName 7) (bVal (dOp pNotIn (dCons (dLoc 7) (dCons (dLoc 6) dNil)))) (dLoc 7)) (dCons (dLst dNil) dNil)))) (sSeq2 (sRet (dCon (.bool false)))
  sSkip) sSkip)
  sSkip)))
  (sSeq2 (sNew [7] (sRg1 (dLoc 0)) (tName 7) (dLst (dCons (dCon (.int 0)) (dCons (dCon (.int 0)) dNil))) 4)
  (sSeq2 (sFor (sRg2 (dCon (.int 1)) (dOp pAdd (dCons (dOp pLen (dCons (dLoc 1) dNil)) (dCons (dCon (.int 1)) dNil)))) (tName 5) (sSeq2 (sAsg (dOp pIx (dCons (dLoc 1) (dCons (dOp pSub (dCons (dLoc 5) (dCons (dCon (.int 1)) dNil))) dNil))) (gTupD 2 (gsCons (tName 8) (gsCons (tName 9) gsNil))))
  (sSeq2 (sFor (sRg1 (dLoc 0)) (tName 7) (sSeq2 (sIf (bAnd (bVal (dOp pLt (dCons (dOp pAdd (dCons (dOp pIx (dCons (dLoc 9) (dCons (dLoc 7) dNil))) (dCons (dCon (.int 1)) dNil))) (dCons (dOp pLen (dCons (dOp pIx (dCons (dLoc 4) (dCons (dLoc 7) dNil))) dNil)) dNil)))) (bVal (dOp pLe (dCons (dOp pIx (dCons (dOp pIx (dCons (dLoc 4) (dCons (dLoc 7) dNil))) (dCons (dOp pAdd (dCons (dOp pIx (dCons (dLoc 9) (dCons (dLoc 7) dNil))) (dCons (dCon (.int 1)) dNil))) dNil))) (dCons (dOp pSub (dCons (dLoc 5) (dCons (dLoc 2) dNil))) dNil))))) (sSeq2 (sRet (dCon (.bool false)))
  sSkip) sSkip)
  sSkip))
  (sSeq2 (sApp2 4 (dLoc 8) (dLoc 5))
  sSkip))))
  (sSeq2 (sRet (dCon (.bool true)))
  sSkip))))
def F__law_is_due : List D → Option R := runF 3 10 d__law_is_due
theorem sc__law_is_due : FnScope ["n", "steps", "number", "start", "came", "k", "taken", "j", "i", "picks"] ["n", "steps", "number"] (defScope s__law_is_due) := ⟨rfl, rfl, rfl, by decide +kernel, rfl, by decide +kernel, by decide +kernel⟩
theorem g__law_is_due {P : Program} {w : World} {K : PySem.W.Frag} {mg : Str → Option Value} {base : Heap} (V : Env K mg) : CalP P w K mg base 1 "_law_is_due" s__law_is_due ["n", "steps", "number"] F__law_is_due := by
  refine cal_p V.r__law_is_due sc__law_is_due (fun _ _ _ _ _ _ us hl => match us, hl with | [_, _, _], _ => rfl) fun f cdv A outer s H E hr hG => ?_
  have ND := sc__law_is_due.nd
  exact (dss_cons (ds_for PassesOwn.never rfl (di_rg1 rfl V.z_range (de_bin o_add (de_bin o_sub (de_callB c_len rfl V.z_len bt_len (da_cons (de_loc (i := 1) rfl (vis_of rfl) rfl rfl) da_nil rfl) (by decide) rfl rfl rfl) (de_loc (i := 2) rfl (vis_of rfl) rfl rfl)) de_int) rfl) (dg_name (i := 3) ND rfl (loc_of rfl) (lfn_of rfl)) (dss_cons (ds_asg (de_comp rfl (own := [("k", 5)]) ND (di_rg2 rfl V.z_range (de_loc (i := 3) rfl (vis_of rfl) rfl rfl) (de_bin o_add (de_loc (i := 3) rfl (vis_of rfl) rfl rfl) (de_loc (i := 2) rfl (vis_of rfl) rfl rfl)) rfl rfl) (blkOk_by rfl) (fun _ _ _ _ _ => (dg_name (i := 5) ND rfl (loc_of rfl) (lfn_of rfl))) (fun _ _ _ _ _ => pts_yes) (fun _ _ _ _ _ => (de_ix o_ix (de_ix o_ix (de_loc (i := 1) rfl (vis_of rfl) rfl rfl) (de_loc (i := 5) rfl (vis_of rfl) rfl rfl) (fun _ _ => rfl)) de_int (fun _ _ => rfl))) (fun _ => rfl) (by decide)) (dg_name (i := 6) ND rfl (loc_of rfl) (lfn_of rfl)) rfl rfl rfl)
  (dss_cons (ds_if (dt_cmp (o_ne (huo hr)) (de_comp rfl (own := [("j", 7)]) ND (di_rg1 rfl V.z_range (de_loc (i := 0) rfl (vis_of rfl) rfl rfl) rfl) (blkOk_by rfl) (fun _ _ _ _ _ => (dg_name (i := 7) ND rfl (loc_of rfl) (lfn_of rfl))) (fun _ _ _ _ _ => (pts_one (dt_cmp (o_notin (huo hr)) (de_loc (i := 7) rfl (vis_of rfl) rfl rfl) (de_loc (i := 6) rfl (vis_of rfl) rfl rfl) (by with_unfolding_all rfl)))) (fun _ _ _ _ _ => (de_loc (i := 7) rfl (vis_of rfl) rfl rfl)) (fun _ => rfl) (by decide)) (de_lst da_nil) (nomark _)) (dss_cons (ds_ret de_bl)
  dss_nil) dss_nil)
  dss_nil)) (fun _ => rfl))
  (dss_of (w := true) (dxs_new (i := 4) (own := [("j", 7)]) rfl ND rfl rfl rfl (di_rg1 rfl V.z_range (de_loc (i := 0) rfl (vis_of rfl) rfl rfl) rfl) (blkOk_by rfl) (fun _ _ _ _ _ => (dg_name (i := 7) ND rfl (loc_of rfl) (lfn_of rfl))) (fun _ _ _ _ _ => (de_lst (da_cons de_int (da_cons de_int da_nil rfl) rfl))) (fun _ => rfl) (by decide) (by decide)
  (dxs_cons (dx_forF PassesOwn.never rfl (dif_rg2 rfl V.z_range de_int (de_bin o_add (de_callB c_len rfl V.z_len bt_len (da_cons (de_loc (i := 1) rfl (vis_of rfl) rfl rfl) da_nil rfl) (by decide) rfl rfl rfl) de_int) rfl rfl) (dg_name (i := 5) ND rfl (loc_of rfl) (lfn_of rfl)) (by decide) (dxs_cons (dx_asg (de_ix o_ix (de_loc (i := 1) rfl (vis_of rfl) rfl rfl) (de_bin o_sub (de_loc (i := 5) rfl (vis_of rfl) rfl rfl) de_int) (fun _ _ => rfl)) (dg_tup rfl (dgs_cons (dg_name (i := 8) ND rfl (loc_of rfl) (lfn_of rfl)) (dgs_cons (dg_name (i := 9) ND rfl (loc_of rfl) (lfn_of rfl)) dgs_nil rfl) rfl) rfl rfl) (by decide) rfl rfl rfl)
  (dxs_cons (dx_for PassesOwn.never rfl (di_rg1 rfl V.z_range (de_loc (i := 0) rfl (vis_of rfl) rfl rfl) rfl) (dg_name (i := 7) ND rfl (loc_of rfl) (lfn_of rfl)) (by decide) (dxs_cons (dx_if (DW.dt (dw_and (dt_cmp o_lt (de_bin o_add (de_ix o_ix (de_loc (i := 9) rfl (vis_of rfl) rfl rfl) (de_loc (i := 7) rfl (vis_of rfl) rfl rfl) (fun _ _ => rfl)) de_int) (de_callB c_len rfl V.z_len bt_len (da_cons (de_ix o_ix (de_loc (i := 4) rfl (vis_of rfl) rfl rfl) (de_loc (i := 7) rfl (vis_of rfl) rfl rfl) (fun _ _ => rfl)) da_nil rfl) (by decide) rfl rfl rfl) (nomark _)) (dw_and1 (dt_cmp o_le (de_ix o_ix (de_ix o_ix (de_loc (i := 4) rfl (vis_of rfl) rfl rfl) (de_loc (i := 7) rfl (vis_of rfl) rfl rfl) (fun _ _ => rfl)) (de_bin o_add (de_ix o_ix (de_loc (i := 9) rfl (vis_of rfl) rfl rfl) (de_loc (i := 7) rfl (vis_of rfl) rfl rfl) (fun _ _ => rfl)) de_int) (fun _ _ => rfl)) (de_bin o_sub (de_loc (i := 5) rfl (vis_of rfl) rfl rfl) (de_loc (i := 2) rfl (vis_of rfl) rfl rfl)) (nomark _))))) (dxs_cons (dx_ret de_bl)
  dxs_nil) dxs_nil)
  dxs_nil) (fun _ => rfl))
  (dxs_cons (dx_app2 (i := 4) (pe_var rfl (vis_of rfl) rfl rfl) (de_loc (i := 8) rfl (vis_of rfl) rfl rfl) (fun _ _ => rfl) (de_loc (i := 5) rfl (vis_of rfl) rfl rfl) (fun m h1 h2 => pe_bm PySem.F.plainAttrs_list PySem.F.slot_list_append PySem.F.type_list_append m h1 h2) rfl rfl (by decide))
  dxs_nil))) (fun _ => rfl))
  (dxs_gen (dss_cons (ds_ret de_bl)
  dss_nil))))))
def d_is_whole : TSD := (sSeq2 (sRet (dAnd (dOp (pIsi "int") (dCons (dLoc 0) dNil)) (dNot (dOp (pIsi "bool") (dCons (dLoc 0) dNil)))))
  sSkip)
def F_is_whole : List D → Option R := runF 1 1 d_is_whole
theorem sc_is_whole : FnScope ["value"] ["value"] (defScope s_is_whole) := ⟨rfl, rfl, rfl, by decide +kernel, rfl, by decide +kernel, by decide +kernel⟩
theorem g_is_whole {P : Program} {w : World} {K : PySem.W.Frag} {mg : Str → Option Value} {base : Heap} (V : Env K mg) : CalP P w K mg base 1 "is_whole" s_is_whole ["value"] F_is_whole := by
  refine cal_p V.r_is_whole sc_is_whole (fun _ _ _ _ _ _ us hl => match us, hl with | [_], _ => rfl) fun f cdv A outer s H E hr hG => ?_
  have ND := sc_is_whole.nd
  exact (dss_cons (ds_ret (de_and (de_isi (T := "int") (by decide) rfl V.z_isinstance rfl V.z_int bt_int (by decide) rfl (de_loc (i := 0) rfl (vis_of rfl) rfl rfl) rfl) (de_one (de_not (de_isi (T := "bool") (by decide) rfl V.z_isinstance rfl V.z_bool bt_bool (by decide) rfl (de_loc (i := 0) rfl (vis_of rfl) rfl rfl) rfl)))))
  dss_nil)
def d_is_between : TSD := (sSeq2 (sRet (dAnd (dCall F_is_whole (dCons (dLoc 0) dNil)) (dAnd (dOp pLe (dCons (dLoc 1) (dCons (dLoc 0) dNil))) (dOp pLe (dCons (dLoc 0) (dCons (dLoc 2) dNil))))))
  sSkip)
def F_is_between : List D → Option R := runF 3 3 d_is_between
theorem sc_is_between : FnScope ["value", "low", "high"] ["value", "low", "high"] (defScope s_is_between) := ⟨rfl, rfl, rfl, by decide +kernel, rfl, by decide +kernel, by decide +kernel⟩
theorem g_is_between {P : Program} {w : World} {K : PySem.W.Frag} {mg : Str → Option Value} {base : Heap} (V : Env K mg) : CalP P w K mg base 2 "is_between" s_is_between ["value", "low", "high"] F_is_between := by
  have C_is_whole : CalP P w K mg base 1 "is_whole" _ _ _ := (g_is_whole V).up (by decide)
  refine cal_p V.r_is_between sc_is_between (fun _ _ _ _ _ _ us hl => match us, hl with | [_, _, _], _ => rfl) fun f cdv A outer s H E hr hG => ?_
  have ND := sc_is_between.nd
  exact (dss_cons (ds_ret (de_and (de_p C_is_whole hr hG rfl (da_cons (de_loc (i := 0) rfl (vis_of rfl) rfl rfl) da_nil rfl) rfl rfl rfl) (de_and (de_cmp o_le (de_loc (i := 1) rfl (vis_of rfl) rfl rfl) (de_loc (i := 0) rfl (vis_of rfl) rfl rfl) (nomark _)) (de_one (de_cmp o_le (de_loc (i := 0) rfl (vis_of rfl) rfl rfl) (de_loc (i := 2) rfl (vis_of rfl) rfl rfl) (nomark _))))))
  dss_nil)
def d_check_number : TSD := (sSeq2 (sIf (bNot (bTru (dCall F_is_between (dCons (dLoc 0) (dCons (dLoc 1) (dCons (dLoc 2) dNil)))))) (sSeq2 sNone
  sSkip) sSkip)
  sSkip)
def F_check_number : List D → Option R := runF 3 3 d_check_number
theorem sc_check_number : FnScope ["value", "low", "high"] ["value", "low", "high"] (defScope s_check_number) := ⟨rfl, rfl, rfl, by decide +kernel, rfl, by decide +kernel, by decide +kernel⟩
theorem g_check_number {P : Program} {w : World} {K : PySem.W.Frag} {mg : Str → Option Value} {base : Heap} (V : Env K mg) : CalP P w K mg base 3 "check_number" s_check_number ["value", "low", "high"] F_check_number := by
  have C_is_between : CalP P w K mg base 2 "is_between" _ _ _ := (g_is_between V).up (by decide)
  refine cal_p V.r_check_number sc_check_number (fun _ _ _ _ _ _ us hl => match us, hl with | [_, _, _], _ => rfl) fun f cdv A outer s H E hr hG => ?_
  have ND := sc_check_number.nd
  exact (dss_cons (ds_if (dt_not (dt_tru (de_p C_is_between hr hG rfl (da_cons (de_loc (i := 0) rfl (vis_of rfl) rfl rfl) (da_cons (de_loc (i := 1) rfl (vis_of rfl) rfl rfl) (da_cons (de_loc (i := 2) rfl (vis_of rfl) rfl rfl) da_nil rfl) rfl) rfl) rfl rfl rfl) (fun _ => rfl))) (dss_cons ds_no
  dss_nil) dss_nil)
  dss_nil)
def d_check_size : TSD := (sSeq2 (sExp (dCall F_check_number (dCons (dLoc 0) (dCons (dCon (.int 1)) (dCons (dCon (.int 5)) dNil)))))
  sSkip)
def F_check_size : List D → Option R := runF 1 1 d_check_size
theorem sc_check_size : FnScope ["value"] ["value"] (defScope s_check_size) := ⟨rfl, rfl, rfl, by decide +kernel, rfl, by decide +kernel, by decide +kernel⟩
theorem g_check_size {P : Program} {w : World} {K : PySem.W.Frag} {mg : Str → Option Value} {base : Heap} (V : Env K mg) : CalP P w K mg base 4 "check_size" s_check_size ["value"] F_check_size := by
  have C_check_number : CalP P w K mg base 3 "check_number" _ _ _ := (g_check_number V).up (by decide)
  refine cal_p V.r_check_size sc_check_size (fun _ _ _ _ _ _ us hl => match us, hl with | [_], _ => rfl) fun f cdv A outer s H E hr hG => ?_
  have ND := sc_check_size.nd
  exact (dss_cons (ds_exp (de_p C_check_number hr hG rfl (da_cons (de_loc (i := 0) rfl (vis_of rfl) rfl rfl) (da_cons de_int (da_cons (de_gl V.c_MOST_SIZE rfl rfl) da_nil rfl) rfl) rfl) rfl rfl rfl) rfl)
  dss_nil)
def d_are_wholes : TSD := (sSeq2 (sRet (dAnd (dOp (pIsi "tuple") (dCons (dLoc 0) dNil)) (dAnd (dOp pEq (dCons (dOp pLen (dCons (dLoc 0) dNil)) (dCons (dLoc 1) dNil))) (dOp pEq (dCons (dComp [2] (sSeq (dLoc 0)) (tName 2) (bNot (bTru (dCall F_is_whole (dCons (dLoc 2) dNil)))) (dLoc 2)) (dCons (dLst dNil) dNil))))))
  sSkip)
def F_are_wholes : List D → Option R := runF 2 3 d_are_wholes
theorem sc_are_wholes : FnScope ["value", "many", "each"] ["value", "many"] (defScope s_are_wholes) := ⟨rfl, rfl, rfl, by decide +kernel, rfl, by decide +kernel, by decide +kernel⟩
theorem g_are_wholes {P : Program} {w : World} {K : PySem.W.Frag} {mg : Str → Option Value} {base : Heap} (V : Env K mg) : CalP P w K mg base 2 "are_wholes" s_are_wholes ["value", "many"] F_are_wholes := by
  have C_is_whole : CalP P w K mg base 1 "is_whole" _ _ _ := (g_is_whole V).up (by decide)
  refine cal_p V.r_are_wholes sc_are_wholes (fun _ _ _ _ _ _ us hl => match us, hl with | [_, _], _ => rfl) fun f cdv A outer s H E hr hG => ?_
  have ND := sc_are_wholes.nd
  exact (dss_cons (ds_ret (de_and (de_isi (T := "tuple") (by decide) rfl V.z_isinstance rfl V.z_tuple bt_tuple (by decide) rfl (de_loc (i := 0) rfl (vis_of rfl) rfl rfl) rfl) (de_and (de_cmp (o_eq (huo hr)) (de_callB c_len rfl V.z_len bt_len (da_cons (de_loc (i := 0) rfl (vis_of rfl) rfl rfl) da_nil rfl) (by decide) rfl rfl rfl) (de_loc (i := 1) rfl (vis_of rfl) rfl rfl) (nomark _)) (de_one (de_cmp (o_eq (huo hr)) (de_comp rfl (own := [("each", 2)]) ND (di_seq (de_loc (i := 0) rfl (vis_of rfl) rfl rfl)) (blkOk_by rfl) (fun _ _ _ _ _ => (dg_name (i := 2) ND rfl (loc_of rfl) (lfn_of rfl))) (fun _ _ _ _ _ => (pts_one (dt_not (dt_tru (de_p C_is_whole hr hG rfl (da_cons (de_loc (i := 2) rfl (vis_of rfl) rfl rfl) da_nil rfl) rfl rfl rfl) (fun _ => rfl))))) (fun _ _ _ _ _ => (de_loc (i := 2) rfl (vis_of rfl) rfl rfl)) (fun _ => rfl) (by decide)) (de_lst da_nil) (nomark _))))))
  dss_nil)
def d_is_step : TSD := (sSeq2 (sAsg (dOp pLen (dCons (dLoc 1) dNil)) (tName 2))
  (sSeq2 (sIf (bOr (bNot (bTru (dOp (pIsi "tuple") (dCons (dLoc 0) dNil)))) (bOr (bVal (dOp pNe (dCons (dOp pLen (dCons (dLoc 0) dNil)) (dCons (dCon (.int 2)) dNil)))) (bNot (bTru (dCall F_is_between (dCons (dOp pIx (dCons (dLoc 0) (dCons (dCon (.int 0)) dNil))) (dCons (dCon (.int 0)) (dCons (dOp pSub (dCons (dLoc 2) (dCons (dCon (.int 1)) dNil))) dNil)))))))) (sSeq2 (sRet (dCon (.bool false)))
  sSkip) sSkip)
  (sSeq2 (sIf (bNot (bTru (dCall F_are_wholes (dCons (dOp pIx (dCons (dLoc 0) (dCons (dCon (.int 1)) dNil))) (dCons (dLoc 2) dNil))))) (sSeq2 (sRet (dCon (.bool false)))
  sSkip) sSkip)
  (sSeq2 (sRet (dOp pAll (dCons (dComp [3, 4] (sZipM (dOp pIx (dCons (dLoc 0) (dCons (dCon (.int 1)) dNil))) (dLoc 1)) (gTupD 2 (gsCons (tName 3) (gsCons (tName 4) gsNil))) bYes (dChain (fun i j => decide (i ≤ j)) (fun i j => decide (i < j)) (dCon (.int 0)) (dLoc 3) (dLoc 4))) dNil)))
  sSkip))))
def F_is_step : List D → Option R := runF 2 5 d_is_step
theorem sc_is_step : FnScope ["value", "counts", "size", "pick", "count"] ["value", "counts"] (defScope s_is_step) := ⟨rfl, rfl, rfl, by decide +kernel, rfl, by decide +kernel, by decide +kernel⟩
theorem g_is_step {P : Program} {w : World} {K : PySem.W.Frag} {mg : Str → Option Value} {base : Heap} (V : Env K mg) : CalP P w K mg base 3 "is_step" s_is_step ["value", "counts"] F_is_step := by
  have C_are_wholes : CalP P w K mg base 2 "are_wholes" _ _ _ := (g_are_wholes V).up (by decide)
  have C_is_between : CalP P w K mg base 2 "is_between" _ _ _ := (g_is_between V).up (by decide)
  refine cal_p V.r_is_step sc_is_step (fun _ _ _ _ _ _ us hl => match us, hl with | [_, _], _ => rfl) fun f cdv A outer s H E hr hG => ?_
  have ND := sc_is_step.nd
  exact (dss_cons (ds_asg (de_callB c_len rfl V.z_len bt_len (da_cons (de_loc (i := 1) rfl (vis_of rfl) rfl rfl) da_nil rfl) (by decide) rfl rfl rfl) (dg_name (i := 2) ND rfl (loc_of rfl) (lfn_of rfl)) rfl rfl rfl)
  (dss_cons (ds_if (DW.dt (dw_or (dt_not (dt_tru (de_isi (T := "tuple") (by decide) rfl V.z_isinstance rfl V.z_tuple bt_tuple (by decide) rfl (de_loc (i := 0) rfl (vis_of rfl) rfl rfl) rfl) (fun _ => rfl))) (dw_or (dt_cmp (o_ne (huo hr)) (de_callB c_len rfl V.z_len bt_len (da_cons (de_loc (i := 0) rfl (vis_of rfl) rfl rfl) da_nil rfl) (by decide) rfl rfl rfl) de_int (nomark _)) (dw_or1 (dt_not (dt_tru (de_p C_is_between hr hG rfl (da_cons (de_ix o_ix (de_loc (i := 0) rfl (vis_of rfl) rfl rfl) de_int (fun _ _ => rfl)) (da_cons de_int (da_cons (de_bin o_sub (de_loc (i := 2) rfl (vis_of rfl) rfl rfl) de_int) da_nil rfl) rfl) rfl) rfl rfl rfl) (fun _ => rfl))))))) (dss_cons (ds_ret de_bl)
  dss_nil) dss_nil)
  (dss_cons (ds_if (dt_not (dt_tru (de_p C_are_wholes hr hG rfl (da_cons (de_ix o_ix (de_loc (i := 0) rfl (vis_of rfl) rfl rfl) de_int (fun _ _ => rfl)) (da_cons (de_loc (i := 2) rfl (vis_of rfl) rfl rfl) da_nil rfl) rfl) rfl rfl rfl) (fun _ => rfl))) (dss_cons (ds_ret de_bl)
  dss_nil) dss_nil)
  (dss_cons (ds_ret (de_callB (c_all rfl) rfl V.z_all bt_all (da_cons (de_comp rfl (own := [("pick", 3), ("count", 4)]) ND (di_zipM rfl V.z_zip (de_ix o_ix (de_loc (i := 0) rfl (vis_of rfl) rfl rfl) de_int (fun _ _ => rfl)) (de_loc (i := 1) rfl (vis_of rfl) rfl rfl) rfl rfl rfl) (blkOk_by rfl) (fun _ _ _ _ _ => (dg_tup rfl (dgs_cons (dg_name (i := 3) ND rfl (loc_of rfl) (lfn_of rfl)) (dgs_cons (dg_name (i := 4) ND rfl (loc_of rfl) (lfn_of rfl)) dgs_nil rfl) rfl) rfl rfl)) (fun _ _ _ _ _ => pts_yes) (fun _ _ _ _ _ => (de_chain op_le op_lt de_int (de_loc (i := 3) rfl (vis_of rfl) rfl rfl) (de_loc (i := 4) rfl (vis_of rfl) rfl rfl) rfl)) (fun _ => rfl) (by decide)) da_nil rfl) (by decide) rfl rfl rfl))
  dss_nil))))
def d_first_wrong : TSD := (sSeq2 (sAsg (dOp pMul (dCons (dLst (dCons (dCon (.int 2)) dNil)) (dCons (dLoc 0) dNil))) (tName 2))
  (sSeq2 (sFor (sEnumA (dLoc 1)) (gTupD 2 (gsCons (tName 3) (gsCons (tName 4) gsNil))) (sSeq2 (sIf (bOr (bVal (dOp pEq (dCons (dLoc 3) (dCons (dCon (.int 200)) dNil)))) (bNot (bTru (dCallL F_is_step (dCons (dLoc 4) (dCons (dLoc 2) dNil)))))) (sSeq2 (sRet (dLoc 3))
  sSkip) sSkip)
  (sSeq2 (sAsg (dOp pAdd (dCons (dOp pIx (dCons (dLoc 2) (dCons (dOp pIx (dCons (dLoc 4) (dCons (dCon (.int 0)) dNil))) dNil))) (dCons (dCon (.int 1)) dNil))) (tSub 2 (dOp pIx (dCons (dLoc 4) (dCons (dCon (.int 0)) dNil)))))
  sSkip)))
  (sSeq2 (sRet (dCon .none))
  sSkip)))
def F_first_wrong : List D → Option R := runF 2 5 d_first_wrong
theorem sc_first_wrong : FnScope ["size", "value", "counts", "index", "each"] ["size", "value"] (defScope s_first_wrong) := ⟨rfl, rfl, rfl, by decide +kernel, rfl, by decide +kernel, by decide +kernel⟩
theorem g_first_wrong {P : Program} {w : World} {K : PySem.W.Frag} {mg : Str → Option Value} {base : Heap} (V : Env K mg) : CalP P w K mg base 4 "first_wrong" s_first_wrong ["size", "value"] F_first_wrong := by
  have C_is_step : CalP P w K mg base 3 "is_step" _ _ _ := (g_is_step V).up (by decide)
  refine cal_p V.r_first_wrong sc_first_wrong (fun _ _ _ _ _ _ us hl => match us, hl with | [_, _], _ => rfl) fun f cdv A outer s H E hr hG => ?_
  have ND := sc_first_wrong.nd
  exact (dss_cons (ds_asg (de_bin o_mul (de_lst (da_cons de_int da_nil rfl)) (de_loc (i := 0) rfl (vis_of rfl) rfl rfl)) (dg_name (i := 2) ND rfl (loc_of rfl) (lfn_of rfl)) rfl rfl rfl)
  (dss_cons (ds_for PassesOwn.never rfl (di_enumA rfl V.z_enumerate (de_loc (i := 1) rfl (vis_of rfl) rfl rfl) rfl) (dg_tup rfl (dgs_cons (dg_name (i := 3) ND rfl (loc_of rfl) (lfn_of rfl)) (dgs_cons (dg_name (i := 4) ND rfl (loc_of rfl) (lfn_of rfl)) dgs_nil rfl) rfl) rfl rfl) (dss_cons (ds_if (DW.dt (dw_or (dt_cmp (o_eq (huo hr)) (de_loc (i := 3) rfl (vis_of rfl) rfl rfl) (de_gl V.c_MOST_LATE rfl rfl) (nomark _)) (dw_or1 (dt_not (dt_tru (de_pL C_is_step hr hG rfl (da_cons (de_loc (i := 4) rfl (vis_of rfl) rfl rfl) (da_cons (de_loc (i := 2) rfl (vis_of rfl) rfl rfl) da_nil rfl) rfl) rfl rfl rfl) (fun _ => rfl)))))) (dss_cons (ds_ret (de_loc (i := 3) rfl (vis_of rfl) rfl rfl))
  dss_nil) dss_nil)
  (dss_cons (ds_asg (de_bin o_add (de_ix o_ix (de_loc (i := 2) rfl (vis_of rfl) rfl rfl) (de_ix o_ix (de_loc (i := 4) rfl (vis_of rfl) rfl rfl) de_int (fun _ _ => rfl)) (fun _ _ => rfl)) de_int) (dg_sub (i := 2) (pe_var rfl (vis_of rfl) rfl rfl) (de_ix o_ix (de_loc (i := 4) rfl (vis_of rfl) rfl rfl) de_int (fun _ _ => rfl)) (fun _ => rfl)) rfl rfl rfl)
  dss_nil)) (fun _ => rfl))
  (dss_cons (ds_ret de_non)
  dss_nil)))
def d_check_steps : TSD := (sSeq2 (sIf (bNot (bTru (dOp (pIsi "tuple") (dCons (dLoc 1) dNil)))) (sSeq2 sNone
  sSkip) sSkip)
  (sSeq2 (sAsg (dCall F_first_wrong (dCons (dLoc 0) (dCons (dLoc 1) dNil))) (tName 2))
  (sSeq2 (sIf (bVal (dOp pIsNot (dCons (dLoc 2) (dCons (dCon .none) dNil)))) (sSeq2 sNone
  sSkip) sSkip)
  sSkip)))
def F_check_steps : List D → Option R := runF 2 3 d_check_steps
theorem sc_check_steps : FnScope ["size", "value", "index"] ["size", "value"] (defScope s_check_steps) := ⟨rfl, rfl, rfl, by decide +kernel, rfl, by decide +kernel, by decide +kernel⟩
theorem g_check_steps {P : Program} {w : World} {K : PySem.W.Frag} {mg : Str → Option Value} {base : Heap} (V : Env K mg) : CalP P w K mg base 5 "check_steps" s_check_steps ["size", "value"] F_check_steps := by
  have C_first_wrong : CalP P w K mg base 4 "first_wrong" _ _ _ := (g_first_wrong V).up (by decide)
  refine cal_p V.r_check_steps sc_check_steps (fun _ _ _ _ _ _ us hl => match us, hl with | [_, _], _ => rfl) fun f cdv A outer s H E hr hG => ?_
  have ND := sc_check_steps.nd
  exact (dss_cons (ds_if (dt_not (dt_tru (de_isi (T := "tuple") (by decide) rfl V.z_isinstance rfl V.z_tuple bt_tuple (by decide) rfl (de_loc (i := 1) rfl (vis_of rfl) rfl rfl) rfl) (fun _ => rfl))) (dss_cons ds_no
  dss_nil) dss_nil)
  (dss_cons (ds_asg (de_p C_first_wrong hr hG rfl (da_cons (de_loc (i := 0) rfl (vis_of rfl) rfl rfl) (da_cons (de_loc (i := 1) rfl (vis_of rfl) rfl rfl) da_nil rfl) rfl) rfl rfl rfl) (dg_name (i := 2) ND rfl (loc_of rfl) (lfn_of rfl)) rfl rfl rfl)
  (dss_cons (ds_if (dt_cmp o_isnot (de_loc (i := 2) rfl (vis_of rfl) rfl rfl) de_non (nomark _)) (dss_cons ds_no
  dss_nil) dss_nil)
  dss_nil)))
def d_are_in_time : TSD := (sSeq2 (sNew [6] (sRg1 (dLoc 0)) (tName 6) (dLst (dCons (dCon (.int 0)) (dCons (dCon (.int 0)) dNil))) 3)
  (sSeq2 (sFor (sEnumF (dLoc 1)) (gTupD 2 (gsCons (tName 4) (gsCons (tName 5) gsNil))) (sSeq2 (sFor (sZipM (dLoc 3) (dOp pIx (dCons (dLoc 5) (dCons (dCon (.int 1)) dNil)))) (gTupD 2 (gsCons (tName 7) (gsCons (tName 8) gsNil))) (sSeq2 (sIf (bAnd (bVal (dOp pLt (dCons (dOp pAdd (dCons (dLoc 8) (dCons (dCon (.int 1)) dNil))) (dCons (dOp pLen (dCons (dLoc 7) dNil)) dNil)))) (bVal (dOp pLe (dCons (dOp pIx (dCons (dLoc 7) (dCons (dOp pAdd (dCons (dLoc 8) (dCons (dCon (.int 1)) dNil))) dNil))) (dCons (dOp pSub (dCons (dOp pAdd (dCons (dLoc 4) (dCons (dCon (.int 1)) dNil))) (dCons (dLoc 2) dNil))) dNil))))) (sSeq2 (sRet (dCon (.bool false)))
  sSkip) sSkip)
  sSkip))
  (sSeq2 (sApp2 3 (dOp pIx (dCons (dLoc 5) (dCons (dCon (.int 0)) dNil))) (dOp pAdd (dCons (dLoc 4) (dCons (dCon (.int 1)) dNil))))
  sSkip)))
  (sSeq2 (sRet (dCon (.bool true)))
  sSkip)))
def F_are_in_time : List D → Option R := runF 3 9 d_are_in_time
theorem sc_are_in_time : FnScope ["size", "steps", "number", "came", "place", "step", "_", "times_here", "pick"] ["size", "steps", "number"] (defScope s_are_in_time) := ⟨rfl, rfl, rfl, by decide +kernel, rfl, by decide +kernel, by decide +kernel⟩
theorem g_are_in_time {P : Program} {w : World} {K : PySem.W.Frag} {mg : Str → Option Value} {base : Heap} (V : Env K mg) : CalP P w K mg base 1 "are_in_time" s_are_in_time ["size", "steps", "number"] F_are_in_time := by
  refine cal_p V.r_are_in_time sc_are_in_time (fun _ _ _ _ _ _ us hl => match us, hl with | [_, _, _], _ => rfl) fun f cdv A outer s H E hr hG => ?_
  have ND := sc_are_in_time.nd
  exact (dss_of (w := true) (dxs_new (i := 3) (own := [("_", 6)]) rfl ND rfl rfl rfl (di_rg1 rfl V.z_range (de_loc (i := 0) rfl (vis_of rfl) rfl rfl) rfl) (blkOk_by rfl) (fun _ _ _ _ _ => (dg_name (i := 6) ND rfl (loc_of rfl) (lfn_of rfl))) (fun _ _ _ _ _ => (de_lst (da_cons de_int (da_cons de_int da_nil rfl) rfl))) (fun _ => rfl) (by decide) (by decide)
  (dxs_cons (dx_forF PassesOwn.never rfl (dif_enum rfl V.z_enumerate (de_loc (i := 1) rfl (vis_of rfl) rfl rfl) rfl) (dg_tup rfl (dgs_cons (dg_name (i := 4) ND rfl (loc_of rfl) (lfn_of rfl)) (dgs_cons (dg_name (i := 5) ND rfl (loc_of rfl) (lfn_of rfl)) dgs_nil rfl) rfl) rfl rfl) (by decide) (dxs_cons (dx_for PassesOwn.never rfl (di_zipM rfl V.z_zip (de_loc (i := 3) rfl (vis_of rfl) rfl rfl) (de_ix o_ix (de_loc (i := 5) rfl (vis_of rfl) rfl rfl) de_int (fun _ _ => rfl)) rfl rfl rfl) (dg_tup rfl (dgs_cons (dg_name (i := 7) ND rfl (loc_of rfl) (lfn_of rfl)) (dgs_cons (dg_name (i := 8) ND rfl (loc_of rfl) (lfn_of rfl)) dgs_nil rfl) rfl) rfl rfl) (by decide) (dxs_cons (dx_if (DW.dt (dw_and (dt_cmp o_lt (de_bin o_add (de_loc (i := 8) rfl (vis_of rfl) rfl rfl) de_int) (de_callB c_len rfl V.z_len bt_len (da_cons (de_loc (i := 7) rfl (vis_of rfl) rfl rfl) da_nil rfl) (by decide) rfl rfl rfl) (nomark _)) (dw_and1 (dt_cmp o_le (de_ix o_ix (de_loc (i := 7) rfl (vis_of rfl) rfl rfl) (de_bin o_add (de_loc (i := 8) rfl (vis_of rfl) rfl rfl) de_int) (fun _ _ => rfl)) (de_bin o_sub (de_bin o_add (de_loc (i := 4) rfl (vis_of rfl) rfl rfl) de_int) (de_loc (i := 2) rfl (vis_of rfl) rfl rfl)) (nomark _))))) (dxs_cons (dx_ret de_bl)
  dxs_nil) dxs_nil)
  dxs_nil) (fun _ => rfl))
  (dxs_cons (dx_app2 (i := 3) (pe_var rfl (vis_of rfl) rfl rfl) (de_ix o_ix (de_loc (i := 5) rfl (vis_of rfl) rfl rfl) de_int (fun _ _ => rfl)) (fun _ _ => rfl) (de_bin o_add (de_loc (i := 4) rfl (vis_of rfl) rfl rfl) de_int) (fun m h1 h2 => pe_bm PySem.F.plainAttrs_list PySem.F.slot_list_append PySem.F.type_list_append m h1 h2) rfl rfl (by decide))
  dxs_nil)) (fun _ => rfl))
  (dxs_gen (dss_cons (ds_ret de_bl)
  dss_nil)))))
def d_are_all_taken : TSD := (sSeq2 (sFor (sRg1 (dOp pAdd (dCons (dOp pSub (dCons (dOp pLen (dCons (dLoc 1) dNil)) (dCons (dLoc 2) dNil))) (dCons (dCon (.int 1)) dNil)))) (tName 3) (sSeq2 (sIf (bVal (dOp pLt (dCons (dOp pLenSet (dCons (dComp [4, 5] (sSeq (dCut (dLoc 1) (iOf (dLoc 3)) (iOf (dOp pAdd (dCons (dLoc 3) (dCons (dLoc 2) dNil)))))) (gTupD 2 (gsCons (tName 4) (gsCons (tName 5) gsNil))) bYes (dLoc 4)) dNil)) (dCons (dLoc 0) dNil)))) (sSeq2 (sRet (dCon (.bool false)))
  sSkip) sSkip)
  sSkip))
  (sSeq2 (sRet (dCon (.bool true)))
  sSkip))
def F_are_all_taken : List D → Option R := runF 3 6 d_are_all_taken
theorem sc_are_all_taken : FnScope ["size", "steps", "number", "start", "unknown", "picks"] ["size", "steps", "number"] (defScope s_are_all_taken) := ⟨rfl, rfl, rfl, by decide +kernel, rfl, by decide +kernel, by decide +kernel⟩
theorem g_are_all_taken {P : Program} {w : World} {K : PySem.W.Frag} {mg : Str → Option Value} {base : Heap} (V : Env K mg) : CalP P w K mg base 1 "are_all_taken" s_are_all_taken ["size", "steps", "number"] F_are_all_taken := by
  refine cal_p V.r_are_all_taken sc_are_all_taken (fun _ _ _ _ _ _ us hl => match us, hl with | [_, _, _], _ => rfl) fun f cdv A outer s H E hr hG => ?_
  have ND := sc_are_all_taken.nd
  exact (dss_cons (ds_for PassesOwn.never rfl (di_rg1 rfl V.z_range (de_bin o_add (de_bin o_sub (de_callB c_len rfl V.z_len bt_len (da_cons (de_loc (i := 1) rfl (vis_of rfl) rfl rfl) da_nil rfl) (by decide) rfl rfl rfl) (de_loc (i := 2) rfl (vis_of rfl) rfl rfl)) de_int) rfl) (dg_name (i := 3) ND rfl (loc_of rfl) (lfn_of rfl)) (dss_cons (ds_if (dt_cmp o_lt (de_lenSet rfl V.z_len rfl V.z_set rfl (de_comp rfl (own := [("unknown", 4), ("picks", 5)]) ND (di_seq (de_cut (de_loc (i := 1) rfl (vis_of rfl) rfl rfl) (do_some (de_loc (i := 3) rfl (vis_of rfl) rfl rfl)) (do_some (de_bin o_add (de_loc (i := 3) rfl (vis_of rfl) rfl rfl) (de_loc (i := 2) rfl (vis_of rfl) rfl rfl))))) (blkOk_by rfl) (fun _ _ _ _ _ => (dg_tup rfl (dgs_cons (dg_name (i := 4) ND rfl (loc_of rfl) (lfn_of rfl)) (dgs_cons (dg_name (i := 5) ND rfl (loc_of rfl) (lfn_of rfl)) dgs_nil rfl) rfl) rfl rfl)) (fun _ _ _ _ _ => pts_yes) (fun _ _ _ _ _ => (de_loc (i := 4) rfl (vis_of rfl) rfl rfl)) (fun _ => rfl) (by decide)) rfl) (de_loc (i := 0) rfl (vis_of rfl) rfl rfl) (nomark _)) (dss_cons (ds_ret de_bl)
  dss_nil) dss_nil)
  dss_nil) (fun _ => rfl))
  (dss_cons (ds_ret de_bl)
  dss_nil))
def d_is_tidy : TSD := (sSeq2 (sExp (dCall F_check_size (dCons (dLoc 0) dNil)))
  (sSeq2 (sExp (dCall F_check_steps (dCons (dLoc 0) (dCons (dLoc 1) dNil))))
  (sSeq2 (sExp (dCall F_check_number (dCons (dLoc 2) (dCons (dCon (.int 1)) (dCons (dCon (.int 200)) dNil)))))
  (sSeq2 (sRet (dAnd (dCall F_are_in_time (dCons (dLoc 0) (dCons (dLoc 1) (dCons (dLoc 2) dNil)))) (dCall F_are_all_taken (dCons (dLoc 0) (dCons (dLoc 1) (dCons (dLoc 2) dNil))))))
  sSkip))))
def F_is_tidy : List D → Option R := runF 3 3 d_is_tidy
theorem sc_is_tidy : FnScope ["size", "steps", "number"] ["size", "steps", "number"] (defScope s_is_tidy) := ⟨rfl, rfl, rfl, by decide +kernel, rfl, by decide +kernel, by decide +kernel⟩
theorem g_is_tidy {P : Program} {w : World} {K : PySem.W.Frag} {mg : Str → Option Value} {base : Heap} (V : Env K mg) : CalP P w K mg base 6 "is_tidy" s_is_tidy ["size", "steps", "number"] F_is_tidy := by
  have C_are_all_taken : CalP P w K mg base 5 "are_all_taken" _ _ _ := (g_are_all_taken V).up (by decide)
  have C_are_in_time : CalP P w K mg base 5 "are_in_time" _ _ _ := (g_are_in_time V).up (by decide)
  have C_check_number : CalP P w K mg base 5 "check_number" _ _ _ := (g_check_number V).up (by decide)
  have C_check_size : CalP P w K mg base 5 "check_size" _ _ _ := (g_check_size V).up (by decide)
  have C_check_steps : CalP P w K mg base 5 "check_steps" _ _ _ := (g_check_steps V).up (by decide)
  refine cal_p V.r_is_tidy sc_is_tidy (fun _ _ _ _ _ _ us hl => match us, hl with | [_, _, _], _ => rfl) fun f cdv A outer s H E hr hG => ?_
  have ND := sc_is_tidy.nd
  exact (dss_cons (ds_exp (de_p C_check_size hr hG rfl (da_cons (de_loc (i := 0) rfl (vis_of rfl) rfl rfl) da_nil rfl) rfl rfl rfl) rfl)
  (dss_cons (ds_exp (de_p C_check_steps hr hG rfl (da_cons (de_loc (i := 0) rfl (vis_of rfl) rfl rfl) (da_cons (de_loc (i := 1) rfl (vis_of rfl) rfl rfl) da_nil rfl) rfl) rfl rfl rfl) rfl)
  (dss_cons (ds_exp (de_p C_check_number hr hG rfl (da_cons (de_loc (i := 2) rfl (vis_of rfl) rfl rfl) (da_cons de_int (da_cons (de_gl V.c_MOST_LATE rfl rfl) da_nil rfl) rfl) rfl) rfl rfl rfl) rfl)
  (dss_cons (ds_ret (de_and (de_p C_are_in_time hr hG rfl (da_cons (de_loc (i := 0) rfl (vis_of rfl) rfl rfl) (da_cons (de_loc (i := 1) rfl (vis_of rfl) rfl rfl) (da_cons (de_loc (i := 2) rfl (vis_of rfl) rfl rfl) da_nil rfl) rfl) rfl) rfl rfl rfl) (de_one (de_p C_are_all_taken hr hG rfl (da_cons (de_loc (i := 0) rfl (vis_of rfl) rfl rfl) (da_cons (de_loc (i := 1) rfl (vis_of rfl) rfl rfl) (da_cons (de_loc (i := 2) rfl (vis_of rfl) rfl rfl) da_nil rfl) rfl) rfl) rfl rfl rfl))))
  dss_nil))))
def d__law_right : TSD := (sSeq2 (sAsg (dOp pAdd (dCons (dCon (.int 1)) (dCons (dCallV F__law_cup (dCons (dLoc 0) (dCons (dCon (.int 5)) dNil))) dNil))) (tName 1))
  (sSeq2 (sAsg (dCallV F__law_drawn (dCons (dLoc 0) (dCons (dLoc 1) (dCons (dCallV F__law_one_of (dCons (dLoc 0) (dCons (dTup (dCons (dCon (.int 0)) (dCons (dCon (.int 1)) (dCons (dCon (.int 2)) (dCons (dCon (.int 3)) (dCons (dCon (.int 5)) (dCons (dCon (.int 8)) (dCons (dCon (.int 12)) (dCons (dCon (.int 18)) dNil))))))))) dNil))) dNil)))) (tName 2))
  (sSeq2 (sAsg (dCon (.int 1)) (tName 3))
  (sSeq2 (sWhile (bNot (bTru (dCall F__law_is_due (dCons (dLoc 1) (dCons (dLoc 2) (dCons (dLoc 3) dNil)))))) (sSeq2 (sAsg (dOp pAdd (dCons (dLoc 3) (dCons (dCon (.int 1)) dNil))) (tName 3))
  sSkip))
  (sSeq2 (sFor (sSeq (dTup (dCons (dLoc 3) (dCons (dOp pAdd (dCons (dLoc 3) (dCons (dCon (.int 1)) dNil))) (dCons (dCon (.int 200)) (dCons (dOp pAdd (dCons (dCon (.int 1)) (dCons (dCallV F__law_cup (dCons (dLoc 0) (dCons (dCon (.int 12)) dNil))) dNil))) (dCons (dOp pMax (dCons (dCon (.int 1)) (dCons (dOp pSub (dCons (dLoc 3) (dCons (dCon (.int 1)) dNil))) dNil))) (dCons (dLoc 1) dNil)))))))) (tName 4) (sSeq2 (sAsg (dCall F__law_is_due (dCons (dLoc 1) (dCons (dLoc 2) (dCons (dLoc 4) dNil)))) (tName 5))
  (sSeq2 (sIf (bVal (dOp pNe (dCons (dOp pRepr (dCons (dLst (dCons (dCall F_is_tidy (dCons (dLoc 1) (dCons (dLoc 2) (dCons (dLoc 4) dNil)))) (dCons (dCallK F_is_tidy 3 [2, 1, 0] (dCons (dLoc 4) (dCons (dLoc 2) (dCons (dLoc 1) dNil)))) dNil))) dNil)) (dCons (dOp pRepr (dCons (dLst (dCons (dLoc 5) (dCons (dLoc 5) dNil))) dNil)) dNil)))) (sSeq2 (sRet (dCon (.bool false)))
  sSkip) sSkip)
  (sSeq2 (sIf (bVal (dOp pNe (dCons (dLoc 5) (dCons (dOp pGe (dCons (dLoc 4) (dCons (dLoc 3) dNil))) dNil)))) (sSeq2 (sRet (dCon (.bool false)))
  sSkip) sSkip)
  sSkip))))
  (sSeq2 (sRet (dOp pIsB (dCons (dCall F_is_tidy (dCons (dLoc 1) (dCons (dTup dNil) (dCons (dOp pAdd (dCons (dCon (.int 1)) (dCons (dCallV F__law_cup (dCons (dLoc 0) (dCons (dCon (.int 200)) dNil))) dNil))) dNil)))) (dCons (dCon (.bool true)) dNil))))
  sSkip))))))
def F__law_right : List D → List D → Option (R × List D) := runW 1 6 d__law_right
theorem sc__law_right : FnScope ["vat", "n", "steps", "least", "number", "due"] ["vat"] (defScope s__law_right) := ⟨rfl, rfl, rfl, by decide +kernel, rfl, by decide +kernel, by decide +kernel⟩
theorem g__law_right {P : Program} {w : World} {K : PySem.W.Frag} {mg : Str → Option Value} {base : Heap} (V : Env K mg) : CalV P w K mg base 7 "_law_right" s__law_right ["vat"] F__law_right := by
  have C__law_cup : CalV P w K mg base 6 "_law_cup" _ _ _ := (g__law_cup V).up (by decide)
  have C__law_drawn : CalV P w K mg base 6 "_law_drawn" _ _ _ := (g__law_drawn V).up (by decide)
  have C__law_is_due : CalP P w K mg base 6 "_law_is_due" _ _ _ := (g__law_is_due V).up (by decide)
  have C__law_one_of : CalV P w K mg base 6 "_law_one_of" _ _ _ := (g__law_one_of V).up (by decide)
  have C_is_tidy : CalP P w K mg base 6 "is_tidy" _ _ _ := (g_is_tidy V).up (by decide)
  refine cal_v V.r__law_right sc__law_right (fun _ _ _ _ _ _ us hl => match us, hl with | [_], _ => rfl) fun f cdv A outer s H E hr hG => ?_
  have ND := sc__law_right.nd
  exact (dss_cons (ds_asg (de_bin o_add de_int (de_v C__law_cup hr hG rfl (da_cons (de_loc (i := 0) rfl (vis_of rfl) rfl rfl) (da_cons de_int da_nil rfl) rfl) rfl rfl rfl)) (dg_name (i := 1) ND rfl (loc_of rfl) (lfn_of rfl)) rfl rfl rfl)
  (dss_cons (ds_asg (de_v C__law_drawn hr hG rfl (da_cons (de_loc (i := 0) rfl (vis_of rfl) rfl rfl) (da_cons (de_loc (i := 1) rfl (vis_of rfl) rfl rfl) (da_cons (de_v C__law_one_of hr hG rfl (da_cons (de_loc (i := 0) rfl (vis_of rfl) rfl rfl) (da_cons (de_tup (da_cons de_int (da_cons de_int (da_cons de_int (da_cons de_int (da_cons de_int (da_cons de_int (da_cons de_int (da_cons de_int da_nil rfl) rfl) rfl) rfl) rfl) rfl) rfl) rfl)) da_nil rfl) rfl) rfl rfl rfl) da_nil rfl) rfl) rfl) rfl rfl rfl) (dg_name (i := 2) ND rfl (loc_of rfl) (lfn_of rfl)) rfl rfl rfl)
  (dss_cons (ds_asg de_int (dg_name (i := 3) ND rfl (loc_of rfl) (lfn_of rfl)) rfl rfl rfl)
  (dss_cons (ds_while PassesOwn.never (dt_not (dt_tru (de_p C__law_is_due hr hG rfl (da_cons (de_loc (i := 1) rfl (vis_of rfl) rfl rfl) (da_cons (de_loc (i := 2) rfl (vis_of rfl) rfl rfl) (da_cons (de_loc (i := 3) rfl (vis_of rfl) rfl rfl) da_nil rfl) rfl) rfl) rfl rfl rfl) (fun _ => rfl))) (dss_cons (ds_asg (de_bin o_add (de_loc (i := 3) rfl (vis_of rfl) rfl rfl) de_int) (dg_name (i := 3) ND rfl (loc_of rfl) (lfn_of rfl)) rfl rfl rfl)
  dss_nil))
  (dss_cons (ds_for PassesOwn.never rfl (di_seq (de_tup (da_cons (de_loc (i := 3) rfl (vis_of rfl) rfl rfl) (da_cons (de_bin o_add (de_loc (i := 3) rfl (vis_of rfl) rfl rfl) de_int) (da_cons de_int (da_cons (de_bin o_add de_int (de_v C__law_cup hr hG rfl (da_cons (de_loc (i := 0) rfl (vis_of rfl) rfl rfl) (da_cons de_int da_nil rfl) rfl) rfl rfl rfl)) (da_cons (de_callB (c_max rfl) rfl V.z_max bt_max (da_cons de_int (da_cons (de_bin o_sub (de_loc (i := 3) rfl (vis_of rfl) rfl rfl) de_int) da_nil rfl) rfl) (by decide) rfl rfl rfl) (da_cons (de_loc (i := 1) rfl (vis_of rfl) rfl rfl) da_nil rfl) rfl) rfl) rfl) rfl) rfl))) (dg_name (i := 4) ND rfl (loc_of rfl) (lfn_of rfl)) (dss_cons (ds_asg (de_p C__law_is_due hr hG rfl (da_cons (de_loc (i := 1) rfl (vis_of rfl) rfl rfl) (da_cons (de_loc (i := 2) rfl (vis_of rfl) rfl rfl) (da_cons (de_loc (i := 4) rfl (vis_of rfl) rfl rfl) da_nil rfl) rfl) rfl) rfl rfl rfl) (dg_name (i := 5) ND rfl (loc_of rfl) (lfn_of rfl)) rfl rfl rfl)
  (dss_cons (ds_if (dt_cmp (o_ne (huo hr)) (de_callB (c_repr hG (hur hr)) rfl V.z_repr bt_repr (da_cons (de_lst (da_cons (de_p C_is_tidy hr hG rfl (da_cons (de_loc (i := 1) rfl (vis_of rfl) rfl rfl) (da_cons (de_loc (i := 2) rfl (vis_of rfl) rfl rfl) (da_cons (de_loc (i := 4) rfl (vis_of rfl) rfl rfl) da_nil rfl) rfl) rfl) rfl rfl rfl) (da_cons (de_k (ks := ["number", "steps", "size"]) (ix := [2, 1, 0]) C_is_tidy (fun _ _ _ _ _ _ us hl => match us, hl with | [_, _, _], _ => rfl) hr hG rfl (dk_cons (de_loc (i := 4) rfl (vis_of rfl) rfl rfl) (dk_cons (de_loc (i := 2) rfl (vis_of rfl) rfl rfl) (dk_cons (de_loc (i := 1) rfl (vis_of rfl) rfl rfl) dk_nil))) rfl rfl rfl rfl) da_nil rfl) rfl)) da_nil rfl) (by decide) rfl rfl rfl) (de_callB (c_repr hG (hur hr)) rfl V.z_repr bt_repr (da_cons (de_lst (da_cons (de_loc (i := 5) rfl (vis_of rfl) rfl rfl) (da_cons (de_loc (i := 5) rfl (vis_of rfl) rfl rfl) da_nil rfl) rfl)) da_nil rfl) (by decide) rfl rfl rfl) (nomark _)) (dss_cons (ds_ret de_bl)
  dss_nil) dss_nil)
  (dss_cons (ds_if (dt_cmp (o_ne (huo hr)) (de_loc (i := 5) rfl (vis_of rfl) rfl rfl) (de_cmp o_ge (de_loc (i := 4) rfl (vis_of rfl) rfl rfl) (de_loc (i := 3) rfl (vis_of rfl) rfl rfl) (nomark _)) (nomark _)) (dss_cons (ds_ret de_bl)
  dss_nil) dss_nil)
  dss_nil))) (fun _ => rfl))
  (dss_cons (ds_ret (de_cmp o_isB (de_p C_is_tidy hr hG rfl (da_cons (de_loc (i := 1) rfl (vis_of rfl) rfl rfl) (da_cons (de_tup da_nil) (da_cons (de_bin o_add de_int (de_v C__law_cup hr hG rfl (da_cons (de_loc (i := 0) rfl (vis_of rfl) rfl rfl) (da_cons de_int da_nil rfl) rfl) rfl rfl rfl)) da_nil rfl) rfl) rfl) rfl rfl rfl) de_bl (nomark _)))
  dss_nil))))))
def d__law_vat : TSD := (sSeq2 (sAsg (dIf (bVal (dOp pLt (dCons (dLoc 1) (dCons (dOp pLen (dCons (dLoc 0) dNil)) dNil)))) (dOp pInt (dCons (dOp pIx (dCons (dLoc 0) (dCons (dLoc 1) dNil))) dNil)) (dOp pAdd (dCons (dOp pAdd (dCons (dOp pMul (dCons (dCon (.int 9091)) (dCons (dLoc 1) dNil))) (dCons (dCon (.int 283)) dNil))) (dCons (dOp pMod (dCons (dOp pInt (dCons (dOp pSum (dCons (dCut (dLoc 0) iNo (iOf (dCon (.int 6)))) dNil)) dNil)) (dCons (dCon (.int 999631)) dNil))) dNil)))) (tName 2))
  (sSeq2 (sAsg (dOp pAdd (dCons (dCon (.int 163003)) (dCons (dOp pMul (dCons (dCon (.int 1867)) (dCons (dLoc 1) dNil))) dNil))) (tName 3))
  (sSeq2 (sFor (sSeq (dOp pAdd (dCons (dCut (dLoc 0) iNo (iOf (dCon (.int 10)))) (dCons (dLst (dCons (dLoc 2) dNil)) dNil)))) (tName 4) (sSeq2 (sAsg (dOp pMod (dCons (dOp pInt (dCons (dOp pAdd (dCons (dOp pAdd (dCons (dOp pMul (dCons (dLoc 3) (dCons (dCon (.int 44129)) dNil))) (dCons (dOp pMod (dCons (dOp pInt (dCons (dLoc 4) dNil)) (dCons (dCon (.int 2147483353)) dNil))) dNil))) (dCons (dCon (.int 37)) dNil))) dNil)) (dCons (dCon (.int 2147483353)) dNil))) (tName 3))
  sSkip))
  (sSeq2 (sRet (dLst (dCons (dIf (bOr (bVal (dOp pLt (dCons (dLoc 2) (dCons (dCon (.int 0)) dNil)))) (bVal (dOp pGe (dCons (dLoc 2) (dCons (dOp pPow (dCons (dCon (.int 10)) (dCons (dCon (.int 18)) dNil))) dNil))))) (dOp pAbs (dCons (dLoc 2) dNil)) (dCon (.int 0))) (dCons (dLoc 3) (dCons (dCon (.int 0)) dNil)))))
  sSkip))))
def F__law_vat : List D → Option R := runF 2 5 d__law_vat
theorem sc__law_vat : FnScope ["script", "lap", "own", "stir", "each"] ["script", "lap"] (defScope s__law_vat) := ⟨rfl, rfl, rfl, by decide +kernel, rfl, by decide +kernel, by decide +kernel⟩
theorem g__law_vat {P : Program} {w : World} {K : PySem.W.Frag} {mg : Str → Option Value} {base : Heap} (V : Env K mg) : CalP P w K mg base 1 "_law_vat" s__law_vat ["script", "lap"] F__law_vat := by
  refine cal_p V.r__law_vat sc__law_vat (fun _ _ _ _ _ _ us hl => match us, hl with | [_, _], _ => rfl) fun f cdv A outer s H E hr hG => ?_
  have ND := sc__law_vat.nd
  exact (dss_cons (ds_asg (de_if (dt_cmp o_lt (de_loc (i := 1) rfl (vis_of rfl) rfl rfl) (de_callB c_len rfl V.z_len bt_len (da_cons (de_loc (i := 0) rfl (vis_of rfl) rfl rfl) da_nil rfl) (by decide) rfl rfl rfl) (nomark _)) (de_callTy c_int rfl V.z_int bt_int (da_cons (de_ix o_ix (de_loc (i := 0) rfl (vis_of rfl) rfl rfl) (de_loc (i := 1) rfl (vis_of rfl) rfl rfl) (fun _ _ => rfl)) da_nil rfl) (by decide) rfl rfl rfl) (de_bin o_add (de_bin o_add (de_bin o_mul de_int (de_loc (i := 1) rfl (vis_of rfl) rfl rfl)) de_int) (de_bin o_mod (de_callTy c_int rfl V.z_int bt_int (da_cons (de_callB (c_sum rfl) rfl V.z_sum bt_sum (da_cons (de_cut (de_loc (i := 0) rfl (vis_of rfl) rfl rfl) do_none (do_some de_int)) da_nil rfl) (by decide) rfl rfl rfl) da_nil rfl) (by decide) rfl rfl rfl) de_int))) (dg_name (i := 2) ND rfl (loc_of rfl) (lfn_of rfl)) rfl rfl rfl)
  (dss_cons (ds_asg (de_bin o_add de_int (de_bin o_mul de_int (de_loc (i := 1) rfl (vis_of rfl) rfl rfl))) (dg_name (i := 3) ND rfl (loc_of rfl) (lfn_of rfl)) rfl rfl rfl)
  (dss_cons (ds_for PassesOwn.never rfl (di_seq (de_bin o_add (de_cut (de_loc (i := 0) rfl (vis_of rfl) rfl rfl) do_none (do_some de_int)) (de_lst (da_cons (de_loc (i := 2) rfl (vis_of rfl) rfl rfl) da_nil rfl)))) (dg_name (i := 4) ND rfl (loc_of rfl) (lfn_of rfl)) (dss_cons (ds_asg (de_bin o_mod (de_callTy c_int rfl V.z_int bt_int (da_cons (de_bin o_add (de_bin o_add (de_bin o_mul (de_loc (i := 3) rfl (vis_of rfl) rfl rfl) de_int) (de_bin o_mod (de_callTy c_int rfl V.z_int bt_int (da_cons (de_loc (i := 4) rfl (vis_of rfl) rfl rfl) da_nil rfl) (by decide) rfl rfl rfl) de_int)) de_int) da_nil rfl) (by decide) rfl rfl rfl) de_int) (dg_name (i := 3) ND rfl (loc_of rfl) (lfn_of rfl)) rfl rfl rfl)
  dss_nil) (fun _ => rfl))
  (dss_cons (ds_ret (de_lst (da_cons (de_if (DW.dt (dw_or (dt_cmp o_lt (de_loc (i := 2) rfl (vis_of rfl) rfl rfl) de_int (nomark _)) (dw_or1 (dt_cmp o_ge (de_loc (i := 2) rfl (vis_of rfl) rfl rfl) (de_bin o_pow de_int de_int) (nomark _))))) (de_callB c_abs rfl V.z_abs bt_abs (da_cons (de_loc (i := 2) rfl (vis_of rfl) rfl rfl) da_nil rfl) (by decide) rfl rfl rfl) de_int) (da_cons (de_loc (i := 3) rfl (vis_of rfl) rfl rfl) (da_cons de_int da_nil rfl) rfl) rfl)))
  dss_nil))))
def d_law : TSD := (sSeq2 (sRet (dOp pAll (dCons (dComp [1] (sRg1 (dCon (.int 2))) (tName 1) bYes (dCallV F__law_right (dCons (dCall F__law_vat (dCons (dLoc 0) (dCons (dLoc 1) dNil))) dNil))) dNil)))
  sSkip)
def F_law : List D → Option R := runF 1 2 d_law
theorem sc_law : FnScope ["script", "lap"] ["script"] (defScope s_law) := ⟨rfl, rfl, rfl, by decide +kernel, rfl, by decide +kernel, by decide +kernel⟩
theorem g_law {P : Program} {w : World} {K : PySem.W.Frag} {mg : Str → Option Value} {base : Heap} (V : Env K mg) : CalP P w K mg base 8 "law" s_law ["script"] F_law := by
  have C__law_right : CalV P w K mg base 7 "_law_right" _ _ _ := (g__law_right V).up (by decide)
  have C__law_vat : CalP P w K mg base 7 "_law_vat" _ _ _ := (g__law_vat V).up (by decide)
  refine cal_p V.r_law sc_law (fun _ _ _ _ _ _ us hl => match us, hl with | [_], _ => rfl) fun f cdv A outer s H E hr hG => ?_
  have ND := sc_law.nd
  exact (dss_cons (ds_ret (de_callB (c_all rfl) rfl V.z_all bt_all (da_cons (de_comp rfl (own := [("lap", 1)]) ND (di_rg1 rfl V.z_range de_int rfl) (blkOk_by rfl) (fun _ _ _ _ _ => (dg_name (i := 1) ND rfl (loc_of rfl) (lfn_of rfl))) (fun _ _ _ _ _ => pts_yes) (fun _ _ _ _ _ => (de_v C__law_right hr hG rfl (da_cons (de_p C__law_vat hr hG rfl (da_cons (de_loc (i := 0) rfl (vis_of rfl) rfl rfl) (da_cons (de_loc (i := 1) rfl (vis_of rfl) rfl rfl) da_nil rfl) rfl) rfl rfl rfl) da_nil rfl) rfl rfl rfl)) (fun _ => rfl) (by decide)) da_nil rfl) (by decide) rfl rfl rfl))
  dss_nil)
end
end K48

set_option Elab.async false
set_option linter.all false
set_option maxRecDepth 100000
set_option maxHeartbeats 4000000
namespace K48
open PySem PySem.Spec PyProof.Rows L2 Dn Pl

/-! ### late steps: an unknown, picks -/
abbrev Sp := Nat × List Nat
abbrev nD (p : Nat) : D := .int (p : Int)
def stepD (s : Sp) : D := .tuple [.int (s.1 : Int), .tuple (s.2.map nD)]
def lD (l : List Nat) : D := .list (l.map nD)
def cameD (c : List (List Nat)) : D := .list (c.map lD)
theorem flats_n (l : List Nat) : flats (l.map nD) = true := flats_all fun _ _ => rfl
theorem flat_step (s : Sp) : flat (stepD s) = true := by simp [stepD, flat, flats, flats_n]
theorem flats_steps (S : List Sp) : flats (S.map stepD) = true := flats_all fun s _ => flat_step s
theorem flatL_came (c : List (List Nat)) : (c.map lD).all flatL = true := by simp [List.all_eq_true, flatL, lD, flats_n]
/-- a picked value of which the next one came N steps ago or earlier -/
def badJ (N k : Nat) (c : List Nat) (p : Nat) : Bool := decide (p + 1 < c.length) && decide (((c.getD (p + 1) 0 : Nat) : Int) ≤ (k : Int) - N)
def badS (N k : Nat) (came : List (List Nat)) (ps : List Nat) : Bool := (List.range ps.length).any fun j => badJ N k (came.getD j []) (ps.getD j 0)
def nxtT (N : Nat) (x : Nat × Sp) (came : List (List Nat)) : Option (List (List Nat)) := if badS N x.1 came x.2.2 then none else some (came.set x.2.1 (came.getD x.2.1 [] ++ [x.1]))
/-- the steps with their numbers -/
def prs : Nat → List Sp → List (Nat × Sp)
  | _, [] => []
  | k, s :: S => (k, s) :: prs (k + 1) S
theorem prs_len : ∀ (k : Nat) (S : List Sp), (prs k S).length = S.length
  | _, [] => rfl
  | k, s :: S => by simp [prs, prs_len (k + 1) S]
theorem prs_get : ∀ {S : List Sp} {k i : Nat} {x : Nat × Sp}, (prs k S)[i]? = some x → x.1 = k + i ∧ S[i]? = some x.2
  | [], _, _, _, h => by simp [prs] at h
  | s :: S, k, 0, x, h => by simp [prs] at h; subst h; exact ⟨rfl, rfl⟩
  | s :: S, k, i + 1, x, h => by
    obtain ⟨h1, h2⟩ := prs_get (S := S) (k := k + 1) (i := i) (by simpa [prs] using h)
    exact ⟨by omega, by simpa using h2⟩
theorem prs_map : ∀ (k : Nat) (S : List Sp), (prs k S).map (fun x => nD x.1) = (List.range S.length).map fun i => nD (k + i)
  | _, [] => rfl
  | k, s :: S => by
    rw [List.length_cons, List.range_succ_eq_map]
    simp only [prs, List.map_cons, List.map_map, prs_map (k + 1) S]
    congr 1
    apply List.map_congr_left
    intro i _
    show nD (k + 1 + i) = nD (k + (i + 1))
    rw [show k + 1 + i = k + (i + 1) by omega]
def dueT (n : Nat) (S : List Sp) (N : Nat) : Bool := (runO (nxtT N) (prs 1 S) (List.replicate n [0, 0])).isSome
def tk (S : List Sp) (i N : Nat) : List Int := ((S.drop i).take N).map fun s => (s.1 : Int)
def takenAll (n : Nat) (S : List Sp) (N i : Nat) : Bool := (List.range n).all fun j => (tk S i N).contains (j : Int)
def dueA (n : Nat) (S : List Sp) (N : Nat) : Bool := (List.range (S.length + 1 - N)).all fun i => takenAll n S N i
structure Good (n : Nat) (S : List Sp) : Prop where
  un : ∀ s ∈ S, s.1 < n
  pk : ∀ s ∈ S, s.2.length = n
theorem ix_step {S : List Sp} {i : Int} {j : Nat} (h : i = j) : atI (S.map stepD) i = S[j]?.map stepD := by rw [atI_at h, List.getElem?_map]
theorem fm_congr {α β : Type} {f g : α → Option β} : ∀ {l : List α}, (∀ a ∈ l, f a = g a) → l.filterMap f = l.filterMap g
  | [], _ => rfl
  | a :: l, h => by simp only [List.filterMap_cons, h a List.mem_cons_self, fm_congr (l := l) fun b hb => h b (List.mem_cons_of_mem _ hb)]
theorem rg_nat (a : Nat) (b : Nat) : rgD (a : Int) ((a : Int) + (b : Int)) = (List.range b).map fun i => nD (a + i) := by
  unfold rgD
  rw [show ((a : Int) + (b : Int) - (a : Int)).toNat = b by omega]
  apply List.map_congr_left
  intro i _
  show PyData.int _ = PyData.int _
  congr 1
theorem range_get {α β : Type} (f : α → β) : ∀ (l : List α) (N : Nat), (List.range N).filterMap (fun i => l[i]?.map f) = (l.take N).map f
  | [], N => by simp
  | a :: l, 0 => by simp
  | a :: l, N + 1 => by
    rw [List.range_succ_eq_map, List.filterMap_cons]
    simp only [List.getElem?_cons_zero, Option.map_some, List.filterMap_map, List.take_succ_cons, List.map_cons]
    congr 1
    rw [← range_get f l N]
    apply fm_congr
    intro i _
    simp
/-- the values taken from a place on -/
theorem law_taken {n N i : Nat} {S : List Sp} {x0 x6 : Option Slot} (hl : S.length ≤ 1000) (hi : i + N ≤ S.length) :
    dComp [5] (sRg2 (dLoc 3) (dOp pAdd (dCons (dLoc 3) (dCons (dLoc 2) dNil)))) (tName 5) bYes (dOp pIx (dCons (dOp pIx (dCons (dLoc 1) (dCons (dLoc 5) dNil))) (dCons (dCon (.int 0)) dNil)))
      [some (.val (.int (n : Int))), some (.val (.tuple (S.map stepD))), some (.val (.int (N : Int))), some (.val (.int (i : Int))), none, none, x6, none, none, none] =
    some (.o ((tk S i N).map .int), [some (.val (.int (n : Int))), some (.val (.tuple (S.map stepD))), some (.val (.int (N : Int))), some (.val (.int (i : Int))), none, none, x6, none, none, none]) := by
  have ok : rgOk (i : Int) ((i : Int) + (N : Int)) = true := by unfold rgOk; simp; omega
  have e := dComp_ev (vs := [5]) (tgt := tName 5) (cond := bYes) (elt := (dOp pIx (dCons (dOp pIx (dCons (dLoc 1) (dCons (dLoc 5) dNil))) (dCons (dCon (.int 0)) dNil))))
    (src := sRg2 (dLoc 3) (dOp pAdd (dCons (dLoc 3) (dCons (dLoc 2) dNil))))
    (ρ := [some (.val (.int (n : Int))), some (.val (.tuple (S.map stepD))), some (.val (.int (N : Int))), some (.val (.int (i : Int))), none, none, x6, none, none, none])
    (ρ1 := [some (.val (.int (n : Int))), some (.val (.tuple (S.map stepD))), some (.val (.int (N : Int))), some (.val (.int (i : Int))), none, none, x6, none, none, none])
    (g := fun d => match d with
      | .int k => S[k.toNat]?.map fun s => .int (s.1 : Int)
      | _ => none) (its := (List.range N).map fun j => nD (i + j)) (by
        simp [dLoc, dCon, dNil, dCons, dOp, dTup, dLst, looks, look, frz, dCall, dCallV, dCallK, reord, sSeq2, sSkip, sExp, sRet, sRetN, sIf, sAsg, sAsgT, bVal, bTru, bNot, bAnd, bOr, bYes, dAnd, dOr, dNot, dIf, tName, gsNil, gsCons, gTupD, Dn.tSub, Dn.valOf, asB, ownAt, asI, isPin, sl, dCut, iOf, iNo, fin, endV, runP, runF, runV, runW, startR, startV, dEmp, dChain, res, truR, Dn.tru, itemsOf, sNone, sSeq, sRg1, sRg2, sZip, sEnum, sFor, dApp, dPop, sBrk, sCnt, isNone, atI0, atI1, atI2, ixN3_0, ixN3_1, ixN3_2, ixN2_0, ixN2_1, noPins, e_add, e_addT, e_addL, e_sub, e_mul, e_mulL, e_mulT, e_div, e_mod, e_neg, e_eqI, e_neI, e_eqB, e_eqT, e_eqL, e_neT, e_neL, e_cmp, e_is, e_isnot, e_ixL, e_ixT, e_lenL, e_lenT, e_tupL, e_tupT, e_lstL, e_lstT, e_int, e_intB, e_abs, e_sum, e_divmod, e_gcd, e_max, e_min, e_isi, e_cutL, e_cutT, ok]
        exact rg_nat i N) (by simp [dLoc, dCon, dNil, dCons, dOp, dTup, dLst, looks, look, frz, dCall, dCallV, dCallK, reord, sSeq2, sSkip, sExp, sRet, sRetN, sIf, sAsg, sAsgT, bVal, bTru, bNot, bAnd, bOr, bYes, dAnd, dOr, dNot, dIf, tName, gsNil, gsCons, gTupD, Dn.tSub, Dn.valOf, asB, ownAt, asI, isPin, sl, dCut, iOf, iNo, fin, endV, runP, runF, runV, runW, startR, startV, dEmp, dChain, res, truR, Dn.tru, itemsOf, sNone, sSeq, sRg1, sRg2, sZip, sEnum, sFor, dApp, dPop, sBrk, sCnt, isNone, atI0, atI1, atI2, ixN3_0, ixN3_1, ixN3_2, ixN2_0, ixN2_1, noPins, e_add, e_addT, e_addL, e_sub, e_mul, e_mulL, e_mulT, e_div, e_mod, e_neg, e_eqI, e_neI, e_eqB, e_eqT, e_eqL, e_neT, e_neL, e_cmp, e_is, e_isnot, e_ixL, e_ixT, e_lenL, e_lenT, e_tupL, e_tupT, e_lstL, e_lstT, e_int, e_intB, e_abs, e_sum, e_divmod, e_gcd, e_max, e_min, e_isi, e_cutL, e_cutT]) (by simp; omega) (fun d hd => by
      obtain ⟨j, hj, rfl⟩ := List.mem_map.mp hd
      have hj : j < N := List.mem_range.mp hj
      have hlt : i + j < S.length := by omega
      have q : atI (S.map stepD) ((i + j : Nat) : Int) = some (stepD S[i + j]) := by rw [ix_step rfl, List.getElem?_eq_getElem hlt]; rfl
      have q : atI (S.map stepD) ((i : Int) + (j : Int)) = some (stepD S[i + j]) := q
      have ez : ((i : Int) + (j : Int)).toNat = i + j := by omega
      simp [stepC, wipeR, dLoc, dCon, dNil, dCons, dOp, dTup, dLst, looks, look, frz, dCall, dCallV, dCallK, reord, sSeq2, sSkip, sExp, sRet, sRetN, sIf, sAsg, sAsgT, bVal, bTru, bNot, bAnd, bOr, bYes, dAnd, dOr, dNot, dIf, tName, gsNil, gsCons, gTupD, Dn.tSub, Dn.valOf, asB, ownAt, asI, isPin, sl, dCut, iOf, iNo, fin, endV, runP, runF, runV, runW, startR, startV, dEmp, dChain, res, truR, Dn.tru, itemsOf, sNone, sSeq, sRg1, sRg2, sZip, sEnum, sFor, dApp, dPop, sBrk, sCnt, isNone, atI0, atI1, atI2, ixN3_0, ixN3_1, ixN3_2, ixN2_0, ixN2_1, noPins, e_add, e_addT, e_addL, e_sub, e_mul, e_mulL, e_mulT, e_div, e_mod, e_neg, e_eqI, e_neI, e_eqB, e_eqT, e_eqL, e_neT, e_neL, e_cmp, e_is, e_isnot, e_ixL, e_ixT, e_lenL, e_lenT, e_tupL, e_tupT, e_lstL, e_lstT, e_int, e_intB, e_abs, e_sum, e_divmod, e_gcd, e_max, e_min, e_isi, e_cutL, e_cutT, q, stepD, ez, hlt])
  rw [e]
  have key : List.filterMap (fun d : D => match d with
      | .int k => S[k.toNat]?.map fun s => PyData.int (s.1 : Int)
      | _ => none) ((List.range N).map fun j => nD (i + j)) = (tk S i N).map .int := by
    rw [List.filterMap_map]
    have := range_get (fun s : Sp => PyData.int (s.1 : Int)) (S.drop i) N
    unfold tk
    rw [List.map_map]
    refine Eq.trans ?_ this
    apply fm_congr
    intro j _
    have ez : ((i : Int) + (j : Int)).toNat = i + j := by omega
    simp [ez]
  rw [key]
  rfl
theorem law_missing {n : Nat} {l : List Int} {a b x3 : Option Slot} (hn : n ≤ 1000) :
    dComp [7] (sRg1 (dLoc 0)) (tName 7) (bVal (dOp pNotIn (dCons (dLoc 7) (dCons (dLoc 6) dNil)))) (dLoc 7) [some (.val (.int (n : Int))), a, b, x3, none, none, some (.own false (l.map .int)), none, none, none] =
    some (.o (((List.range n).filter fun (j : Nat) => !l.contains (j : Int)).map nD), [some (.val (.int (n : Int))), a, b, x3, none, none, some (.own false (l.map .int)), none, none, none]) := by
  have e := dComp_ev (vs := [7]) (tgt := tName 7) (cond := bVal (dOp pNotIn (dCons (dLoc 7) (dCons (dLoc 6) dNil)))) (elt := dLoc 7) (src := sRg1 (dLoc 0))
    (ρ := [some (.val (.int (n : Int))), a, b, x3, none, none, some (.own false (l.map .int)), none, none, none])
    (ρ1 := [some (.val (.int (n : Int))), a, b, x3, none, none, some (.own false (l.map .int)), none, none, none])
    (g := fun d => match d with
      | .int k => if l.contains k then none else some (.int k)
      | _ => none) (its := (List.range n).map nD) (by
        simp [dLoc, dCon, dNil, dCons, dOp, dTup, dLst, looks, look, frz, dCall, dCallV, dCallK, reord, sSeq2, sSkip, sExp, sRet, sRetN, sIf, sAsg, sAsgT, bVal, bTru, bNot, bAnd, bOr, bYes, dAnd, dOr, dNot, dIf, tName, gsNil, gsCons, gTupD, Dn.tSub, Dn.valOf, asB, ownAt, asI, isPin, sl, dCut, iOf, iNo, fin, endV, runP, runF, runV, runW, startR, startV, dEmp, dChain, res, truR, Dn.tru, itemsOf, sNone, sSeq, sRg1, sRg2, sZip, sEnum, sFor, dApp, dPop, sBrk, sCnt, isNone, atI0, atI1, atI2, ixN3_0, ixN3_1, ixN3_2, ixN2_0, ixN2_1, noPins, e_add, e_addT, e_addL, e_sub, e_mul, e_mulL, e_mulT, e_div, e_mod, e_neg, e_eqI, e_neI, e_eqB, e_eqT, e_eqL, e_neT, e_neL, e_cmp, e_is, e_isnot, e_ixL, e_ixT, e_lenL, e_lenT, e_tupL, e_tupT, e_lstL, e_lstT, e_int, e_intB, e_abs, e_sum, e_divmod, e_gcd, e_max, e_min, e_isi, e_cutL, e_cutT, rg_ok hn]
        exact rg_map n) (by simp [dLoc, dCon, dNil, dCons, dOp, dTup, dLst, looks, look, frz, dCall, dCallV, dCallK, reord, sSeq2, sSkip, sExp, sRet, sRetN, sIf, sAsg, sAsgT, bVal, bTru, bNot, bAnd, bOr, bYes, dAnd, dOr, dNot, dIf, tName, gsNil, gsCons, gTupD, Dn.tSub, Dn.valOf, asB, ownAt, asI, isPin, sl, dCut, iOf, iNo, fin, endV, runP, runF, runV, runW, startR, startV, dEmp, dChain, res, truR, Dn.tru, itemsOf, sNone, sSeq, sRg1, sRg2, sZip, sEnum, sFor, dApp, dPop, sBrk, sCnt, isNone, atI0, atI1, atI2, ixN3_0, ixN3_1, ixN3_2, ixN2_0, ixN2_1, noPins, e_add, e_addT, e_addL, e_sub, e_mul, e_mulL, e_mulT, e_div, e_mod, e_neg, e_eqI, e_neI, e_eqB, e_eqT, e_eqL, e_neT, e_neL, e_cmp, e_is, e_isnot, e_ixL, e_ixT, e_lenL, e_lenT, e_tupL, e_tupT, e_lstL, e_lstT, e_int, e_intB, e_abs, e_sum, e_divmod, e_gcd, e_max, e_min, e_isi, e_cutL, e_cutT]) (by simp; omega) (fun d hd => by
      obtain ⟨j, hj, rfl⟩ := List.mem_map.mp hd
      by_cases h : l.contains (j : Int) = true
      · simp [stepC, wipeR, dLoc, dCon, dNil, dCons, dOp, dTup, dLst, looks, look, frz, dCall, dCallV, dCallK, reord, sSeq2, sSkip, sExp, sRet, sRetN, sIf, sAsg, sAsgT, bVal, bTru, bNot, bAnd, bOr, bYes, dAnd, dOr, dNot, dIf, tName, gsNil, gsCons, gTupD, Dn.tSub, Dn.valOf, asB, ownAt, asI, isPin, sl, dCut, iOf, iNo, fin, endV, runP, runF, runV, runW, startR, startV, dEmp, dChain, res, truR, Dn.tru, itemsOf, sNone, sSeq, sRg1, sRg2, sZip, sEnum, sFor, dApp, dPop, sBrk, sCnt, isNone, atI0, atI1, atI2, ixN3_0, ixN3_1, ixN3_2, ixN2_0, ixN2_1, noPins, e_add, e_addT, e_addL, e_sub, e_mul, e_mulL, e_mulT, e_div, e_mod, e_neg, e_eqI, e_neI, e_eqB, e_eqT, e_eqL, e_neT, e_neL, e_cmp, e_is, e_isnot, e_ixL, e_ixT, e_lenL, e_lenT, e_tupL, e_tupT, e_lstL, e_lstT, e_int, e_intB, e_abs, e_sum, e_divmod, e_gcd, e_max, e_min, e_isi, e_cutL, e_cutT, e_notinI, h, -List.contains_eq_mem]
      · simp only [Bool.not_eq_true] at h
        simp [stepC, wipeR, dLoc, dCon, dNil, dCons, dOp, dTup, dLst, looks, look, frz, dCall, dCallV, dCallK, reord, sSeq2, sSkip, sExp, sRet, sRetN, sIf, sAsg, sAsgT, bVal, bTru, bNot, bAnd, bOr, bYes, dAnd, dOr, dNot, dIf, tName, gsNil, gsCons, gTupD, Dn.tSub, Dn.valOf, asB, ownAt, asI, isPin, sl, dCut, iOf, iNo, fin, endV, runP, runF, runV, runW, startR, startV, dEmp, dChain, res, truR, Dn.tru, itemsOf, sNone, sSeq, sRg1, sRg2, sZip, sEnum, sFor, dApp, dPop, sBrk, sCnt, isNone, atI0, atI1, atI2, ixN3_0, ixN3_1, ixN3_2, ixN2_0, ixN2_1, noPins, e_add, e_addT, e_addL, e_sub, e_mul, e_mulL, e_mulT, e_div, e_mod, e_neg, e_eqI, e_neI, e_eqB, e_eqT, e_eqL, e_neT, e_neL, e_cmp, e_is, e_isnot, e_ixL, e_ixT, e_lenL, e_lenT, e_tupL, e_tupT, e_lstL, e_lstT, e_int, e_intB, e_abs, e_sum, e_divmod, e_gcd, e_max, e_min, e_isi, e_cutL, e_cutT, e_notinI, h, -List.contains_eq_mem])
  rw [e]
  have key : List.filterMap (fun d : D => match d with
      | .int k => if l.contains k then none else some (PyData.int k)
      | _ => none) ((List.range n).map nD) = ((List.range n).filter fun (j : Nat) => !l.contains (j : Int)).map nD := by
    rw [List.filterMap_map]
    generalize List.range n = r
    induction r with
    | nil => rfl
    | cons j r ih =>
      rw [List.filterMap_cons, List.filter_cons, ih]
      cases h : l.contains (j : Int) <;> simp [h, -List.contains_eq_mem]
  rw [key]
  rfl
theorem missing_empty {n : Nat} {S : List Sp} {N i : Nat} : (((List.range n).filter fun (j : Nat) => !(tk S i N).contains (j : Int)).map nD).isEmpty = takenAll n S N i := by
  unfold takenAll
  generalize List.range n = r
  induction r with
  | nil => rfl
  | cons j r ih => cases h : (tk S i N).contains (j : Int) <;> simp [List.filter_cons, h, -List.contains_eq_mem] <;> simpa [-List.contains_eq_mem] using ih
abbrev bodyA : TSD := (sSeq2 (sAsg (dComp [5] (sRg2 (dLoc 3) (dOp pAdd (dCons (dLoc 3) (dCons (dLoc 2) dNil)))) (tName 5) bYes (dOp pIx (dCons (dOp pIx (dCons (dLoc 1) (dCons (dLoc 5) dNil))) (dCons (dCon (.int 0)) dNil)))) (tName 6))
  (sSeq2 (sIf (bVal (dOp pNe (dCons (dComp [7] (sRg1 (dLoc 0)) (tName 7) (bVal (dOp pNotIn (dCons (dLoc 7) (dCons (dLoc 6) dNil)))) (dLoc 7)) (dCons (dLst dNil) dNil)))) (sSeq2 (sRet (dCon (.bool false)))
  sSkip) sSkip)
  sSkip))
theorem law_loopA {n N : Nat} {S : List Sp} (hn : n ≤ 1000) (hl : S.length ≤ 1000) :
    (dueA n S N = false → ∃ ρ', loopF (tName 3) bodyA ((List.range (S.length + 1 - N)).map nD) [some (.val (.int (n : Int))), some (.val (.tuple (S.map stepD))), some (.val (.int (N : Int))), none, none, none, none, none, none, none] = some (.rt (.v (.bool false)) ρ')) ∧
    (dueA n S N = true → ∃ x3 x6, loopF (tName 3) bodyA ((List.range (S.length + 1 - N)).map nD) [some (.val (.int (n : Int))), some (.val (.tuple (S.map stepD))), some (.val (.int (N : Int))), none, none, none, none, none, none, none] =
      some (.nx [some (.val (.int (n : Int))), some (.val (.tuple (S.map stepD))), some (.val (.int (N : Int))), x3, none, none, x6, none, none, none]) ∧ nfS x3 = true ∧ nfS x6 = true) := by
  obtain ⟨q1, q2⟩ := loopF_any (tgt := tName 3) (body := bodyA) (f := nD) (bad := fun i => !takenAll n S N i) (r := .v (.bool false))
    (P := fun ρ => ∃ x3 x6, ρ = [some (.val (.int (n : Int))), some (.val (.tuple (S.map stepD))), some (.val (.int (N : Int))), x3, none, none, x6, none, none, none] ∧ nfS x3 = true ∧ nfS x6 = true)
    (xs := List.range (S.length + 1 - N)) (ρ := [some (.val (.int (n : Int))), some (.val (.tuple (S.map stepD))), some (.val (.int (N : Int))), none, none, none, none, none, none, none]) (fun i hi ρ h => by
      obtain ⟨x3, x6, rfl, n3, n6⟩ := h
      have hi : i < S.length + 1 - N := List.mem_range.mp hi
      have e1 := law_taken (n := n) (x0 := none) (x6 := x6) (i := i) (N := N) hl (by omega)
      have e2 := law_missing (n := n) (l := tk S i N) (a := some (.val (.tuple (S.map stepD)))) (b := some (.val (.int (N : Int)))) (x3 := some (.val (.int (i : Int)))) hn
      have me := missing_empty (n := n) (S := S) (N := N) (i := i)
      have ip3 := nf_isPin n3
      unfold isPin at ip3
      generalize ((List.range n).filter fun (j : Nat) => !(tk S i N).contains (j : Int)).map nD = L at e2 me
      refine ⟨[some (.val (.int (n : Int))), some (.val (.tuple (S.map stepD))), some (.val (.int (N : Int))), some (.val (.int (i : Int))), none, none, x6, none, none, none], by simp [dLoc, dCon, dNil, dCons, dOp, dTup, dLst, looks, look, frz, dCall, dCallV, dCallK, reord, sSeq2, sSkip, sExp, sRet, sRetN, sIf, sAsg, sAsgT, bVal, bTru, bNot, bAnd, bOr, bYes, dAnd, dOr, dNot, dIf, tName, gsNil, gsCons, gTupD, Dn.tSub, Dn.valOf, asB, ownAt, asI, isPin, sl, dCut, iOf, iNo, fin, endV, runP, runF, runV, runW, startR, startV, dEmp, dChain, res, truR, Dn.tru, itemsOf, sNone, sSeq, sRg1, sRg2, sZip, sEnum, sFor, dApp, dPop, sBrk, sCnt, isNone, atI0, atI1, atI2, ixN3_0, ixN3_1, ixN3_2, ixN2_0, ixN2_1, noPins, e_add, e_addT, e_addL, e_sub, e_mul, e_mulL, e_mulT, e_div, e_mod, e_neg, e_eqI, e_neI, e_eqB, e_eqT, e_eqL, e_neT, e_neL, e_cmp, e_is, e_isnot, e_ixL, e_ixT, e_lenL, e_lenT, e_tupL, e_tupT, e_lstL, e_lstT, e_int, e_intB, e_abs, e_sum, e_divmod, e_gcd, e_max, e_min, e_isi, e_cutL, e_cutT, ip3], fun hb => ?_, fun hb => ?_⟩
      · simp only [Bool.not_eq_true'] at hb
        rw [hb] at me
        refine ⟨[some (.val (.int (n : Int))), some (.val (.tuple (S.map stepD))), some (.val (.int (N : Int))), some (.val (.int (i : Int))), none, none, some (.own false ((tk S i N).map .int)), none, none, none], ?_⟩
        simp only [bodyA, sSeq2, sAsg, e1, res, tName, sIf, bVal, dOp, dCons, List.getElem?_cons_succ, List.getElem?_cons_zero, nf_isPin n6, Bool.false_or, List.length_cons, List.length_nil, List.set_cons_succ, List.set_cons_zero, e2]
        simp [dLoc, dCon, dNil, dCons, dOp, dTup, dLst, looks, look, frz, dCall, dCallV, dCallK, reord, sSeq2, sSkip, sExp, sRet, sRetN, sIf, sAsg, sAsgT, bVal, bTru, bNot, bAnd, bOr, bYes, dAnd, dOr, dNot, dIf, tName, gsNil, gsCons, gTupD, Dn.tSub, Dn.valOf, asB, ownAt, asI, isPin, sl, dCut, iOf, iNo, fin, endV, runP, runF, runV, runW, startR, startV, dEmp, dChain, res, truR, Dn.tru, itemsOf, sNone, sSeq, sRg1, sRg2, sZip, sEnum, sFor, dApp, dPop, sBrk, sCnt, isNone, atI0, atI1, atI2, ixN3_0, ixN3_1, ixN3_2, ixN2_0, ixN2_1, noPins, e_add, e_addT, e_addL, e_sub, e_mul, e_mulL, e_mulT, e_div, e_mod, e_neg, e_eqI, e_neI, e_eqB, e_eqT, e_eqL, e_neT, e_neL, e_cmp, e_is, e_isnot, e_ixL, e_ixT, e_lenL, e_lenT, e_tupL, e_tupT, e_lstL, e_lstT, e_int, e_intB, e_abs, e_sum, e_divmod, e_gcd, e_max, e_min, e_isi, e_cutL, e_cutT, me, e2]
      · simp only [Bool.not_eq_false'] at hb
        rw [hb] at me
        refine ⟨_, ?_, some (.val (.int (i : Int))), some (.own false ((tk S i N).map .int)), rfl, rfl, rfl⟩
        simp only [bodyA, sSeq2, sAsg, e1, res, tName, sIf, bVal, dOp, dCons, List.getElem?_cons_succ, List.getElem?_cons_zero, nf_isPin n6, Bool.false_or, List.length_cons, List.length_nil, List.set_cons_succ, List.set_cons_zero, e2]
        simp [dLoc, dCon, dNil, dCons, dOp, dTup, dLst, looks, look, frz, dCall, dCallV, dCallK, reord, sSeq2, sSkip, sExp, sRet, sRetN, sIf, sAsg, sAsgT, bVal, bTru, bNot, bAnd, bOr, bYes, dAnd, dOr, dNot, dIf, tName, gsNil, gsCons, gTupD, Dn.tSub, Dn.valOf, asB, ownAt, asI, isPin, sl, dCut, iOf, iNo, fin, endV, runP, runF, runV, runW, startR, startV, dEmp, dChain, res, truR, Dn.tru, itemsOf, sNone, sSeq, sRg1, sRg2, sZip, sEnum, sFor, dApp, dPop, sBrk, sCnt, isNone, atI0, atI1, atI2, ixN3_0, ixN3_1, ixN3_2, ixN2_0, ixN2_1, noPins, e_add, e_addT, e_addL, e_sub, e_mul, e_mulL, e_mulT, e_div, e_mod, e_neg, e_eqI, e_neI, e_eqB, e_eqT, e_eqL, e_neT, e_neL, e_cmp, e_is, e_isnot, e_ixL, e_ixT, e_lenL, e_lenT, e_tupL, e_tupT, e_lstL, e_lstT, e_int, e_intB, e_abs, e_sum, e_divmod, e_gcd, e_max, e_min, e_isi, e_cutL, e_cutT, me, e2]) ⟨none, none, rfl, rfl, rfl⟩
  have hA : (List.range (S.length + 1 - N)).any (fun i => !takenAll n S N i) = !dueA n S N := by
    unfold dueA
    rw [List.not_all_eq_any_not]
  rw [hA] at q1 q2
  refine ⟨fun h => q1 (by rw [h]; rfl), fun h => ?_⟩
  obtain ⟨ρ', e, x3, x6, rfl, n3, n6⟩ := q2 (by rw [h]; rfl)
  exact ⟨x3, x6, e, n3, n6⟩
end K48

set_option Elab.async false
set_option linter.all false
set_option maxRecDepth 100000
set_option maxHeartbeats 4000000
namespace K48
open PySem PySem.Spec PyProof.Rows L2 Dn Pl

theorem ix_n {l : List Nat} {i : Int} {p : Nat} (h : i = p) (hp : p < l.length) : atI (l.map nD) i = some (nD (l.getD p 0)) := by
  rw [atI_at h, List.getElem?_map, List.getElem?_eq_getElem hp, List.getD_eq_getElem?_getD, List.getElem?_eq_getElem hp]; rfl
theorem ix_l {c : List (List Nat)} {i : Int} {p : Nat} (h : i = p) (hp : p < c.length) : atI (c.map lD) i = some (lD (c.getD p [])) := by
  rw [atI_at h, List.getElem?_map, List.getElem?_eq_getElem hp, List.getD_eq_getElem?_getD, List.getElem?_eq_getElem hp]; rfl
abbrev bodyJ : TSD := (sSeq2 (sIf (bAnd (bVal (dOp pLt (dCons (dOp pAdd (dCons (dOp pIx (dCons (dLoc 9) (dCons (dLoc 7) dNil))) (dCons (dCon (.int 1)) dNil))) (dCons (dOp pLen (dCons (dOp pIx (dCons (dLoc 4) (dCons (dLoc 7) dNil))) dNil)) dNil)))) (bVal (dOp pLe (dCons (dOp pIx (dCons (dOp pIx (dCons (dLoc 4) (dCons (dLoc 7) dNil))) (dCons (dOp pAdd (dCons (dOp pIx (dCons (dLoc 9) (dCons (dLoc 7) dNil))) (dCons (dCon (.int 1)) dNil))) dNil))) (dCons (dOp pSub (dCons (dLoc 5) (dCons (dLoc 2) dNil))) dNil))))) (sSeq2 (sRet (dCon (.bool false)))
  sSkip) sSkip)
  sSkip)
theorem law_loopJ {n N k : Nat} {came : List (List Nat)} {ps : List Nat} {a x3 x6 x7 x8 : Option Slot} (hc : came.length = n) (hp : ps.length = n) (n7 : nfS x7 = true) :
    (badS N k came ps = true → ∃ ρ', loopF (tName 7) bodyJ ((List.range n).map nD) [some (.val (.int (n : Int))), a, some (.val (.int (N : Int))), x3, some (.val (cameD came)), some (.val (.int (k : Int))), x6, x7, x8, some (.val (.tuple (ps.map nD)))] = some (.rt (.v (.bool false)) ρ')) ∧
    (badS N k came ps = false → ∃ x7', loopF (tName 7) bodyJ ((List.range n).map nD) [some (.val (.int (n : Int))), a, some (.val (.int (N : Int))), x3, some (.val (cameD came)), some (.val (.int (k : Int))), x6, x7, x8, some (.val (.tuple (ps.map nD)))] =
      some (.nx [some (.val (.int (n : Int))), a, some (.val (.int (N : Int))), x3, some (.val (cameD came)), some (.val (.int (k : Int))), x6, x7', x8, some (.val (.tuple (ps.map nD)))]) ∧ nfS x7' = true) := by
  obtain ⟨q1, q2⟩ := loopF_any (tgt := tName 7) (body := bodyJ) (f := nD) (bad := fun j => badJ N k (came.getD j []) (ps.getD j 0)) (r := .v (.bool false))
    (P := fun ρ => ∃ x7', ρ = [some (.val (.int (n : Int))), a, some (.val (.int (N : Int))), x3, some (.val (cameD came)), some (.val (.int (k : Int))), x6, x7', x8, some (.val (.tuple (ps.map nD)))] ∧ nfS x7' = true)
    (xs := List.range n) (ρ := [some (.val (.int (n : Int))), a, some (.val (.int (N : Int))), x3, some (.val (cameD came)), some (.val (.int (k : Int))), x6, x7, x8, some (.val (.tuple (ps.map nD)))]) (fun j hj ρ h => by
      obtain ⟨y, rfl, ny⟩ := h
      have hj : j < n := List.mem_range.mp hj
      have ip := nf_isPin ny
      unfold isPin at ip
      have e1 := ix_n (l := ps) (i := (j : Int)) rfl (by omega)
      have e2 := ix_l (c := came) (i := (j : Int)) rfl (by omega)
      generalize ps.getD j 0 = p at e1 ⊢
      generalize came.getD j [] = c at e2 ⊢
      refine ⟨[some (.val (.int (n : Int))), a, some (.val (.int (N : Int))), x3, some (.val (cameD came)), some (.val (.int (k : Int))), x6, some (.val (.int (j : Int))), x8, some (.val (.tuple (ps.map nD)))], by simp [dLoc, dCon, dNil, dCons, dOp, dTup, dLst, looks, look, frz, dCall, dCallV, dCallK, reord, sSeq2, sSkip, sExp, sRet, sRetN, sIf, sAsg, sAsgT, bVal, bTru, bNot, bAnd, bOr, bYes, dAnd, dOr, dNot, dIf, tName, gsNil, gsCons, gTupD, Dn.tSub, Dn.valOf, asB, ownAt, asI, isPin, sl, dCut, iOf, iNo, fin, endV, runP, runF, runV, runW, startR, startV, dEmp, dChain, res, truR, Dn.tru, itemsOf, sNone, sSeq, sRg1, sRg2, sZip, sEnum, sFor, dApp, dPop, sBrk, sCnt, isNone, atI0, atI1, atI2, ixN3_0, ixN3_1, ixN3_2, ixN2_0, ixN2_1, noPins, e_add, e_addT, e_addL, e_sub, e_mul, e_mulL, e_mulT, e_div, e_mod, e_neg, e_eqI, e_neI, e_eqB, e_eqT, e_eqL, e_neT, e_neL, e_cmp, e_is, e_isnot, e_ixL, e_ixT, e_lenL, e_lenT, e_tupL, e_tupT, e_lstL, e_lstT, e_int, e_intB, e_abs, e_sum, e_divmod, e_gcd, e_max, e_min, e_isi, e_cutL, e_cutT, ip], fun hb => ?_, fun hb => ?_⟩
      · simp only [badJ, Bool.and_eq_true, decide_eq_true_eq] at hb
        have e3 := ix_n (l := c) (i := (p : Int) + 1) (p := p + 1) (by omega) hb.1
        have h1 : ((p : Int) + 1 < (c.length : Int)) := by omega
        have h2 := hb.2
        generalize c.getD (p + 1) 0 = v at e3 h2
        refine ⟨[some (.val (.int (n : Int))), a, some (.val (.int (N : Int))), x3, some (.val (cameD came)), some (.val (.int (k : Int))), x6, some (.val (.int (j : Int))), x8, some (.val (.tuple (ps.map nD)))], ?_⟩
        simp [dLoc, dCon, dNil, dCons, dOp, dTup, dLst, looks, look, frz, dCall, dCallV, dCallK, reord, sSeq2, sSkip, sExp, sRet, sRetN, sIf, sAsg, sAsgT, bVal, bTru, bNot, bAnd, bOr, bYes, dAnd, dOr, dNot, dIf, tName, gsNil, gsCons, gTupD, Dn.tSub, Dn.valOf, asB, ownAt, asI, isPin, sl, dCut, iOf, iNo, fin, endV, runP, runF, runV, runW, startR, startV, dEmp, dChain, res, truR, Dn.tru, itemsOf, sNone, sSeq, sRg1, sRg2, sZip, sEnum, sFor, dApp, dPop, sBrk, sCnt, isNone, atI0, atI1, atI2, ixN3_0, ixN3_1, ixN3_2, ixN2_0, ixN2_1, noPins, e_add, e_addT, e_addL, e_sub, e_mul, e_mulL, e_mulT, e_div, e_mod, e_neg, e_eqI, e_neI, e_eqB, e_eqT, e_eqL, e_neT, e_neL, e_cmp, e_is, e_isnot, e_ixL, e_ixT, e_lenL, e_lenT, e_tupL, e_tupT, e_lstL, e_lstT, e_int, e_intB, e_abs, e_sum, e_divmod, e_gcd, e_max, e_min, e_isi, e_cutL, e_cutT, cameD, lD, e1, e2, e3, h1, h2]
      · refine ⟨[some (.val (.int (n : Int))), a, some (.val (.int (N : Int))), x3, some (.val (cameD came)), some (.val (.int (k : Int))), x6, some (.val (.int (j : Int))), x8, some (.val (.tuple (ps.map nD)))], ?_, _, rfl, rfl⟩
        by_cases h0 : p + 1 < c.length
        · have e3 := ix_n (l := c) (i := (p : Int) + 1) (p := p + 1) (by omega) h0
          have h1 : ((p : Int) + 1 < (c.length : Int)) := by omega
          have h2 : ¬ (((c.getD (p + 1) 0 : Nat) : Int) ≤ (k : Int) - N) := fun z => by
            unfold badJ at hb
            rw [decide_eq_true h0, decide_eq_true z] at hb
            cases hb
          generalize c.getD (p + 1) 0 = v at e3 h2
          simp [dLoc, dCon, dNil, dCons, dOp, dTup, dLst, looks, look, frz, dCall, dCallV, dCallK, reord, sSeq2, sSkip, sExp, sRet, sRetN, sIf, sAsg, sAsgT, bVal, bTru, bNot, bAnd, bOr, bYes, dAnd, dOr, dNot, dIf, tName, gsNil, gsCons, gTupD, Dn.tSub, Dn.valOf, asB, ownAt, asI, isPin, sl, dCut, iOf, iNo, fin, endV, runP, runF, runV, runW, startR, startV, dEmp, dChain, res, truR, Dn.tru, itemsOf, sNone, sSeq, sRg1, sRg2, sZip, sEnum, sFor, dApp, dPop, sBrk, sCnt, isNone, atI0, atI1, atI2, ixN3_0, ixN3_1, ixN3_2, ixN2_0, ixN2_1, noPins, e_add, e_addT, e_addL, e_sub, e_mul, e_mulL, e_mulT, e_div, e_mod, e_neg, e_eqI, e_neI, e_eqB, e_eqT, e_eqL, e_neT, e_neL, e_cmp, e_is, e_isnot, e_ixL, e_ixT, e_lenL, e_lenT, e_tupL, e_tupT, e_lstL, e_lstT, e_int, e_intB, e_abs, e_sum, e_divmod, e_gcd, e_max, e_min, e_isi, e_cutL, e_cutT, cameD, lD, e1, e2, e3, h1, h2]
        · have h1 : ¬ ((p : Int) + 1 < (c.length : Int)) := by omega
          simp [dLoc, dCon, dNil, dCons, dOp, dTup, dLst, looks, look, frz, dCall, dCallV, dCallK, reord, sSeq2, sSkip, sExp, sRet, sRetN, sIf, sAsg, sAsgT, bVal, bTru, bNot, bAnd, bOr, bYes, dAnd, dOr, dNot, dIf, tName, gsNil, gsCons, gTupD, Dn.tSub, Dn.valOf, asB, ownAt, asI, isPin, sl, dCut, iOf, iNo, fin, endV, runP, runF, runV, runW, startR, startV, dEmp, dChain, res, truR, Dn.tru, itemsOf, sNone, sSeq, sRg1, sRg2, sZip, sEnum, sFor, dApp, dPop, sBrk, sCnt, isNone, atI0, atI1, atI2, ixN3_0, ixN3_1, ixN3_2, ixN2_0, ixN2_1, noPins, e_add, e_addT, e_addL, e_sub, e_mul, e_mulL, e_mulT, e_div, e_mod, e_neg, e_eqI, e_neI, e_eqB, e_eqT, e_eqL, e_neT, e_neL, e_cmp, e_is, e_isnot, e_ixL, e_ixT, e_lenL, e_lenT, e_tupL, e_tupT, e_lstL, e_lstT, e_int, e_intB, e_abs, e_sum, e_divmod, e_gcd, e_max, e_min, e_isi, e_cutL, e_cutT, cameD, lD, e1, e2, h1]) ⟨x7, rfl, n7⟩
  have hA : (List.range n).any (fun j => badJ N k (came.getD j []) (ps.getD j 0)) = badS N k came ps := by unfold badS; rw [hp]
  rw [hA] at q1 q2
  refine ⟨q1, fun h => ?_⟩
  obtain ⟨ρ', e, y, rfl, ny⟩ := q2 h
  exact ⟨y, e, ny⟩
theorem came_set {came : List (List Nat)} {i k : Nat} : cameD (came.set i (came.getD i [] ++ [k])) = .list ((came.map lD).set i (.list ((came.getD i []).map nD ++ [nD k]))) := by
  unfold cameD
  congr 1
  rw [List.map_set]
  congr 1
  simp [lD]
abbrev bodyT : TSD := (sSeq2 (sAsg (dOp pIx (dCons (dLoc 1) (dCons (dOp pSub (dCons (dLoc 5) (dCons (dCon (.int 1)) dNil))) dNil))) (gTupD 2 (gsCons (tName 8) (gsCons (tName 9) gsNil))))
  (sSeq2 (sFor (sRg1 (dLoc 0)) (tName 7) bodyJ)
  (sSeq2 (sApp2 4 (dLoc 8) (dLoc 5))
  sSkip)))
theorem law_loopT {n N : Nat} {S : List Sp} {x3 x6 : Option Slot} (hn : n ≤ 1000) (hl : S.length ≤ 1000) (hS : Good n S) (n3 : nfS x3 = true) (n6 : nfS x6 = true) :
    (dueT n S N = false → ∃ ρ', loopF (tName 5) bodyT ((List.range S.length).map fun i => nD (1 + i)) [some (.val (.int (n : Int))), some (.val (.tuple (S.map stepD))), some (.val (.int (N : Int))), x3, some (.val (cameD (List.replicate n [0, 0]))), none, x6, none, none, none] = some (.rt (.v (.bool false)) ρ')) ∧
    (dueT n S N = true → ∃ ρ', loopF (tName 5) bodyT ((List.range S.length).map fun i => nD (1 + i)) [some (.val (.int (n : Int))), some (.val (.tuple (S.map stepD))), some (.val (.int (N : Int))), x3, some (.val (cameD (List.replicate n [0, 0]))), none, x6, none, none, none] = some (.nx ρ')) := by
  obtain ⟨q1, q2⟩ := loopF_run (tgt := tName 5) (body := bodyT) (f := fun x : Nat × Sp => nD x.1) (nxt := nxtT N) (r := .v (.bool false)) (k := 0)
    (P := fun i came ρ => came.length = n ∧ (∀ c ∈ came, c.length ≤ i + 2) ∧ ∃ x3 x5 x6 x7 x8 x9, ρ = [some (.val (.int (n : Int))), some (.val (.tuple (S.map stepD))), some (.val (.int (N : Int))), x3, some (.val (cameD came)), x5, x6, x7, x8, x9] ∧ nfS x3 = true ∧ nfS x5 = true ∧ nfS x6 = true ∧ nfS x7 = true ∧ nfS x8 = true ∧ nfS x9 = true)
    (xs := prs 1 S) (s := List.replicate n [0, 0]) (ρ := [some (.val (.int (n : Int))), some (.val (.tuple (S.map stepD))), some (.val (.int (N : Int))), x3, some (.val (cameD (List.replicate n [0, 0]))), none, x6, none, none, none]) (fun i x hx came ρ h => by
      obtain ⟨hcl, hcb, x3, x5, x6, x7, x8, x9, rfl, n3, n5, n6, n7, n8, n9⟩ := h
      obtain ⟨k, s1, ps⟩ := x
      obtain ⟨hk, hs⟩ := prs_get hx
      simp only at hk hs
      have hm : (s1, ps) ∈ S := List.mem_of_getElem? hs
      have hu : s1 < n := hS.un _ hm
      have hpl : ps.length = n := hS.pk _ hm
      have hil : i < S.length := (List.getElem?_eq_some_iff.mp hs).1
      have ip5 := nf_isPin n5
      have ip8 := nf_isPin n8
      have ip9 := nf_isPin n9
      unfold isPin at ip5 ip8 ip9
      have e1 : atI (S.map stepD) ((k : Int) - 1) = some (stepD (s1, ps)) := by rw [ix_step (j := i) (by omega), hs]; rfl
      obtain ⟨j1, j2⟩ := law_loopJ (n := n) (N := N) (k := k) (came := came) (ps := ps) (a := some (.val (.tuple (S.map stepD)))) (x3 := x3) (x6 := x6) (x7 := x7) (x8 := some (.val (.int (s1 : Int)))) hcl hpl n7
      refine ⟨[some (.val (.int (n : Int))), some (.val (.tuple (S.map stepD))), some (.val (.int (N : Int))), x3, some (.val (cameD came)), some (.val (.int (k : Int))), x6, x7, x8, x9], by simp [dLoc, dCon, dNil, dCons, dOp, dTup, dLst, looks, look, frz, dCall, dCallV, dCallK, reord, sSeq2, sSkip, sExp, sRet, sRetN, sIf, sAsg, sAsgT, bVal, bTru, bNot, bAnd, bOr, bYes, dAnd, dOr, dNot, dIf, tName, gsNil, gsCons, gTupD, Dn.tSub, Dn.valOf, asB, ownAt, asI, isPin, sl, dCut, iOf, iNo, fin, endV, runP, runF, runV, runW, startR, startV, dEmp, dChain, res, truR, Dn.tru, itemsOf, sNone, sSeq, sRg1, sRg2, sZip, sEnum, sFor, dApp, dPop, sBrk, sCnt, isNone, atI0, atI1, atI2, ixN3_0, ixN3_1, ixN3_2, ixN2_0, ixN2_1, noPins, e_add, e_addT, e_addL, e_sub, e_mul, e_mulL, e_mulT, e_div, e_mod, e_neg, e_eqI, e_neI, e_eqB, e_eqT, e_eqL, e_neT, e_neL, e_cmp, e_is, e_isnot, e_ixL, e_ixT, e_lenL, e_lenT, e_tupL, e_tupT, e_lstL, e_lstT, e_int, e_intB, e_abs, e_sum, e_divmod, e_gcd, e_max, e_min, e_isi, e_cutL, e_cutT, ip5], fun hb => ?_, fun s' hb => ?_⟩
      · have hb : badS N k came ps = true := by
          unfold nxtT at hb
          split at hb
          · assumption
          · cases hb
        obtain ⟨ρ', e⟩ := j1 hb
        refine ⟨ρ', ?_⟩
        simp [dLoc, dCon, dNil, dCons, dOp, dTup, dLst, looks, look, frz, dCall, dCallV, dCallK, reord, sSeq2, sSkip, sExp, sRet, sRetN, sIf, sAsg, sAsgT, bVal, bTru, bNot, bAnd, bOr, bYes, dAnd, dOr, dNot, dIf, tName, gsNil, gsCons, gTupD, Dn.tSub, Dn.valOf, asB, ownAt, asI, isPin, sl, dCut, iOf, iNo, fin, endV, runP, runF, runV, runW, startR, startV, dEmp, dChain, res, truR, Dn.tru, itemsOf, sNone, sSeq, sRg1, sRg2, sZip, sEnum, sFor, dApp, dPop, sBrk, sCnt, isNone, atI0, atI1, atI2, ixN3_0, ixN3_1, ixN3_2, ixN2_0, ixN2_1, noPins, e_add, e_addT, e_addL, e_sub, e_mul, e_mulL, e_mulT, e_div, e_mod, e_neg, e_eqI, e_neI, e_eqB, e_eqT, e_eqL, e_neT, e_neL, e_cmp, e_is, e_isnot, e_ixL, e_ixT, e_lenL, e_lenT, e_tupL, e_tupT, e_lstL, e_lstT, e_int, e_intB, e_abs, e_sum, e_divmod, e_gcd, e_max, e_min, e_isi, e_cutL, e_cutT, e1, stepD, ip8, ip9, rg_ok hn, rg_map, e]
      · have hb2 : badS N k came ps = false ∧ s' = came.set s1 (came.getD s1 [] ++ [k]) := by
          unfold nxtT at hb
          split at hb
          · cases hb
          · rename_i h; cases hb; exact ⟨by simpa using h, rfl⟩
        obtain ⟨hb1, rfl⟩ := hb2
        obtain ⟨y7, e, ny⟩ := j2 hb1
        have hcs : s1 < came.length := by omega
        have hg : came.getD s1 [] ∈ came := by rw [List.getD_eq_getElem?_getD, List.getElem?_eq_getElem hcs]; exact List.getElem_mem _
        have hlen := hcb _ hg
        have g1 : ixN (came.map lD).length (s1 : Int) = some s1 := by unfold ixN; rw [if_pos (by omega), if_pos (by rw [List.length_map]; omega)]; rfl
        have g2 : (came.map lD)[s1]? = some (.list ((came.getD s1 []).map nD)) := by rw [List.getElem?_map, List.getElem?_eq_getElem hcs, List.getD_eq_getElem?_getD, List.getElem?_eq_getElem hcs]; rfl
        have g3 := flatL_came came
        have g4 : ((came.getD s1 []).map nD).length < 1000000 := by rw [List.length_map]; omega
        refine ⟨[some (.val (.int (n : Int))), some (.val (.tuple (S.map stepD))), some (.val (.int (N : Int))), thin x3, some (.val (cameD (came.set s1 (came.getD s1 [] ++ [k])))), some (.val (.int (k : Int))), thin x6, thin y7, some (.val (.int (s1 : Int))), some (.val (.tuple (ps.map nD)))], ?_, ?_, ?_, thin x3, some (.val (.int (k : Int))), thin x6, thin y7, some (.val (.int (s1 : Int))), some (.val (.tuple (ps.map nD))), rfl, nf_thin n3, rfl, nf_thin n6, nf_thin ny, rfl, rfl⟩
        rotate_left
        · rw [List.length_set]; exact hcl
        · intro c hc
          rcases List.mem_or_eq_of_mem_set hc with hc | hc
          · have := hcb c hc; omega
          · subst hc; rw [List.length_append, List.length_singleton]; omega
        · generalize came.getD s1 [] = c at g2 g4 ⊢
          rw [show cameD (came.set s1 (c ++ [k])) = .list ((came.map lD).set s1 (.list (c.map nD ++ [nD k]))) by unfold cameD; congr 1; rw [List.map_set]; congr 1; simp [lD]]
          generalize hL : came.map lD = L at g1 g2 g3
          have e : loopF (tName 7) bodyJ ((List.range n).map nD) [some (.val (.int (n : Int))), some (.val (.tuple (S.map stepD))), some (.val (.int (N : Int))), x3, some (.val (.list L)), some (.val (.int (k : Int))), x6, x7, some (.val (.int (s1 : Int))), some (.val (.tuple (ps.map nD)))] = some (.nx [some (.val (.int (n : Int))), some (.val (.tuple (S.map stepD))), some (.val (.int (N : Int))), x3, some (.val (.list L)), some (.val (.int (k : Int))), x6, y7, some (.val (.int (s1 : Int))), some (.val (.tuple (ps.map nD)))]) := by
            rw [← hL]; exact e
          have hcm : cameD came = .list L := by unfold cameD; rw [hL]
          rw [hcm]
          have f1 := flats_steps S
          have f2 := flats_n ps
          simp [dLoc, dCon, dNil, dCons, dOp, dTup, dLst, looks, look, frz, dCall, dCallV, dCallK, reord, sSeq2, sSkip, sExp, sRet, sRetN, sIf, sAsg, sAsgT, bVal, bTru, bNot, bAnd, bOr, bYes, dAnd, dOr, dNot, dIf, tName, gsNil, gsCons, gTupD, Dn.tSub, Dn.valOf, asB, ownAt, asI, isPin, sl, dCut, iOf, iNo, fin, endV, runP, runF, runV, runW, startR, startV, dEmp, dChain, res, truR, Dn.tru, itemsOf, sNone, sSeq, sRg1, sRg2, sZip, sEnum, sFor, dApp, dPop, sBrk, sCnt, isNone, atI0, atI1, atI2, ixN3_0, ixN3_1, ixN3_2, ixN2_0, ixN2_1, noPins, e_add, e_addT, e_addL, e_sub, e_mul, e_mulL, e_mulT, e_div, e_mod, e_neg, e_eqI, e_neI, e_eqB, e_eqT, e_eqL, e_neT, e_neL, e_cmp, e_is, e_isnot, e_ixL, e_ixT, e_lenL, e_lenT, e_tupL, e_tupT, e_lstL, e_lstT, e_int, e_intB, e_abs, e_sum, e_divmod, e_gcd, e_max, e_min, e_isi, e_cutL, e_cutT, e1, stepD, ip8, ip9, rg_ok hn, rg_map, e, sApp2, g1, g2, g3, g4, pinsFlat_cons, pinsFlat_nil, pinS_val, pinS_none, nf_pinS n3, nf_pinS n6, nf_pinS ny, flat_int, thin_int, thin_tup, f1, f2, -List.all_eq_true, -List.length_map]) ⟨by simp, fun c hc => by rw [List.eq_of_mem_replicate hc]; simp, x3, none, x6, none, none, none, rfl, n3, rfl, n6, rfl, rfl, rfl⟩
  rw [prs_map] at q1 q2
  unfold dueT
  refine ⟨fun h => q1 (by simpa using h), fun h => ?_⟩
  obtain ⟨s', hs'⟩ := Option.isSome_iff_exists.mp h
  obtain ⟨ρ', e, _⟩ := q2 s' hs'
  exact ⟨ρ', e⟩
end K48

set_option Elab.async false
set_option linter.all false
set_option maxRecDepth 100000
set_option maxHeartbeats 4000000
namespace K48
open PySem PySem.Spec PyProof.Rows L2 Dn Pl

theorem rgA {L N : Nat} (hl : L ≤ 999) (hN : N ≤ 1000) : rgOk 0 ((L : Int) - (N : Int) + 1) = true ∧ rgD 0 ((L : Int) - (N : Int) + 1) = (List.range (L + 1 - N)).map nD := by
  refine ⟨by unfold rgOk; simp; omega, ?_⟩
  unfold rgD
  rw [show ((L : Int) - (N : Int) + 1 - 0).toNat = L + 1 - N by omega]
  apply List.map_congr_left
  intro i _
  show PyData.int _ = PyData.int _
  rw [Int.zero_add]
theorem rgT {L : Nat} (hl : L ≤ 999) : rgOk 1 ((L : Int) + 1) = true ∧ rgD 1 ((L : Int) + 1) = (List.range L).map fun i => nD (1 + i) := by
  refine ⟨by unfold rgOk; simp; omega, ?_⟩
  unfold rgD
  rw [show ((L : Int) + 1 - 1).toNat = L by omega]
  apply List.map_congr_left
  intro i _
  show PyData.int _ = PyData.int _
  congr 1
theorem came0 {n : Nat} : (List.replicate n [0, 0]).map lD = (List.range n).map fun _ => PyData.list [.int 0, .int 0] := by
  rw [List.map_replicate]
  apply List.ext_getElem?
  intro i
  simp only [List.getElem?_replicate, List.getElem?_map, List.getElem?_range', List.getElem?_range]
  by_cases h : i < n
  · simp [h, lD, nD]
  · simp [h]
theorem law_new {n : Nat} {a b x3 x6 : Option Slot} (hn : n ≤ 1000) (i : Nat) :
    sNew [7] (sRg1 (dLoc 0)) (tName 7) (dLst (dCons (dCon (.int 0)) (dCons (dCon (.int 0)) dNil))) 4 [some (.val (.int (n : Int))), a, b, x3, none, none, x6, none, none, none] =
    some (.nx [some (.val (.int (n : Int))), a, b, x3, some (.val (cameD (List.replicate n [0, 0]))), none, x6, none, none, none]) := by
  have e := loopN_ev (vs := [7]) (tgt := tName 7) (elt := dLst (dCons (dCon (.int 0)) (dCons (dCon (.int 0)) dNil))) (ρ := [some (.val (.int (n : Int))), a, b, x3, none, none, x6, none, none, none]) (xs := [.int 0, .int 0]) rfl
    (ds := (List.range n).map nD) (acc := []) (fun d hd => ⟨[some (.val (.int (n : Int))), a, b, x3, none, none, x6, some (.val d), none, none], [some (.val (.int (n : Int))), a, b, x3, none, none, x6, some (.val d), none, none], by simp [dLoc, dCon, dNil, dCons, dOp, dTup, dLst, looks, look, frz, dCall, dCallV, dCallK, reord, sSeq2, sSkip, sExp, sRet, sRetN, sIf, sAsg, sAsgT, bVal, bTru, bNot, bAnd, bOr, bYes, dAnd, dOr, dNot, dIf, tName, gsNil, gsCons, gTupD, Dn.tSub, Dn.valOf, asB, ownAt, asI, isPin, sl, dCut, iOf, iNo, fin, endV, runP, runF, runV, runW, startR, startV, dEmp, dChain, res, truR, Dn.tru, itemsOf, sNone, sSeq, sRg1, sRg2, sZip, sEnum, sFor, dApp, dPop, sBrk, sCnt, isNone, atI0, atI1, atI2, ixN3_0, ixN3_1, ixN3_2, ixN2_0, ixN2_1, noPins, e_add, e_addT, e_addL, e_sub, e_mul, e_mulL, e_mulT, e_div, e_mod, e_neg, e_eqI, e_neI, e_eqB, e_eqT, e_eqL, e_neT, e_neL, e_cmp, e_is, e_isnot, e_ixL, e_ixT, e_lenL, e_lenT, e_tupL, e_tupT, e_lstL, e_lstT, e_int, e_intB, e_abs, e_sum, e_divmod, e_gcd, e_max, e_min, e_isi, e_cutL, e_cutT], by simp [dLoc, dCon, dNil, dCons, dOp, dTup, dLst, looks, look, frz, dCall, dCallV, dCallK, reord, sSeq2, sSkip, sExp, sRet, sRetN, sIf, sAsg, sAsgT, bVal, bTru, bNot, bAnd, bOr, bYes, dAnd, dOr, dNot, dIf, tName, gsNil, gsCons, gTupD, Dn.tSub, Dn.valOf, asB, ownAt, asI, isPin, sl, dCut, iOf, iNo, fin, endV, runP, runF, runV, runW, startR, startV, dEmp, dChain, res, truR, Dn.tru, itemsOf, sNone, sSeq, sRg1, sRg2, sZip, sEnum, sFor, dApp, dPop, sBrk, sCnt, isNone, atI0, atI1, atI2, ixN3_0, ixN3_1, ixN3_2, ixN2_0, ixN2_1, noPins, e_add, e_addT, e_addL, e_sub, e_mul, e_mulL, e_mulT, e_div, e_mod, e_neg, e_eqI, e_neI, e_eqB, e_eqT, e_eqL, e_neT, e_neL, e_cmp, e_is, e_isnot, e_ixL, e_ixT, e_lenL, e_lenT, e_tupL, e_tupT, e_lstL, e_lstT, e_int, e_intB, e_abs, e_sum, e_divmod, e_gcd, e_max, e_min, e_isi, e_cutL, e_cutT], by simp [wipeR]⟩) (by simp; omega)
  have h0 : sRg1 (dLoc 0) [some (.val (.int (n : Int))), a, b, x3, none, none, x6, none, none, none] = some ((List.range n).map nD, [some (.val (.int (n : Int))), a, b, x3, none, none, x6, none, none, none]) := by
    simp [dLoc, dCon, dNil, dCons, dOp, dTup, dLst, looks, look, frz, dCall, dCallV, dCallK, reord, sSeq2, sSkip, sExp, sRet, sRetN, sIf, sAsg, sAsgT, bVal, bTru, bNot, bAnd, bOr, bYes, dAnd, dOr, dNot, dIf, tName, gsNil, gsCons, gTupD, Dn.tSub, Dn.valOf, asB, ownAt, asI, isPin, sl, dCut, iOf, iNo, fin, endV, runP, runF, runV, runW, startR, startV, dEmp, dChain, res, truR, Dn.tru, itemsOf, sNone, sSeq, sRg1, sRg2, sZip, sEnum, sFor, dApp, dPop, sBrk, sCnt, isNone, atI0, atI1, atI2, ixN3_0, ixN3_1, ixN3_2, ixN2_0, ixN2_1, noPins, e_add, e_addT, e_addL, e_sub, e_mul, e_mulL, e_mulT, e_div, e_mod, e_neg, e_eqI, e_neI, e_eqB, e_eqT, e_eqL, e_neT, e_neL, e_cmp, e_is, e_isnot, e_ixL, e_ixT, e_lenL, e_lenT, e_tupL, e_tupT, e_lstL, e_lstT, e_int, e_intB, e_abs, e_sum, e_divmod, e_gcd, e_max, e_min, e_isi, e_cutL, e_cutT, rg_ok hn]; exact rg_map n
  unfold sNew
  rw [h0]
  simp only [noPins, wipeR, List.all_cons, List.all_nil, isPin, List.getElem?_cons_succ, List.getElem?_cons_zero, List.set_cons_succ, List.set_cons_zero, Bool.not_false, Bool.and_self, if_true, e]
  simp [cameD, came0, Function.comp_def, lD, nD]
  exact List.eq_replicate_iff.mpr ⟨by simp, fun b hb => by obtain ⟨_, _, h⟩ := List.mem_map.mp hb; exact h.symm⟩
theorem seq_nx {a b : TSD} {ρ ρ1 : Rho} (h : a ρ = some (.nx ρ1)) : sSeq2 a b ρ = b ρ1 := by unfold sSeq2; rw [h]
theorem seq_rt {a b : TSD} {ρ ρ1 : Rho} {r : R} (h : a ρ = some (.rt r ρ1)) : sSeq2 a b ρ = some (.rt r ρ1) := by unfold sSeq2; rw [h]
theorem for_of {src : TSr} {tgt : TGD} {body : TSD} {ρ ρ1 : Rho} {its : List D} {o : Option Out} (h : src ρ = some (its, ρ1)) (h2 : loopF tgt body its ρ1 = o) : sFor src tgt body ρ = o := by unfold sFor; rw [h]; exact h2
theorem run_rt {n m : Nat} {t : TSD} {ds : List D} {d : D} {ρ : Rho} (hl : ds.length = n) (h : t (startR m ds) = some (.rt (.v d) ρ)) : runF n m t ds = some (.v d) := by
  unfold runF runP
  rw [if_pos hl, h]
  rfl
theorem law_due_spec {n N : Nat} {S : List Sp} (hn : n ≤ 1000) (hl : S.length ≤ 999) (hN : N ≤ 1000) (hS : Good n S) :
    F__law_is_due [.int (n : Int), .tuple (S.map stepD), .int (N : Int)] = some (.v (.bool (dueA n S N && dueT n S N))) := by
  obtain ⟨a1, a2⟩ := rgA (L := S.length) (N := N) (by omega) hN
  obtain ⟨t1, t2⟩ := rgT (L := S.length) hl
  obtain ⟨A1, A2⟩ := law_loopA (n := n) (N := N) (S := S) hn (by omega)
  have st : startR 10 [.int (n : Int), .tuple (S.map stepD), .int (N : Int)] = [some (.val (.int (n : Int))), some (.val (.tuple (S.map stepD))), some (.val (.int (N : Int))), none, none, none, none, none, none, none] := rfl
  have sA : sRg1 (dOp pAdd (dCons (dOp pSub (dCons (dOp pLen (dCons (dLoc 1) dNil)) (dCons (dLoc 2) dNil))) (dCons (dCon (.int 1)) dNil))) [some (.val (.int (n : Int))), some (.val (.tuple (S.map stepD))), some (.val (.int (N : Int))), none, none, none, none, none, none, none] =
      some ((List.range (S.length + 1 - N)).map nD, [some (.val (.int (n : Int))), some (.val (.tuple (S.map stepD))), some (.val (.int (N : Int))), none, none, none, none, none, none, none]) := by
    simp [dLoc, dCon, dNil, dCons, dOp, dTup, dLst, looks, look, frz, dCall, dCallV, dCallK, reord, sSeq2, sSkip, sExp, sRet, sRetN, sIf, sAsg, sAsgT, bVal, bTru, bNot, bAnd, bOr, bYes, dAnd, dOr, dNot, dIf, tName, gsNil, gsCons, gTupD, Dn.tSub, Dn.valOf, asB, ownAt, asI, isPin, sl, dCut, iOf, iNo, fin, endV, runP, runF, runV, runW, startR, startV, dEmp, dChain, res, truR, Dn.tru, itemsOf, sNone, sSeq, sRg1, sRg2, sZip, sEnum, sFor, dApp, dPop, sBrk, sCnt, isNone, atI0, atI1, atI2, ixN3_0, ixN3_1, ixN3_2, ixN2_0, ixN2_1, noPins, e_add, e_addT, e_addL, e_sub, e_mul, e_mulL, e_mulT, e_div, e_mod, e_neg, e_eqI, e_neI, e_eqB, e_eqT, e_eqL, e_neT, e_neL, e_cmp, e_is, e_isnot, e_ixL, e_ixT, e_lenL, e_lenT, e_tupL, e_tupT, e_lstL, e_lstT, e_int, e_intB, e_abs, e_sum, e_divmod, e_gcd, e_max, e_min, e_isi, e_cutL, e_cutT, a1, a2]
  unfold F__law_is_due d__law_is_due
  cases hA : dueA n S N with
  | false =>
    obtain ⟨ρ', e⟩ := A1 hA
    exact run_rt rfl (by rw [st]; exact seq_rt (for_of sA e))
  | true =>
    obtain ⟨x3, x6, e, n3, n6⟩ := A2 hA
    have e2 := law_new (n := n) (a := some (.val (.tuple (S.map stepD)))) (b := some (.val (.int (N : Int)))) (x3 := x3) (x6 := x6) hn 0
    obtain ⟨T1, T2⟩ := law_loopT (n := n) (N := N) (S := S) (x3 := x3) (x6 := x6) hn (by omega) hS n3 n6
    have sT : sRg2 (dCon (.int 1)) (dOp pAdd (dCons (dOp pLen (dCons (dLoc 1) dNil)) (dCons (dCon (.int 1)) dNil))) [some (.val (.int (n : Int))), some (.val (.tuple (S.map stepD))), some (.val (.int (N : Int))), x3, some (.val (cameD (List.replicate n [0, 0]))), none, x6, none, none, none] =
        some ((List.range S.length).map fun i => nD (1 + i), [some (.val (.int (n : Int))), some (.val (.tuple (S.map stepD))), some (.val (.int (N : Int))), x3, some (.val (cameD (List.replicate n [0, 0]))), none, x6, none, none, none]) := by
      simp [dLoc, dCon, dNil, dCons, dOp, dTup, dLst, looks, look, frz, dCall, dCallV, dCallK, reord, sSeq2, sSkip, sExp, sRet, sRetN, sIf, sAsg, sAsgT, bVal, bTru, bNot, bAnd, bOr, bYes, dAnd, dOr, dNot, dIf, tName, gsNil, gsCons, gTupD, Dn.tSub, Dn.valOf, asB, ownAt, asI, isPin, sl, dCut, iOf, iNo, fin, endV, runP, runF, runV, runW, startR, startV, dEmp, dChain, res, truR, Dn.tru, itemsOf, sNone, sSeq, sRg1, sRg2, sZip, sEnum, sFor, dApp, dPop, sBrk, sCnt, isNone, atI0, atI1, atI2, ixN3_0, ixN3_1, ixN3_2, ixN2_0, ixN2_1, noPins, e_add, e_addT, e_addL, e_sub, e_mul, e_mulL, e_mulT, e_div, e_mod, e_neg, e_eqI, e_neI, e_eqB, e_eqT, e_eqL, e_neT, e_neL, e_cmp, e_is, e_isnot, e_ixL, e_ixT, e_lenL, e_lenT, e_tupL, e_tupT, e_lstL, e_lstT, e_int, e_intB, e_abs, e_sum, e_divmod, e_gcd, e_max, e_min, e_isi, e_cutL, e_cutT, t1, t2]
    cases hT : dueT n S N with
    | false =>
      obtain ⟨ρ', e3⟩ := T1 hT
      refine run_rt rfl (ρ := ρ') ?_
      rw [st]
      refine (seq_nx (for_of sA e)).trans ?_
      refine (seq_nx e2).trans ?_
      exact seq_rt (for_of sT e3)
    | true =>
      obtain ⟨ρ', e3⟩ := T2 hT
      refine run_rt rfl (ρ := ρ') ?_
      rw [st]
      refine (seq_nx (for_of sA e)).trans ?_
      refine (seq_nx e2).trans ?_
      refine (seq_nx (for_of sT e3)).trans ?_
      rfl

/-! ### the program's words -/
theorem zip_any {N k : Nat} : ∀ {came : List (List Nat)} {ps : List Nat}, came.length = ps.length → (came.zip ps).any (fun x => badJ N k x.1 x.2) = badS N k came ps := by
  intro came ps h
  unfold badS
  apply Bool.eq_iff_iff.mpr
  rw [List.any_eq_true, List.any_eq_true]
  constructor
  · rintro ⟨x, hx, hb⟩
    obtain ⟨j, hj⟩ := List.mem_iff_getElem?.mp hx
    rw [List.getElem?_zip_eq_some] at hj
    have h1 := (List.getElem?_eq_some_iff.mp hj.2).1
    refine ⟨j, List.mem_range.mpr h1, ?_⟩
    rw [List.getD_eq_getElem?_getD, List.getD_eq_getElem?_getD, hj.1, hj.2]
    exact hb
  · rintro ⟨j, hj, hb⟩
    have hj := List.mem_range.mp hj
    refine ⟨(came.getD j [], ps.getD j 0), List.mem_iff_getElem?.mpr ⟨j, ?_⟩, hb⟩
    rw [List.getElem?_zip_eq_some, List.getD_eq_getElem?_getD, List.getD_eq_getElem?_getD, List.getElem?_eq_getElem (by omega), List.getElem?_eq_getElem hj]
    exact ⟨rfl, rfl⟩
theorem zipD_map {α β : Type} {f : α → D} {g : β → D} : ∀ {as : List α} {bs : List β}, zipD (as.map f) (bs.map g) = (as.zip bs).map fun x => .tuple [f x.1, g x.2]
  | [], _ => by simp [zipD]
  | _ :: _, [] => by simp [zipD]
  | a :: as, b :: bs => by simp [zipD, zipD_map (as := as) (bs := bs)]
abbrev bodyZ : TSD := (sSeq2 (sIf (bAnd (bVal (dOp pLt (dCons (dOp pAdd (dCons (dLoc 8) (dCons (dCon (.int 1)) dNil))) (dCons (dOp pLen (dCons (dLoc 7) dNil)) dNil)))) (bVal (dOp pLe (dCons (dOp pIx (dCons (dLoc 7) (dCons (dOp pAdd (dCons (dLoc 8) (dCons (dCon (.int 1)) dNil))) dNil))) (dCons (dOp pSub (dCons (dOp pAdd (dCons (dLoc 4) (dCons (dCon (.int 1)) dNil))) (dCons (dLoc 2) dNil))) dNil))))) (sSeq2 (sRet (dCon (.bool false)))
  sSkip) sSkip)
  sSkip)
theorem loopZ {n N k : Nat} {came : List (List Nat)} {ps : List Nat} {a x5 x6 x7 x8 : Option Slot} (hc : came.length = ps.length) (n7 : nfS x7 = true) (n8 : nfS x8 = true) :
    (badS N (k + 1) came ps = true → ∃ ρ', loopF (gTupD 2 (gsCons (tName 7) (gsCons (tName 8) gsNil))) bodyZ ((came.zip ps).map fun x => .tuple [lD x.1, nD x.2]) [some (.val (.int (n : Int))), a, some (.val (.int (N : Int))), some (.val (cameD came)), some (.val (.int (k : Int))), x5, x6, x7, x8] = some (.rt (.v (.bool false)) ρ')) ∧
    (badS N (k + 1) came ps = false → ∃ x7' x8', loopF (gTupD 2 (gsCons (tName 7) (gsCons (tName 8) gsNil))) bodyZ ((came.zip ps).map fun x => .tuple [lD x.1, nD x.2]) [some (.val (.int (n : Int))), a, some (.val (.int (N : Int))), some (.val (cameD came)), some (.val (.int (k : Int))), x5, x6, x7, x8] =
      some (.nx [some (.val (.int (n : Int))), a, some (.val (.int (N : Int))), some (.val (cameD came)), some (.val (.int (k : Int))), x5, x6, x7', x8']) ∧ nfS x7' = true ∧ nfS x8' = true) := by
  obtain ⟨q1, q2⟩ := loopF_any (tgt := gTupD 2 (gsCons (tName 7) (gsCons (tName 8) gsNil))) (body := bodyZ) (f := fun x : List Nat × Nat => PyData.tuple [lD x.1, nD x.2]) (bad := fun x => badJ N (k + 1) x.1 x.2) (r := .v (.bool false))
    (P := fun ρ => ∃ x7' x8', ρ = [some (.val (.int (n : Int))), a, some (.val (.int (N : Int))), some (.val (cameD came)), some (.val (.int (k : Int))), x5, x6, x7', x8'] ∧ nfS x7' = true ∧ nfS x8' = true)
    (xs := came.zip ps) (ρ := [some (.val (.int (n : Int))), a, some (.val (.int (N : Int))), some (.val (cameD came)), some (.val (.int (k : Int))), x5, x6, x7, x8]) (fun x hx ρ h => by
      obtain ⟨y, z, rfl, ny, nz⟩ := h
      obtain ⟨c, p⟩ := x
      have ip := nf_isPin ny
      have iz := nf_isPin nz
      unfold isPin at ip iz
      refine ⟨[some (.val (.int (n : Int))), a, some (.val (.int (N : Int))), some (.val (cameD came)), some (.val (.int (k : Int))), x5, x6, some (.val (lD c)), some (.val (nD p))], by simp [dLoc, dCon, dNil, dCons, dOp, dTup, dLst, looks, look, frz, dCall, dCallV, dCallK, reord, sSeq2, sSkip, sExp, sRet, sRetN, sIf, sAsg, sAsgT, bVal, bTru, bNot, bAnd, bOr, bYes, dAnd, dOr, dNot, dIf, tName, gsNil, gsCons, gTupD, Dn.tSub, Dn.valOf, asB, ownAt, asI, isPin, sl, dCut, iOf, iNo, fin, endV, runP, runF, runV, runW, startR, startV, dEmp, dChain, res, truR, Dn.tru, itemsOf, sNone, sSeq, sRg1, sRg2, sZip, sEnum, sFor, dApp, dPop, sBrk, sCnt, isNone, atI0, atI1, atI2, ixN3_0, ixN3_1, ixN3_2, ixN2_0, ixN2_1, noPins, e_add, e_addT, e_addL, e_sub, e_mul, e_mulL, e_mulT, e_div, e_mod, e_neg, e_eqI, e_neI, e_eqB, e_eqT, e_eqL, e_neT, e_neL, e_cmp, e_is, e_isnot, e_ixL, e_ixT, e_lenL, e_lenT, e_tupL, e_tupT, e_lstL, e_lstT, e_int, e_intB, e_abs, e_sum, e_divmod, e_gcd, e_max, e_min, e_isi, e_cutL, e_cutT, ip, iz], fun hb => ?_, fun hb => ?_⟩
      · simp only [badJ, Bool.and_eq_true, decide_eq_true_eq] at hb
        have e3 := ix_n (l := c) (i := (p : Int) + 1) (p := p + 1) (by omega) hb.1
        have h1 : ((p : Int) + 1 < (c.length : Int)) := by omega
        have h2 : (((c.getD (p + 1) 0 : Nat) : Int) ≤ (k : Int) + 1 - N) := by have := hb.2; push_cast at this; exact this
        generalize c.getD (p + 1) 0 = v at e3 h2
        refine ⟨[some (.val (.int (n : Int))), a, some (.val (.int (N : Int))), some (.val (cameD came)), some (.val (.int (k : Int))), x5, x6, some (.val (lD c)), some (.val (nD p))], ?_⟩
        simp [dLoc, dCon, dNil, dCons, dOp, dTup, dLst, looks, look, frz, dCall, dCallV, dCallK, reord, sSeq2, sSkip, sExp, sRet, sRetN, sIf, sAsg, sAsgT, bVal, bTru, bNot, bAnd, bOr, bYes, dAnd, dOr, dNot, dIf, tName, gsNil, gsCons, gTupD, Dn.tSub, Dn.valOf, asB, ownAt, asI, isPin, sl, dCut, iOf, iNo, fin, endV, runP, runF, runV, runW, startR, startV, dEmp, dChain, res, truR, Dn.tru, itemsOf, sNone, sSeq, sRg1, sRg2, sZip, sEnum, sFor, dApp, dPop, sBrk, sCnt, isNone, atI0, atI1, atI2, ixN3_0, ixN3_1, ixN3_2, ixN2_0, ixN2_1, noPins, e_add, e_addT, e_addL, e_sub, e_mul, e_mulL, e_mulT, e_div, e_mod, e_neg, e_eqI, e_neI, e_eqB, e_eqT, e_eqL, e_neT, e_neL, e_cmp, e_is, e_isnot, e_ixL, e_ixT, e_lenL, e_lenT, e_tupL, e_tupT, e_lstL, e_lstT, e_int, e_intB, e_abs, e_sum, e_divmod, e_gcd, e_max, e_min, e_isi, e_cutL, e_cutT, lD, e3, h1, h2]
      · refine ⟨[some (.val (.int (n : Int))), a, some (.val (.int (N : Int))), some (.val (cameD came)), some (.val (.int (k : Int))), x5, x6, some (.val (lD c)), some (.val (nD p))], ?_, _, _, rfl, rfl, rfl⟩
        by_cases h0 : p + 1 < c.length
        · have e3 := ix_n (l := c) (i := (p : Int) + 1) (p := p + 1) (by omega) h0
          have h1 : ((p : Int) + 1 < (c.length : Int)) := by omega
          have h2 : ¬ (((c.getD (p + 1) 0 : Nat) : Int) ≤ (k : Int) + 1 - N) := fun z => by
            unfold badJ at hb
            have z : (((c.getD (p + 1) 0 : Nat) : Int) ≤ ((k + 1 : Nat) : Int) - N) := by push_cast; exact z
            simp only at hb
            rw [decide_eq_true h0, decide_eq_true z] at hb
            cases hb
          generalize c.getD (p + 1) 0 = v at e3 h2
          simp [dLoc, dCon, dNil, dCons, dOp, dTup, dLst, looks, look, frz, dCall, dCallV, dCallK, reord, sSeq2, sSkip, sExp, sRet, sRetN, sIf, sAsg, sAsgT, bVal, bTru, bNot, bAnd, bOr, bYes, dAnd, dOr, dNot, dIf, tName, gsNil, gsCons, gTupD, Dn.tSub, Dn.valOf, asB, ownAt, asI, isPin, sl, dCut, iOf, iNo, fin, endV, runP, runF, runV, runW, startR, startV, dEmp, dChain, res, truR, Dn.tru, itemsOf, sNone, sSeq, sRg1, sRg2, sZip, sEnum, sFor, dApp, dPop, sBrk, sCnt, isNone, atI0, atI1, atI2, ixN3_0, ixN3_1, ixN3_2, ixN2_0, ixN2_1, noPins, e_add, e_addT, e_addL, e_sub, e_mul, e_mulL, e_mulT, e_div, e_mod, e_neg, e_eqI, e_neI, e_eqB, e_eqT, e_eqL, e_neT, e_neL, e_cmp, e_is, e_isnot, e_ixL, e_ixT, e_lenL, e_lenT, e_tupL, e_tupT, e_lstL, e_lstT, e_int, e_intB, e_abs, e_sum, e_divmod, e_gcd, e_max, e_min, e_isi, e_cutL, e_cutT, lD, e3, h1, h2]
        · have h1 : ¬ ((p : Int) + 1 < (c.length : Int)) := by omega
          simp [dLoc, dCon, dNil, dCons, dOp, dTup, dLst, looks, look, frz, dCall, dCallV, dCallK, reord, sSeq2, sSkip, sExp, sRet, sRetN, sIf, sAsg, sAsgT, bVal, bTru, bNot, bAnd, bOr, bYes, dAnd, dOr, dNot, dIf, tName, gsNil, gsCons, gTupD, Dn.tSub, Dn.valOf, asB, ownAt, asI, isPin, sl, dCut, iOf, iNo, fin, endV, runP, runF, runV, runW, startR, startV, dEmp, dChain, res, truR, Dn.tru, itemsOf, sNone, sSeq, sRg1, sRg2, sZip, sEnum, sFor, dApp, dPop, sBrk, sCnt, isNone, atI0, atI1, atI2, ixN3_0, ixN3_1, ixN3_2, ixN2_0, ixN2_1, noPins, e_add, e_addT, e_addL, e_sub, e_mul, e_mulL, e_mulT, e_div, e_mod, e_neg, e_eqI, e_neI, e_eqB, e_eqT, e_eqL, e_neT, e_neL, e_cmp, e_is, e_isnot, e_ixL, e_ixT, e_lenL, e_lenT, e_tupL, e_tupT, e_lstL, e_lstT, e_int, e_intB, e_abs, e_sum, e_divmod, e_gcd, e_max, e_min, e_isi, e_cutL, e_cutT, lD, h1]) ⟨x7, x8, rfl, n7, n8⟩
  rw [zip_any hc] at q1 q2
  refine ⟨q1, fun h => ?_⟩
  obtain ⟨ρ', e, y, z, rfl, ny, nz⟩ := q2 h
  exact ⟨y, z, e, ny, nz⟩
end K48

set_option Elab.async false
set_option linter.all false
set_option maxRecDepth 100000
set_option maxHeartbeats 4000000
namespace K48
open PySem PySem.Spec PyProof.Rows L2 Dn Pl

theorem enum_prs : ∀ (k : Nat) (S : List Sp), enumD k (S.map stepD) = (prs (k + 1) S).map fun x => .tuple [nD (x.1 - 1), stepD x.2]
  | _, [] => rfl
  | k, s :: S => by
    simp only [List.map_cons, enumD, prs, enum_prs (k + 1) S]
    rfl
abbrev bodyP : TSD := (sSeq2 (sFor (sZipM (dLoc 3) (dOp pIx (dCons (dLoc 5) (dCons (dCon (.int 1)) dNil)))) (gTupD 2 (gsCons (tName 7) (gsCons (tName 8) gsNil))) bodyZ)
  (sSeq2 (sApp2 3 (dOp pIx (dCons (dLoc 5) (dCons (dCon (.int 0)) dNil))) (dOp pAdd (dCons (dLoc 4) (dCons (dCon (.int 1)) dNil))))
  sSkip))
theorem prog_loopT {n N : Nat} {S : List Sp} (hn : n ≤ 1000) (hl : S.length ≤ 1000) (hS : Good n S) :
    (dueT n S N = false → ∃ ρ', loopF (gTupD 2 (gsCons (tName 4) (gsCons (tName 5) gsNil))) bodyP (enumD 0 (S.map stepD)) [some (.val (.int (n : Int))), some (.val (.tuple (S.map stepD))), some (.val (.int (N : Int))), some (.val (cameD (List.replicate n [0, 0]))), none, none, none, none, none] = some (.rt (.v (.bool false)) ρ')) ∧
    (dueT n S N = true → ∃ ρ', loopF (gTupD 2 (gsCons (tName 4) (gsCons (tName 5) gsNil))) bodyP (enumD 0 (S.map stepD)) [some (.val (.int (n : Int))), some (.val (.tuple (S.map stepD))), some (.val (.int (N : Int))), some (.val (cameD (List.replicate n [0, 0]))), none, none, none, none, none] = some (.nx ρ')) := by
  obtain ⟨q1, q2⟩ := loopF_run (tgt := gTupD 2 (gsCons (tName 4) (gsCons (tName 5) gsNil))) (body := bodyP) (f := fun x : Nat × Sp => PyData.tuple [nD (x.1 - 1), stepD x.2]) (nxt := nxtT N) (r := .v (.bool false)) (k := 0)
    (P := fun i came ρ => came.length = n ∧ (∀ c ∈ came, c.length ≤ i + 2) ∧ ∃ x4 x5 x7 x8, ρ = [some (.val (.int (n : Int))), some (.val (.tuple (S.map stepD))), some (.val (.int (N : Int))), some (.val (cameD came)), x4, x5, none, x7, x8] ∧ nfS x4 = true ∧ nfS x5 = true ∧ nfS x7 = true ∧ nfS x8 = true)
    (xs := prs 1 S) (s := List.replicate n [0, 0]) (ρ := [some (.val (.int (n : Int))), some (.val (.tuple (S.map stepD))), some (.val (.int (N : Int))), some (.val (cameD (List.replicate n [0, 0]))), none, none, none, none, none]) (fun i x hx came ρ h => by
      obtain ⟨hcl, hcb, x4, x5, x7, x8, rfl, n4, n5, n7, n8⟩ := h
      obtain ⟨k, s1, ps⟩ := x
      obtain ⟨hk, hs⟩ := prs_get hx
      simp only at hk hs
      have hm : (s1, ps) ∈ S := List.mem_of_getElem? hs
      have hu : s1 < n := hS.un _ hm
      have hpl : ps.length = n := hS.pk _ hm
      have hil : i < S.length := (List.getElem?_eq_some_iff.mp hs).1
      have ip4 := nf_isPin n4
      have ip5 := nf_isPin n5
      unfold isPin at ip4 ip5
      have hki : k - 1 = i := by omega
      have hki2 : i + 1 = k := by omega
      obtain ⟨j1, j2⟩ := loopZ (n := n) (N := N) (k := i) (came := came) (ps := ps) (a := some (.val (.tuple (S.map stepD)))) (x5 := some (.val (stepD (s1, ps)))) (x6 := none) (hcl.trans hpl.symm) n7 n8
      rw [hki2] at j1 j2
      have src : sZipM (dLoc 3) (dOp pIx (dCons (dLoc 5) (dCons (dCon (.int 1)) dNil))) [some (.val (.int (n : Int))), some (.val (.tuple (S.map stepD))), some (.val (.int (N : Int))), some (.val (cameD came)), some (.val (.int (i : Int))), some (.val (stepD (s1, ps))), none, x7, x8] =
          some ((came.zip ps).map fun x => .tuple [lD x.1, nD x.2], [some (.val (.int (n : Int))), some (.val (.tuple (S.map stepD))), some (.val (.int (N : Int))), some (.val (cameD came)), some (.val (.int (i : Int))), some (.val (stepD (s1, ps))), none, x7, x8]) := by
        simp [sZipM, dLoc, dCon, dNil, dCons, dOp, dTup, dLst, looks, look, frz, dCall, dCallV, dCallK, reord, sSeq2, sSkip, sExp, sRet, sRetN, sIf, sAsg, sAsgT, bVal, bTru, bNot, bAnd, bOr, bYes, dAnd, dOr, dNot, dIf, tName, gsNil, gsCons, gTupD, Dn.tSub, Dn.valOf, asB, ownAt, asI, isPin, sl, dCut, iOf, iNo, fin, endV, runP, runF, runV, runW, startR, startV, dEmp, dChain, res, truR, Dn.tru, itemsOf, sNone, sSeq, sRg1, sRg2, sZip, sEnum, sFor, dApp, dPop, sBrk, sCnt, isNone, atI0, atI1, atI2, ixN3_0, ixN3_1, ixN3_2, ixN2_0, ixN2_1, noPins, e_add, e_addT, e_addL, e_sub, e_mul, e_mulL, e_mulT, e_div, e_mod, e_neg, e_eqI, e_neI, e_eqB, e_eqT, e_eqL, e_neT, e_neL, e_cmp, e_is, e_isnot, e_ixL, e_ixT, e_lenL, e_lenT, e_tupL, e_tupT, e_lstL, e_lstT, e_int, e_intB, e_abs, e_sum, e_divmod, e_gcd, e_max, e_min, e_isi, e_cutL, e_cutT, stepD, cameD, zipD_map]
      refine ⟨[some (.val (.int (n : Int))), some (.val (.tuple (S.map stepD))), some (.val (.int (N : Int))), some (.val (cameD came)), some (.val (.int (i : Int))), some (.val (stepD (s1, ps))), none, x7, x8], by simp [dLoc, dCon, dNil, dCons, dOp, dTup, dLst, looks, look, frz, dCall, dCallV, dCallK, reord, sSeq2, sSkip, sExp, sRet, sRetN, sIf, sAsg, sAsgT, bVal, bTru, bNot, bAnd, bOr, bYes, dAnd, dOr, dNot, dIf, tName, gsNil, gsCons, gTupD, Dn.tSub, Dn.valOf, asB, ownAt, asI, isPin, sl, dCut, iOf, iNo, fin, endV, runP, runF, runV, runW, startR, startV, dEmp, dChain, res, truR, Dn.tru, itemsOf, sNone, sSeq, sRg1, sRg2, sZip, sEnum, sFor, dApp, dPop, sBrk, sCnt, isNone, atI0, atI1, atI2, ixN3_0, ixN3_1, ixN3_2, ixN2_0, ixN2_1, noPins, e_add, e_addT, e_addL, e_sub, e_mul, e_mulL, e_mulT, e_div, e_mod, e_neg, e_eqI, e_neI, e_eqB, e_eqT, e_eqL, e_neT, e_neL, e_cmp, e_is, e_isnot, e_ixL, e_ixT, e_lenL, e_lenT, e_tupL, e_tupT, e_lstL, e_lstT, e_int, e_intB, e_abs, e_sum, e_divmod, e_gcd, e_max, e_min, e_isi, e_cutL, e_cutT, ip4, ip5, hki], fun hb => ?_, fun s' hb => ?_⟩
      · have hb : badS N k came ps = true := by
          unfold nxtT at hb
          split at hb
          · assumption
          · cases hb
        obtain ⟨ρ', e⟩ := j1 hb
        exact ⟨ρ', seq_rt (for_of src e)⟩
      · have hb2 : badS N k came ps = false ∧ s' = came.set s1 (came.getD s1 [] ++ [k]) := by
          unfold nxtT at hb
          split at hb
          · cases hb
          · rename_i h; cases hb; exact ⟨by simpa using h, rfl⟩
        obtain ⟨hb1, rfl⟩ := hb2
        obtain ⟨y7, y8, e, ny, nz⟩ := j2 hb1
        have hcs : s1 < came.length := by omega
        have hg : came.getD s1 [] ∈ came := by rw [List.getD_eq_getElem?_getD, List.getElem?_eq_getElem hcs]; exact List.getElem_mem _
        have hlen := hcb _ hg
        have g1 : ixN (came.map lD).length (s1 : Int) = some s1 := by unfold ixN; rw [if_pos (by omega), if_pos (by rw [List.length_map]; omega)]; rfl
        have g2 : (came.map lD)[s1]? = some (.list ((came.getD s1 []).map nD)) := by rw [List.getElem?_map, List.getElem?_eq_getElem hcs, List.getD_eq_getElem?_getD, List.getElem?_eq_getElem hcs]; rfl
        have g3 := flatL_came came
        have g4 : ((came.getD s1 []).map nD).length < 1000000 := by rw [List.length_map]; omega
        refine ⟨[some (.val (.int (n : Int))), some (.val (.tuple (S.map stepD))), some (.val (.int (N : Int))), some (.val (cameD (came.set s1 (came.getD s1 [] ++ [k])))), some (.val (.int (i : Int))), some (.val (stepD (s1, ps))), none, thin y7, thin y8], ?_, ?_, ?_, some (.val (.int (i : Int))), some (.val (stepD (s1, ps))), thin y7, thin y8, rfl, rfl, rfl, nf_thin ny, nf_thin nz⟩
        rotate_left
        · rw [List.length_set]; exact hcl
        · intro c hc
          rcases List.mem_or_eq_of_mem_set hc with hc | hc
          · have := hcb c hc; omega
          · subst hc; rw [List.length_append, List.length_singleton]; omega
        · refine (seq_nx (for_of src e)).trans ?_
          generalize came.getD s1 [] = c at g2 g4 ⊢
          rw [show cameD (came.set s1 (c ++ [k])) = .list ((came.map lD).set s1 (.list (c.map nD ++ [nD k]))) by unfold cameD; congr 1; rw [List.map_set]; congr 1; simp [lD]]
          generalize hL : came.map lD = L at g1 g2 g3
          have hcm : cameD came = .list L := by unfold cameD; rw [hL]
          rw [hcm]
          have f1 := flats_steps S
          have f2 := flats_n ps
          have hk2 : ((i : Int) + 1) = (k : Int) := by omega
          simp [dLoc, dCon, dNil, dCons, dOp, dTup, dLst, looks, look, frz, dCall, dCallV, dCallK, reord, sSeq2, sSkip, sExp, sRet, sRetN, sIf, sAsg, sAsgT, bVal, bTru, bNot, bAnd, bOr, bYes, dAnd, dOr, dNot, dIf, tName, gsNil, gsCons, gTupD, Dn.tSub, Dn.valOf, asB, ownAt, asI, isPin, sl, dCut, iOf, iNo, fin, endV, runP, runF, runV, runW, startR, startV, dEmp, dChain, res, truR, Dn.tru, itemsOf, sNone, sSeq, sRg1, sRg2, sZip, sEnum, sFor, dApp, dPop, sBrk, sCnt, isNone, atI0, atI1, atI2, ixN3_0, ixN3_1, ixN3_2, ixN2_0, ixN2_1, noPins, e_add, e_addT, e_addL, e_sub, e_mul, e_mulL, e_mulT, e_div, e_mod, e_neg, e_eqI, e_neI, e_eqB, e_eqT, e_eqL, e_neT, e_neL, e_cmp, e_is, e_isnot, e_ixL, e_ixT, e_lenL, e_lenT, e_tupL, e_tupT, e_lstL, e_lstT, e_int, e_intB, e_abs, e_sum, e_divmod, e_gcd, e_max, e_min, e_isi, e_cutL, e_cutT, stepD, sApp2, g1, g2, g3, g4, pinsFlat_cons, pinsFlat_nil, pinS_val, pinS_none, nf_pinS ny, nf_pinS nz, flat_int, thin_int, thin_tup, thin_none, f1, f2, hk2, flats, flat, -List.all_eq_true, -List.length_map]) ⟨by simp, fun c hc => by rw [List.eq_of_mem_replicate hc]; simp, none, none, none, none, rfl, rfl, rfl, rfl, rfl⟩
  rw [← enum_prs 0 S] at q1 q2
  unfold dueT
  refine ⟨fun h => q1 (by simpa using h), fun h => ?_⟩
  obtain ⟨s', hs'⟩ := Option.isSome_iff_exists.mp h
  obtain ⟨ρ', e, _⟩ := q2 s' hs'
  exact ⟨ρ', e⟩
theorem prog_new {n : Nat} {a b : Option Slot} (hn : n ≤ 1000) :
    sNew [6] (sRg1 (dLoc 0)) (tName 6) (dLst (dCons (dCon (.int 0)) (dCons (dCon (.int 0)) dNil))) 3 [some (.val (.int (n : Int))), a, b, none, none, none, none, none, none] =
    some (.nx [some (.val (.int (n : Int))), a, b, some (.val (cameD (List.replicate n [0, 0]))), none, none, none, none, none]) := by
  have e := loopN_ev (vs := [6]) (tgt := tName 6) (elt := dLst (dCons (dCon (.int 0)) (dCons (dCon (.int 0)) dNil))) (ρ := [some (.val (.int (n : Int))), a, b, none, none, none, none, none, none]) (xs := [.int 0, .int 0]) rfl
    (ds := (List.range n).map nD) (acc := []) (fun d hd => ⟨[some (.val (.int (n : Int))), a, b, none, none, none, some (.val d), none, none], [some (.val (.int (n : Int))), a, b, none, none, none, some (.val d), none, none], by simp [dLoc, dCon, dNil, dCons, dOp, dTup, dLst, looks, look, frz, dCall, dCallV, dCallK, reord, sSeq2, sSkip, sExp, sRet, sRetN, sIf, sAsg, sAsgT, bVal, bTru, bNot, bAnd, bOr, bYes, dAnd, dOr, dNot, dIf, tName, gsNil, gsCons, gTupD, Dn.tSub, Dn.valOf, asB, ownAt, asI, isPin, sl, dCut, iOf, iNo, fin, endV, runP, runF, runV, runW, startR, startV, dEmp, dChain, res, truR, Dn.tru, itemsOf, sNone, sSeq, sRg1, sRg2, sZip, sEnum, sFor, dApp, dPop, sBrk, sCnt, isNone, atI0, atI1, atI2, ixN3_0, ixN3_1, ixN3_2, ixN2_0, ixN2_1, noPins, e_add, e_addT, e_addL, e_sub, e_mul, e_mulL, e_mulT, e_div, e_mod, e_neg, e_eqI, e_neI, e_eqB, e_eqT, e_eqL, e_neT, e_neL, e_cmp, e_is, e_isnot, e_ixL, e_ixT, e_lenL, e_lenT, e_tupL, e_tupT, e_lstL, e_lstT, e_int, e_intB, e_abs, e_sum, e_divmod, e_gcd, e_max, e_min, e_isi, e_cutL, e_cutT], by simp [dLoc, dCon, dNil, dCons, dOp, dTup, dLst, looks, look, frz, dCall, dCallV, dCallK, reord, sSeq2, sSkip, sExp, sRet, sRetN, sIf, sAsg, sAsgT, bVal, bTru, bNot, bAnd, bOr, bYes, dAnd, dOr, dNot, dIf, tName, gsNil, gsCons, gTupD, Dn.tSub, Dn.valOf, asB, ownAt, asI, isPin, sl, dCut, iOf, iNo, fin, endV, runP, runF, runV, runW, startR, startV, dEmp, dChain, res, truR, Dn.tru, itemsOf, sNone, sSeq, sRg1, sRg2, sZip, sEnum, sFor, dApp, dPop, sBrk, sCnt, isNone, atI0, atI1, atI2, ixN3_0, ixN3_1, ixN3_2, ixN2_0, ixN2_1, noPins, e_add, e_addT, e_addL, e_sub, e_mul, e_mulL, e_mulT, e_div, e_mod, e_neg, e_eqI, e_neI, e_eqB, e_eqT, e_eqL, e_neT, e_neL, e_cmp, e_is, e_isnot, e_ixL, e_ixT, e_lenL, e_lenT, e_tupL, e_tupT, e_lstL, e_lstT, e_int, e_intB, e_abs, e_sum, e_divmod, e_gcd, e_max, e_min, e_isi, e_cutL, e_cutT], by simp [wipeR]⟩) (by simp; omega)
  have h0 : sRg1 (dLoc 0) [some (.val (.int (n : Int))), a, b, none, none, none, none, none, none] = some ((List.range n).map nD, [some (.val (.int (n : Int))), a, b, none, none, none, none, none, none]) := by
    simp [dLoc, dCon, dNil, dCons, dOp, dTup, dLst, looks, look, frz, dCall, dCallV, dCallK, reord, sSeq2, sSkip, sExp, sRet, sRetN, sIf, sAsg, sAsgT, bVal, bTru, bNot, bAnd, bOr, bYes, dAnd, dOr, dNot, dIf, tName, gsNil, gsCons, gTupD, Dn.tSub, Dn.valOf, asB, ownAt, asI, isPin, sl, dCut, iOf, iNo, fin, endV, runP, runF, runV, runW, startR, startV, dEmp, dChain, res, truR, Dn.tru, itemsOf, sNone, sSeq, sRg1, sRg2, sZip, sEnum, sFor, dApp, dPop, sBrk, sCnt, isNone, atI0, atI1, atI2, ixN3_0, ixN3_1, ixN3_2, ixN2_0, ixN2_1, noPins, e_add, e_addT, e_addL, e_sub, e_mul, e_mulL, e_mulT, e_div, e_mod, e_neg, e_eqI, e_neI, e_eqB, e_eqT, e_eqL, e_neT, e_neL, e_cmp, e_is, e_isnot, e_ixL, e_ixT, e_lenL, e_lenT, e_tupL, e_tupT, e_lstL, e_lstT, e_int, e_intB, e_abs, e_sum, e_divmod, e_gcd, e_max, e_min, e_isi, e_cutL, e_cutT, rg_ok hn]; exact rg_map n
  unfold sNew
  rw [h0]
  simp only [noPins, wipeR, List.all_cons, List.all_nil, isPin, List.getElem?_cons_succ, List.getElem?_cons_zero, List.set_cons_succ, List.set_cons_zero, Bool.not_false, Bool.and_self, if_true, e]
  simp [cameD, came0, Function.comp_def, lD, nD]
  exact List.eq_replicate_iff.mpr ⟨by simp, fun b hb => by obtain ⟨_, _, h⟩ := List.mem_map.mp hb; exact h.symm⟩
theorem in_time_spec {n N : Nat} {S : List Sp} (hn : n ≤ 1000) (hl : S.length ≤ 999) (hS : Good n S) :
    F_are_in_time [.int (n : Int), .tuple (S.map stepD), .int (N : Int)] = some (.v (.bool (dueT n S N))) := by
  obtain ⟨T1, T2⟩ := prog_loopT (n := n) (N := N) (S := S) hn (by omega) hS
  have st : startR 9 [.int (n : Int), .tuple (S.map stepD), .int (N : Int)] = [some (.val (.int (n : Int))), some (.val (.tuple (S.map stepD))), some (.val (.int (N : Int))), none, none, none, none, none, none] := rfl
  have e2 := prog_new (n := n) (a := some (.val (.tuple (S.map stepD)))) (b := some (.val (.int (N : Int)))) hn
  have f1 := flats_steps S
  have sT : sEnumF (dLoc 1) [some (.val (.int (n : Int))), some (.val (.tuple (S.map stepD))), some (.val (.int (N : Int))), some (.val (cameD (List.replicate n [0, 0]))), none, none, none, none, none] =
        some (enumD 0 (S.map stepD), [some (.val (.int (n : Int))), some (.val (.tuple (S.map stepD))), some (.val (.int (N : Int))), some (.val (cameD (List.replicate n [0, 0]))), none, none, none, none, none]) := by
    simp [sEnumF, dLoc, dCon, dNil, dCons, dOp, dTup, dLst, looks, look, frz, dCall, dCallV, dCallK, reord, sSeq2, sSkip, sExp, sRet, sRetN, sIf, sAsg, sAsgT, bVal, bTru, bNot, bAnd, bOr, bYes, dAnd, dOr, dNot, dIf, tName, gsNil, gsCons, gTupD, Dn.tSub, Dn.valOf, asB, ownAt, asI, isPin, sl, dCut, iOf, iNo, fin, endV, runP, runF, runV, runW, startR, startV, dEmp, dChain, res, truR, Dn.tru, itemsOf, sNone, sSeq, sRg1, sRg2, sZip, sEnum, sFor, dApp, dPop, sBrk, sCnt, isNone, atI0, atI1, atI2, ixN3_0, ixN3_1, ixN3_2, ixN2_0, ixN2_1, noPins, e_add, e_addT, e_addL, e_sub, e_mul, e_mulL, e_mulT, e_div, e_mod, e_neg, e_eqI, e_neI, e_eqB, e_eqT, e_eqL, e_neT, e_neL, e_cmp, e_is, e_isnot, e_ixL, e_ixT, e_lenL, e_lenT, e_tupL, e_tupT, e_lstL, e_lstT, e_int, e_intB, e_abs, e_sum, e_divmod, e_gcd, e_max, e_min, e_isi, e_cutL, e_cutT, f1]
  unfold F_are_in_time d_are_in_time
  cases hT : dueT n S N with
  | false =>
    obtain ⟨ρ', e3⟩ := T1 hT
    refine run_rt rfl (ρ := ρ') ?_
    rw [st]
    refine (seq_nx e2).trans ?_
    exact seq_rt (for_of sT e3)
  | true =>
    obtain ⟨ρ', e3⟩ := T2 hT
    refine run_rt rfl (ρ := ρ') ?_
    rw [st]
    refine (seq_nx e2).trans ?_
    refine (seq_nx (for_of sT e3)).trans ?_
    rfl
end K48

set_option Elab.async false
set_option linter.all false
set_option maxRecDepth 100000
set_option maxHeartbeats 4000000
namespace K48
open PySem PySem.Spec PyProof.Rows L2 Dn Pl

theorem cut_win {S : List Sp} {i N : Nat} (h : i + N ≤ S.length) : Dn.cutD (S.map stepD) (some (i : Int)) (some ((i : Int) + (N : Int))) = ((S.drop i).take N).map stepD := by
  unfold Dn.cutD
  rw [show ((i : Int) + (N : Int)) = ((i + N : Nat) : Int) by push_cast; rfl, HT.sIx_nat, HT.sIx_nat, List.length_map, Nat.min_eq_left h, Nat.min_eq_left (by omega), ← List.map_drop, ← List.map_take, Nat.add_sub_cancel_left]
theorem prog_taken {n N i : Nat} {S : List Sp} (hl : S.length ≤ 1000) (hi : i + N ≤ S.length) :
    dComp [4, 5] (sSeq (dCut (dLoc 1) (iOf (dLoc 3)) (iOf (dOp pAdd (dCons (dLoc 3) (dCons (dLoc 2) dNil)))))) (gTupD 2 (gsCons (tName 4) (gsCons (tName 5) gsNil))) bYes (dLoc 4)
      [some (.val (.int (n : Int))), some (.val (.tuple (S.map stepD))), some (.val (.int (N : Int))), some (.val (.int (i : Int))), none, none] =
    some (.o ((tk S i N).map .int), [some (.val (.int (n : Int))), some (.val (.tuple (S.map stepD))), some (.val (.int (N : Int))), some (.val (.int (i : Int))), none, none]) := by
  have c := dComp_map (vs := [4, 5]) (src := sSeq (dCut (dLoc 1) (iOf (dLoc 3)) (iOf (dOp pAdd (dCons (dLoc 3) (dCons (dLoc 2) dNil)))))) (tgt := gTupD 2 (gsCons (tName 4) (gsCons (tName 5) gsNil))) (cond := bYes) (elt := dLoc 4)
    (ρ := [some (.val (.int (n : Int))), some (.val (.tuple (S.map stepD))), some (.val (.int (N : Int))), some (.val (.int (i : Int))), none, none])
    (ρ1 := [some (.val (.int (n : Int))), some (.val (.tuple (S.map stepD))), some (.val (.int (N : Int))), some (.val (.int (i : Int))), none, none])
    (l := (S.drop i).take N) (f := stepD) (g := fun s => some (.int (s.1 : Int)))
    (by simp [dLoc, dCon, dNil, dCons, dOp, dTup, dLst, looks, look, frz, dCall, dCallV, dCallK, reord, sSeq2, sSkip, sExp, sRet, sRetN, sIf, sAsg, sAsgT, bVal, bTru, bNot, bAnd, bOr, bYes, dAnd, dOr, dNot, dIf, tName, gsNil, gsCons, gTupD, Dn.tSub, Dn.valOf, asB, ownAt, asI, isPin, sl, dCut, iOf, iNo, fin, endV, runP, runF, runV, runW, startR, startV, dEmp, dChain, res, truR, Dn.tru, itemsOf, sNone, sSeq, sRg1, sRg2, sZip, sEnum, sFor, dApp, dPop, sBrk, sCnt, isNone, atI0, atI1, atI2, ixN3_0, ixN3_1, ixN3_2, ixN2_0, ixN2_1, noPins, e_add, e_addT, e_addL, e_sub, e_mul, e_mulL, e_mulT, e_div, e_mod, e_neg, e_eqI, e_neI, e_eqB, e_eqT, e_eqL, e_neT, e_neL, e_cmp, e_is, e_isnot, e_ixL, e_ixT, e_lenL, e_lenT, e_tupL, e_tupT, e_lstL, e_lstT, e_int, e_intB, e_abs, e_sum, e_divmod, e_gcd, e_max, e_min, e_isi, e_cutL, e_cutT, cut_win hi]) (by simp [dLoc, dCon, dNil, dCons, dOp, dTup, dLst, looks, look, frz, dCall, dCallV, dCallK, reord, sSeq2, sSkip, sExp, sRet, sRetN, sIf, sAsg, sAsgT, bVal, bTru, bNot, bAnd, bOr, bYes, dAnd, dOr, dNot, dIf, tName, gsNil, gsCons, gTupD, Dn.tSub, Dn.valOf, asB, ownAt, asI, isPin, sl, dCut, iOf, iNo, fin, endV, runP, runF, runV, runW, startR, startV, dEmp, dChain, res, truR, Dn.tru, itemsOf, sNone, sSeq, sRg1, sRg2, sZip, sEnum, sFor, dApp, dPop, sBrk, sCnt, isNone, atI0, atI1, atI2, ixN3_0, ixN3_1, ixN3_2, ixN2_0, ixN2_1, noPins, e_add, e_addT, e_addL, e_sub, e_mul, e_mulL, e_mulT, e_div, e_mod, e_neg, e_eqI, e_neI, e_eqB, e_eqT, e_eqL, e_neT, e_neL, e_cmp, e_is, e_isnot, e_ixL, e_ixT, e_lenL, e_lenT, e_tupL, e_tupT, e_lstL, e_lstT, e_int, e_intB, e_abs, e_sum, e_divmod, e_gcd, e_max, e_min, e_isi, e_cutL, e_cutT]) (by simp; omega) (fun s hs => by simp [stepC, dLoc, dCon, dNil, dCons, dOp, dTup, dLst, looks, look, frz, dCall, dCallV, dCallK, reord, sSeq2, sSkip, sExp, sRet, sRetN, sIf, sAsg, sAsgT, bVal, bTru, bNot, bAnd, bOr, bYes, dAnd, dOr, dNot, dIf, tName, gsNil, gsCons, gTupD, Dn.tSub, Dn.valOf, asB, ownAt, asI, isPin, sl, dCut, iOf, iNo, fin, endV, runP, runF, runV, runW, startR, startV, dEmp, dChain, res, truR, Dn.tru, itemsOf, sNone, sSeq, sRg1, sRg2, sZip, sEnum, sFor, dApp, dPop, sBrk, sCnt, isNone, atI0, atI1, atI2, ixN3_0, ixN3_1, ixN3_2, ixN2_0, ixN2_1, noPins, e_add, e_addT, e_addL, e_sub, e_mul, e_mulL, e_mulT, e_div, e_mod, e_neg, e_eqI, e_neI, e_eqB, e_eqT, e_eqL, e_neT, e_neL, e_cmp, e_is, e_isnot, e_ixL, e_ixT, e_lenL, e_lenT, e_tupL, e_tupT, e_lstL, e_lstT, e_int, e_intB, e_abs, e_sum, e_divmod, e_gcd, e_max, e_min, e_isi, e_cutL, e_cutT, wipeR, stepD])
  rw [c, filterMap_some]
  unfold tk
  rw [List.map_map]
  rfl
theorem tk_range {n i N : Nat} {S : List Sp} (hS : Good n S) : ∀ x ∈ tk S i N, 0 ≤ x ∧ x < n := fun x hx => by
  unfold tk at hx
  obtain ⟨s, hs, rfl⟩ := List.mem_map.mp hx
  have := hS.un s (List.mem_of_mem_drop (List.mem_of_mem_take hs))
  omega
theorem uniq_taken {n i N : Nat} {S : List Sp} (hS : Good n S) : decide (((uniq (tk S i N)).length : Int) < (n : Int)) = !takenAll n S N i := by
  have h := uniq_lt (tk_range (i := i) (N := N) hS)
  cases hT : takenAll n S N i with
  | true =>
    unfold takenAll at hT
    rw [List.all_eq_true] at hT
    refine decide_eq_false fun z => ?_
    obtain ⟨j, hj, hn⟩ := h.mp (by exact_mod_cast z)
    have := hT j (List.mem_range.mpr hj)
    exact hn (by simpa using this)
  | false =>
    unfold takenAll at hT
    rw [List.all_eq_false] at hT
    obtain ⟨j, hj, hn⟩ := hT
    refine decide_eq_true ?_
    have := h.mpr ⟨j, List.mem_range.mp hj, by simpa using hn⟩
    exact_mod_cast this
abbrev bodyU : TSD := (sSeq2 (sIf (bVal (dOp pLt (dCons (dOp pLenSet (dCons (dComp [4, 5] (sSeq (dCut (dLoc 1) (iOf (dLoc 3)) (iOf (dOp pAdd (dCons (dLoc 3) (dCons (dLoc 2) dNil)))))) (gTupD 2 (gsCons (tName 4) (gsCons (tName 5) gsNil))) bYes (dLoc 4)) dNil)) (dCons (dLoc 0) dNil)))) (sSeq2 (sRet (dCon (.bool false)))
  sSkip) sSkip)
  sSkip)
theorem e_lenSet {l : List Int} (h : l.length ≤ 1000) : pLenSet [.list (l.map .int)] = some (.v (.int ((uniq l).length : Nat))) := by
  simp [pLenSet, asInts_of, h]
theorem tk_len {S : List Sp} {i N : Nat} : (tk S i N).length ≤ S.length := by unfold tk; simp; omega
theorem prog_loopA {n N : Nat} {S : List Sp} (hS : Good n S) (hl : S.length ≤ 1000) :
    (dueA n S N = false → ∃ ρ', loopF (tName 3) bodyU ((List.range (S.length + 1 - N)).map nD) [some (.val (.int (n : Int))), some (.val (.tuple (S.map stepD))), some (.val (.int (N : Int))), none, none, none] = some (.rt (.v (.bool false)) ρ')) ∧
    (dueA n S N = true → ∃ ρ', loopF (tName 3) bodyU ((List.range (S.length + 1 - N)).map nD) [some (.val (.int (n : Int))), some (.val (.tuple (S.map stepD))), some (.val (.int (N : Int))), none, none, none] = some (.nx ρ')) := by
  obtain ⟨q1, q2⟩ := loopF_any (tgt := tName 3) (body := bodyU) (f := nD) (bad := fun i => !takenAll n S N i) (r := .v (.bool false))
    (P := fun ρ => ∃ x3, ρ = [some (.val (.int (n : Int))), some (.val (.tuple (S.map stepD))), some (.val (.int (N : Int))), x3, none, none] ∧ nfS x3 = true)
    (xs := List.range (S.length + 1 - N)) (ρ := [some (.val (.int (n : Int))), some (.val (.tuple (S.map stepD))), some (.val (.int (N : Int))), none, none, none]) (fun i hi ρ h => by
      obtain ⟨x3, rfl, n3⟩ := h
      have hi : i < S.length + 1 - N := List.mem_range.mp hi
      have e1 := prog_taken (n := n) (i := i) (N := N) hl (by omega)
      have ip3 := nf_isPin n3
      unfold isPin at ip3
      have u := uniq_taken (i := i) (N := N) hS
      have ls := e_lenSet (l := tk S i N) (by have := tk_len (S := S) (i := i) (N := N); omega)
      refine ⟨[some (.val (.int (n : Int))), some (.val (.tuple (S.map stepD))), some (.val (.int (N : Int))), some (.val (.int (i : Int))), none, none], by simp [dLoc, dCon, dNil, dCons, dOp, dTup, dLst, looks, look, frz, dCall, dCallV, dCallK, reord, sSeq2, sSkip, sExp, sRet, sRetN, sIf, sAsg, sAsgT, bVal, bTru, bNot, bAnd, bOr, bYes, dAnd, dOr, dNot, dIf, tName, gsNil, gsCons, gTupD, Dn.tSub, Dn.valOf, asB, ownAt, asI, isPin, sl, dCut, iOf, iNo, fin, endV, runP, runF, runV, runW, startR, startV, dEmp, dChain, res, truR, Dn.tru, itemsOf, sNone, sSeq, sRg1, sRg2, sZip, sEnum, sFor, dApp, dPop, sBrk, sCnt, isNone, atI0, atI1, atI2, ixN3_0, ixN3_1, ixN3_2, ixN2_0, ixN2_1, noPins, e_add, e_addT, e_addL, e_sub, e_mul, e_mulL, e_mulT, e_div, e_mod, e_neg, e_eqI, e_neI, e_eqB, e_eqT, e_eqL, e_neT, e_neL, e_cmp, e_is, e_isnot, e_ixL, e_ixT, e_lenL, e_lenT, e_tupL, e_tupT, e_lstL, e_lstT, e_int, e_intB, e_abs, e_sum, e_divmod, e_gcd, e_max, e_min, e_isi, e_cutL, e_cutT, ip3], fun hb => ?_, fun hb => ?_⟩
      · rw [hb] at u
        have u := of_decide_eq_true u
        refine ⟨[some (.val (.int (n : Int))), some (.val (.tuple (S.map stepD))), some (.val (.int (N : Int))), some (.val (.int (i : Int))), none, none], ?_⟩
        generalize (uniq (tk S i N)).length = m at u ls
        have u : m < n := by exact_mod_cast u
        simp [dLoc, dCon, dNil, dCons, dOp, dTup, dLst, looks, look, frz, dCall, dCallV, dCallK, reord, sSeq2, sSkip, sExp, sRet, sRetN, sIf, sAsg, sAsgT, bVal, bTru, bNot, bAnd, bOr, bYes, dAnd, dOr, dNot, dIf, tName, gsNil, gsCons, gTupD, Dn.tSub, Dn.valOf, asB, ownAt, asI, isPin, sl, dCut, iOf, iNo, fin, endV, runP, runF, runV, runW, startR, startV, dEmp, dChain, res, truR, Dn.tru, itemsOf, sNone, sSeq, sRg1, sRg2, sZip, sEnum, sFor, dApp, dPop, sBrk, sCnt, isNone, atI0, atI1, atI2, ixN3_0, ixN3_1, ixN3_2, ixN2_0, ixN2_1, noPins, e_add, e_addT, e_addL, e_sub, e_mul, e_mulL, e_mulT, e_div, e_mod, e_neg, e_eqI, e_neI, e_eqB, e_eqT, e_eqL, e_neT, e_neL, e_cmp, e_is, e_isnot, e_ixL, e_ixT, e_lenL, e_lenT, e_tupL, e_tupT, e_lstL, e_lstT, e_int, e_intB, e_abs, e_sum, e_divmod, e_gcd, e_max, e_min, e_isi, e_cutL, e_cutT, e1, ls, u]
      · rw [hb] at u
        have u := of_decide_eq_false u
        refine ⟨[some (.val (.int (n : Int))), some (.val (.tuple (S.map stepD))), some (.val (.int (N : Int))), some (.val (.int (i : Int))), none, none], ?_, some (.val (.int (i : Int))), rfl, rfl⟩
        generalize (uniq (tk S i N)).length = m at u ls
        have u : ¬ m < n := fun z => u (by exact_mod_cast z)
        simp [dLoc, dCon, dNil, dCons, dOp, dTup, dLst, looks, look, frz, dCall, dCallV, dCallK, reord, sSeq2, sSkip, sExp, sRet, sRetN, sIf, sAsg, sAsgT, bVal, bTru, bNot, bAnd, bOr, bYes, dAnd, dOr, dNot, dIf, tName, gsNil, gsCons, gTupD, Dn.tSub, Dn.valOf, asB, ownAt, asI, isPin, sl, dCut, iOf, iNo, fin, endV, runP, runF, runV, runW, startR, startV, dEmp, dChain, res, truR, Dn.tru, itemsOf, sNone, sSeq, sRg1, sRg2, sZip, sEnum, sFor, dApp, dPop, sBrk, sCnt, isNone, atI0, atI1, atI2, ixN3_0, ixN3_1, ixN3_2, ixN2_0, ixN2_1, noPins, e_add, e_addT, e_addL, e_sub, e_mul, e_mulL, e_mulT, e_div, e_mod, e_neg, e_eqI, e_neI, e_eqB, e_eqT, e_eqL, e_neT, e_neL, e_cmp, e_is, e_isnot, e_ixL, e_ixT, e_lenL, e_lenT, e_tupL, e_tupT, e_lstL, e_lstT, e_int, e_intB, e_abs, e_sum, e_divmod, e_gcd, e_max, e_min, e_isi, e_cutL, e_cutT, e1, ls, u]) ⟨none, rfl, rfl⟩
  have hA : (List.range (S.length + 1 - N)).any (fun i => !takenAll n S N i) = !dueA n S N := by
    unfold dueA
    rw [List.not_all_eq_any_not]
  rw [hA] at q1 q2
  refine ⟨fun h => q1 (by rw [h]; rfl), fun h => ?_⟩
  obtain ⟨ρ', e, _⟩ := q2 (by rw [h]; rfl)
  exact ⟨ρ', e⟩
theorem all_taken_spec {n N : Nat} {S : List Sp} (hl : S.length ≤ 999) (hN : N ≤ 1000) (hS : Good n S) :
    F_are_all_taken [.int (n : Int), .tuple (S.map stepD), .int (N : Int)] = some (.v (.bool (dueA n S N))) := by
  obtain ⟨a1, a2⟩ := rgA (L := S.length) (N := N) hl hN
  obtain ⟨A1, A2⟩ := prog_loopA (n := n) (N := N) (S := S) hS (by omega)
  have st : startR 6 [.int (n : Int), .tuple (S.map stepD), .int (N : Int)] = [some (.val (.int (n : Int))), some (.val (.tuple (S.map stepD))), some (.val (.int (N : Int))), none, none, none] := rfl
  have sA : sRg1 (dOp pAdd (dCons (dOp pSub (dCons (dOp pLen (dCons (dLoc 1) dNil)) (dCons (dLoc 2) dNil))) (dCons (dCon (.int 1)) dNil))) [some (.val (.int (n : Int))), some (.val (.tuple (S.map stepD))), some (.val (.int (N : Int))), none, none, none] =
      some ((List.range (S.length + 1 - N)).map nD, [some (.val (.int (n : Int))), some (.val (.tuple (S.map stepD))), some (.val (.int (N : Int))), none, none, none]) := by
    simp [dLoc, dCon, dNil, dCons, dOp, dTup, dLst, looks, look, frz, dCall, dCallV, dCallK, reord, sSeq2, sSkip, sExp, sRet, sRetN, sIf, sAsg, sAsgT, bVal, bTru, bNot, bAnd, bOr, bYes, dAnd, dOr, dNot, dIf, tName, gsNil, gsCons, gTupD, Dn.tSub, Dn.valOf, asB, ownAt, asI, isPin, sl, dCut, iOf, iNo, fin, endV, runP, runF, runV, runW, startR, startV, dEmp, dChain, res, truR, Dn.tru, itemsOf, sNone, sSeq, sRg1, sRg2, sZip, sEnum, sFor, dApp, dPop, sBrk, sCnt, isNone, atI0, atI1, atI2, ixN3_0, ixN3_1, ixN3_2, ixN2_0, ixN2_1, noPins, e_add, e_addT, e_addL, e_sub, e_mul, e_mulL, e_mulT, e_div, e_mod, e_neg, e_eqI, e_neI, e_eqB, e_eqT, e_eqL, e_neT, e_neL, e_cmp, e_is, e_isnot, e_ixL, e_ixT, e_lenL, e_lenT, e_tupL, e_tupT, e_lstL, e_lstT, e_int, e_intB, e_abs, e_sum, e_divmod, e_gcd, e_max, e_min, e_isi, e_cutL, e_cutT, a1, a2]
  unfold F_are_all_taken d_are_all_taken
  cases hA : dueA n S N with
  | false =>
    obtain ⟨ρ', e⟩ := A1 hA
    exact run_rt rfl (by rw [st]; exact seq_rt (for_of sA e))
  | true =>
    obtain ⟨ρ', e⟩ := A2 hA
    refine run_rt rfl (ρ := ρ') ?_
    rw [st]
    refine (seq_nx (for_of sA e)).trans ?_
    rfl
/-! ### what is let in -/
theorem x_whole : F_is_whole = Pl.F_is_whole := rfl
theorem x_wholes : F_are_wholes = Pl.F_are_wholes := rfl
theorem between_spec {i a b : Int} (h1 : a ≤ i) (h2 : i ≤ b) : F_is_between [.int i, .int a, .int b] = some (.v (.bool true)) := by
  simp [F_is_between, d_is_between, dLoc, dCon, dNil, dCons, dOp, dTup, dLst, looks, look, frz, dCall, dCallV, dCallK, reord, sSeq2, sSkip, sExp, sRet, sRetN, sIf, sAsg, sAsgT, bVal, bTru, bNot, bAnd, bOr, bYes, dAnd, dOr, dNot, dIf, tName, gsNil, gsCons, gTupD, Dn.tSub, Dn.valOf, asB, ownAt, asI, isPin, sl, dCut, iOf, iNo, fin, endV, runP, runF, runV, runW, startR, startV, dEmp, dChain, res, truR, Dn.tru, itemsOf, sNone, sSeq, sRg1, sRg2, sZip, sEnum, sFor, dApp, dPop, sBrk, sCnt, isNone, atI0, atI1, atI2, ixN3_0, ixN3_1, ixN3_2, ixN2_0, ixN2_1, noPins, e_add, e_addT, e_addL, e_sub, e_mul, e_mulL, e_mulT, e_div, e_mod, e_neg, e_eqI, e_neI, e_eqB, e_eqT, e_eqL, e_neT, e_neL, e_cmp, e_is, e_isnot, e_ixL, e_ixT, e_lenL, e_lenT, e_tupL, e_tupT, e_lstL, e_lstT, e_int, e_intB, e_abs, e_sum, e_divmod, e_gcd, e_max, e_min, e_isi, e_cutL, e_cutT, x_whole, is_whole_spec, isI, h1, h2]
theorem number_spec {i a b : Int} (h1 : a ≤ i) (h2 : i ≤ b) : F_check_number [.int i, .int a, .int b] = some (.v .none) := by
  simp [F_check_number, d_check_number, dLoc, dCon, dNil, dCons, dOp, dTup, dLst, looks, look, frz, dCall, dCallV, dCallK, reord, sSeq2, sSkip, sExp, sRet, sRetN, sIf, sAsg, sAsgT, bVal, bTru, bNot, bAnd, bOr, bYes, dAnd, dOr, dNot, dIf, tName, gsNil, gsCons, gTupD, Dn.tSub, Dn.valOf, asB, ownAt, asI, isPin, sl, dCut, iOf, iNo, fin, endV, runP, runF, runV, runW, startR, startV, dEmp, dChain, res, truR, Dn.tru, itemsOf, sNone, sSeq, sRg1, sRg2, sZip, sEnum, sFor, dApp, dPop, sBrk, sCnt, isNone, atI0, atI1, atI2, ixN3_0, ixN3_1, ixN3_2, ixN2_0, ixN2_1, noPins, e_add, e_addT, e_addL, e_sub, e_mul, e_mulL, e_mulT, e_div, e_mod, e_neg, e_eqI, e_neI, e_eqB, e_eqT, e_eqL, e_neT, e_neL, e_cmp, e_is, e_isnot, e_ixL, e_ixT, e_lenL, e_lenT, e_tupL, e_tupT, e_lstL, e_lstT, e_int, e_intB, e_abs, e_sum, e_divmod, e_gcd, e_max, e_min, e_isi, e_cutL, e_cutT, between_spec h1 h2]
theorem size_spec {n : Nat} (h1 : 1 ≤ n) (h2 : n ≤ 5) : F_check_size [.int (n : Int)] = some (.v .none) := by
  simp [F_check_size, d_check_size, dLoc, dCon, dNil, dCons, dOp, dTup, dLst, looks, look, frz, dCall, dCallV, dCallK, reord, sSeq2, sSkip, sExp, sRet, sRetN, sIf, sAsg, sAsgT, bVal, bTru, bNot, bAnd, bOr, bYes, dAnd, dOr, dNot, dIf, tName, gsNil, gsCons, gTupD, Dn.tSub, Dn.valOf, asB, ownAt, asI, isPin, sl, dCut, iOf, iNo, fin, endV, runP, runF, runV, runW, startR, startV, dEmp, dChain, res, truR, Dn.tru, itemsOf, sNone, sSeq, sRg1, sRg2, sZip, sEnum, sFor, dApp, dPop, sBrk, sCnt, isNone, atI0, atI1, atI2, ixN3_0, ixN3_1, ixN3_2, ixN2_0, ixN2_1, noPins, e_add, e_addT, e_addL, e_sub, e_mul, e_mulL, e_mulT, e_div, e_mod, e_neg, e_eqI, e_neI, e_eqB, e_eqT, e_eqL, e_neT, e_neL, e_cmp, e_is, e_isnot, e_ixL, e_ixT, e_lenL, e_lenT, e_tupL, e_tupT, e_lstL, e_lstT, e_int, e_intB, e_abs, e_sum, e_divmod, e_gcd, e_max, e_min, e_isi, e_cutL, e_cutT, number_spec (i := (n : Int)) (a := 1) (b := 5) (by omega) (by omega)]
theorem ints_isI (l : List Nat) : (l.map nD).all isI = true := by simp [List.all_eq_true, isI]
theorem is_step_spec {n u : Nat} {ps cs : List Nat} (hn : n ≤ 1000) (hu : u < n) (hp : ps.length = n) (hc : cs.length = n) (hlt : ∀ (j : Nat) p c, ps[j]? = some p → cs[j]? = some c → p < c) :
    F_is_step [stepD (u, ps), .list (cs.map nD)] = some (.v (.bool true)) := by
  have w := are_wholes_spec (d := .tuple (ps.map nD)) (m := (n : Int)) (fun ds h => by cases h; rw [List.length_map]; omega)
  have w : F_are_wholes [.tuple (ps.map nD), .int (n : Int)] = some (.v (.bool true)) := by
    rw [x_wholes, w]
    simp only [List.length_map, hp, ints_isI]
    simp
  have bt := between_spec (i := (u : Int)) (a := 0) (b := (n : Int) - 1) (by omega) (by omega)
  have hz : zipD (ps.map nD) (cs.map nD) = (ps.zip cs).map fun x => .tuple [nD x.1, nD x.2] := zipD_map
  have c := dComp_map (vs := [3, 4]) (src := sZipM (dOp pIx (dCons (dLoc 0) (dCons (dCon (.int 1)) dNil))) (dLoc 1)) (tgt := gTupD 2 (gsCons (tName 3) (gsCons (tName 4) gsNil))) (cond := bYes) (elt := dChain (fun i j => decide (i ≤ j)) (fun i j => decide (i < j)) (dCon (.int 0)) (dLoc 3) (dLoc 4))
    (ρ := [some (.val (stepD (u, ps))), some (.val (.list (cs.map nD))), some (.val (.int (n : Int))), none, none]) (ρ1 := [some (.val (stepD (u, ps))), some (.val (.list (cs.map nD))), some (.val (.int (n : Int))), none, none])
    (l := ps.zip cs) (f := fun x => PyData.tuple [nD x.1, nD x.2]) (g := fun _ => some (.bool true))
    (by simp [sZipM, dLoc, dCon, dNil, dCons, dOp, dTup, dLst, looks, look, frz, dCall, dCallV, dCallK, reord, sSeq2, sSkip, sExp, sRet, sRetN, sIf, sAsg, sAsgT, bVal, bTru, bNot, bAnd, bOr, bYes, dAnd, dOr, dNot, dIf, tName, gsNil, gsCons, gTupD, Dn.tSub, Dn.valOf, asB, ownAt, asI, isPin, sl, dCut, iOf, iNo, fin, endV, runP, runF, runV, runW, startR, startV, dEmp, dChain, res, truR, Dn.tru, itemsOf, sNone, sSeq, sRg1, sRg2, sZip, sEnum, sFor, dApp, dPop, sBrk, sCnt, isNone, atI0, atI1, atI2, ixN3_0, ixN3_1, ixN3_2, ixN2_0, ixN2_1, noPins, e_add, e_addT, e_addL, e_sub, e_mul, e_mulL, e_mulT, e_div, e_mod, e_neg, e_eqI, e_neI, e_eqB, e_eqT, e_eqL, e_neT, e_neL, e_cmp, e_is, e_isnot, e_ixL, e_ixT, e_lenL, e_lenT, e_tupL, e_tupT, e_lstL, e_lstT, e_int, e_intB, e_abs, e_sum, e_divmod, e_gcd, e_max, e_min, e_isi, e_cutL, e_cutT, stepD, hz]) (by simp [dLoc, dCon, dNil, dCons, dOp, dTup, dLst, looks, look, frz, dCall, dCallV, dCallK, reord, sSeq2, sSkip, sExp, sRet, sRetN, sIf, sAsg, sAsgT, bVal, bTru, bNot, bAnd, bOr, bYes, dAnd, dOr, dNot, dIf, tName, gsNil, gsCons, gTupD, Dn.tSub, Dn.valOf, asB, ownAt, asI, isPin, sl, dCut, iOf, iNo, fin, endV, runP, runF, runV, runW, startR, startV, dEmp, dChain, res, truR, Dn.tru, itemsOf, sNone, sSeq, sRg1, sRg2, sZip, sEnum, sFor, dApp, dPop, sBrk, sCnt, isNone, atI0, atI1, atI2, ixN3_0, ixN3_1, ixN3_2, ixN2_0, ixN2_1, noPins, e_add, e_addT, e_addL, e_sub, e_mul, e_mulL, e_mulT, e_div, e_mod, e_neg, e_eqI, e_neI, e_eqB, e_eqT, e_eqL, e_neT, e_neL, e_cmp, e_is, e_isnot, e_ixL, e_ixT, e_lenL, e_lenT, e_tupL, e_tupT, e_lstL, e_lstT, e_int, e_intB, e_abs, e_sum, e_divmod, e_gcd, e_max, e_min, e_isi, e_cutL, e_cutT]) (by simp; omega) (fun x hx => by
      obtain ⟨j, hj⟩ := List.mem_iff_getElem?.mp hx
      rw [List.getElem?_zip_eq_some] at hj
      have := hlt j _ _ hj.1 hj.2
      simp [stepC, dLoc, dCon, dNil, dCons, dOp, dTup, dLst, looks, look, frz, dCall, dCallV, dCallK, reord, sSeq2, sSkip, sExp, sRet, sRetN, sIf, sAsg, sAsgT, bVal, bTru, bNot, bAnd, bOr, bYes, dAnd, dOr, dNot, dIf, tName, gsNil, gsCons, gTupD, Dn.tSub, Dn.valOf, asB, ownAt, asI, isPin, sl, dCut, iOf, iNo, fin, endV, runP, runF, runV, runW, startR, startV, dEmp, dChain, res, truR, Dn.tru, itemsOf, sNone, sSeq, sRg1, sRg2, sZip, sEnum, sFor, dApp, dPop, sBrk, sCnt, isNone, atI0, atI1, atI2, ixN3_0, ixN3_1, ixN3_2, ixN2_0, ixN2_1, noPins, e_add, e_addT, e_addL, e_sub, e_mul, e_mulL, e_mulT, e_div, e_mod, e_neg, e_eqI, e_neI, e_eqB, e_eqT, e_eqL, e_neT, e_neL, e_cmp, e_is, e_isnot, e_ixL, e_ixT, e_lenL, e_lenT, e_tupL, e_tupT, e_lstL, e_lstT, e_int, e_intB, e_abs, e_sum, e_divmod, e_gcd, e_max, e_min, e_isi, e_cutL, e_cutT, wipeR, this])
  rw [filterMap_some] at c
  have al : pAll [.list ((ps.zip cs).map fun _ => PyData.bool true)] = some (.v (.bool true)) := by
    have := e_all (ns := (ps.zip cs).map fun _ => true)
    rw [List.map_map] at this
    rw [show ((ps.zip cs).map fun _ => PyData.bool true) = (ps.zip cs).map (PyData.bool ∘ fun _ => true) from rfl, this]
    simp
  have st : stepD (u, ps) = .tuple [.int (u : Int), .tuple (ps.map nD)] := rfl
  rw [st] at c ⊢
  simp [F_is_step, d_is_step, dLoc, dCon, dNil, dCons, dOp, dTup, dLst, looks, look, frz, dCall, dCallV, dCallK, reord, sSeq2, sSkip, sExp, sRet, sRetN, sIf, sAsg, sAsgT, bVal, bTru, bNot, bAnd, bOr, bYes, dAnd, dOr, dNot, dIf, tName, gsNil, gsCons, gTupD, Dn.tSub, Dn.valOf, asB, ownAt, asI, isPin, sl, dCut, iOf, iNo, fin, endV, runP, runF, runV, runW, startR, startV, dEmp, dChain, res, truR, Dn.tru, itemsOf, sNone, sSeq, sRg1, sRg2, sZip, sEnum, sFor, dApp, dPop, sBrk, sCnt, isNone, atI0, atI1, atI2, ixN3_0, ixN3_1, ixN3_2, ixN2_0, ixN2_1, noPins, e_add, e_addT, e_addL, e_sub, e_mul, e_mulL, e_mulT, e_div, e_mod, e_neg, e_eqI, e_neI, e_eqB, e_eqT, e_eqL, e_neT, e_neL, e_cmp, e_is, e_isnot, e_ixL, e_ixT, e_lenL, e_lenT, e_tupL, e_tupT, e_lstL, e_lstT, e_int, e_intB, e_abs, e_sum, e_divmod, e_gcd, e_max, e_min, e_isi, e_cutL, e_cutT, isTy_tup, hc, bt, w, c, al, wipeR]
end K48

set_option Elab.async false
set_option linter.all false
set_option maxRecDepth 100000
set_option maxHeartbeats 4000000
namespace K48
open PySem PySem.Spec PyProof.Rows L2 Dn Pl

/-! ### steps that pick what is there -/
def upC (cs : List Nat) (u : Nat) : List Nat := cs.set u (cs.getD u 0 + 1)
structure Fit1 (cs : List Nat) (s : Sp) : Prop where
  un : s.1 < cs.length
  pk : s.2.length = cs.length
  lt : ∀ (j : Nat) p c, s.2[j]? = some p → cs[j]? = some c → p < c
def fits : List Sp → List Nat → Prop
  | [], _ => True
  | s :: S, cs => Fit1 cs s ∧ fits S (upC cs s.1)
def aft : List Sp → List Nat → List Nat
  | [], cs => cs
  | s :: S, cs => aft S (upC cs s.1)
theorem fits_snoc : ∀ {S : List Sp} {cs : List Nat} {s : Sp}, fits S cs → Fit1 (aft S cs) s → fits (S ++ [s]) cs ∧ aft (S ++ [s]) cs = upC (aft S cs) s.1
  | [], cs, s, _, h => ⟨⟨h, trivial⟩, rfl⟩
  | t :: S, cs, s, h, g => by
    obtain ⟨q1, q2⟩ := fits_snoc (S := S) (cs := upC cs t.1) h.2 g
    exact ⟨⟨h.1, q1⟩, q2⟩
theorem upC_len {cs : List Nat} {u : Nat} : (upC cs u).length = cs.length := by unfold upC; rw [List.length_set]
theorem fits_good : ∀ {n : Nat} {S : List Sp} {cs : List Nat}, cs.length = n → fits S cs → Good n S
  | _, [], _, _, _ => ⟨fun _ h => (nomatch h), fun _ h => (nomatch h)⟩
  | n, s :: S, cs, hl, h => by
    have g := fits_good (n := n) (S := S) (cs := upC cs s.1) (by rw [upC_len]; exact hl) h.2
    refine ⟨fun t ht => ?_, fun t ht => ?_⟩
    · rcases List.mem_cons.mp ht with e | e
      · subst e; rw [← hl]; exact h.1.un
      · exact g.un t e
    · rcases List.mem_cons.mp ht with e | e
      · subst e; rw [← hl]; exact h.1.pk
      · exact g.pk t e
theorem upC_D {cs : List Nat} {u : Nat} : (upC cs u).map nD = (cs.map nD).set u (nD (cs.getD u 0 + 1)) := by unfold upC; rw [List.map_set]
abbrev bodyW : TSD := (sSeq2 (sIf (bOr (bVal (dOp pEq (dCons (dLoc 3) (dCons (dCon (.int 200)) dNil)))) (bNot (bTru (dCallL F_is_step (dCons (dLoc 4) (dCons (dLoc 2) dNil)))))) (sSeq2 (sRet (dLoc 3))
  sSkip) sSkip)
  (sSeq2 (sAsg (dOp pAdd (dCons (dOp pIx (dCons (dLoc 2) (dCons (dOp pIx (dCons (dLoc 4) (dCons (dCon (.int 0)) dNil))) dNil))) (dCons (dCon (.int 1)) dNil))) (tSub 2 (dOp pIx (dCons (dLoc 4) (dCons (dCon (.int 0)) dNil)))))
  sSkip))
theorem wrong_loop {n : Nat} {S : List Sp} (hn : n ≤ 1000) (hl : S.length ≤ 200) (hf : fits S (List.replicate n 2)) :
    ∃ ρ', loopF (gTupD 2 (gsCons (tName 3) (gsCons (tName 4) gsNil))) bodyW (enumD 0 (S.map stepD)) [some (.val (.int (n : Int))), some (.val (.tuple (S.map stepD))), some (.own false ((List.replicate n 2).map nD)), none, none] = some (.nx ρ') := by
  obtain ⟨ρ', e, _⟩ := loopF_inv (tgt := gTupD 2 (gsCons (tName 3) (gsCons (tName 4) gsNil))) (body := bodyW) (ds := enumD 0 (S.map stepD))
    (ρ := [some (.val (.int (n : Int))), some (.val (.tuple (S.map stepD))), some (.own false ((List.replicate n 2).map nD)), none, none])
    (Inv := fun ds ρ => ∃ (T : List Sp) (k : Nat) (cs : List Nat) (x3 x4 : Option Slot), ds = enumD k (T.map stepD) ∧ k + T.length ≤ 200 ∧ fits T cs ∧ cs.length = n ∧ ρ = [some (.val (.int (n : Int))), some (.val (.tuple (S.map stepD))), some (.own false (cs.map nD)), x3, x4] ∧ nfS x3 = true ∧ nfS x4 = true)
    (fun d ds ρ h => by
      obtain ⟨T, k, cs, x3, x4, e, hk, hf, hc, rfl, n3, n4⟩ := h
      cases T with
      | nil => simp [enumD] at e
      | cons s T =>
        simp only [List.map_cons, enumD, List.cons.injEq] at e
        obtain ⟨rfl, rfl⟩ := e
        rw [List.length_cons] at hk
        obtain ⟨u, ps⟩ := s
        obtain ⟨f1, f2⟩ := hf
        have ip3 := nf_isPin n3
        have ip4 := nf_isPin n4
        unfold isPin at ip3 ip4
        have hu : u < cs.length := f1.un
        have is := is_step_spec (n := n) (u := u) (ps := ps) (cs := cs) hn (by rw [← hc]; exact hu) (by rw [← hc]; exact f1.pk) hc f1.lt
        have is : onlyFlat F_is_step [stepD (u, ps), .list (cs.map nD)] = some (.v (.bool true)) := by unfold onlyFlat; rw [is]; rfl
        have hk2 : ((k : Int) == 200) = false := beq_eq_false_iff_ne.mpr (by omega)
        have ix := ix_n (l := cs) (i := (u : Int)) rfl hu
        have g1 : ixN (cs.map nD).length (u : Int) = some u := by unfold ixN; rw [if_pos (by omega), if_pos (by rw [List.length_map]; omega)]; rfl
        refine ⟨[some (.val (.int (n : Int))), some (.val (.tuple (S.map stepD))), some (.own false (cs.map nD)), some (.val (.int (k : Int))), some (.val (stepD (u, ps)))],
          [some (.val (.int (n : Int))), some (.val (.tuple (S.map stepD))), some (.own false ((upC cs u).map nD)), some (.val (.int (k : Int))), some (.val (stepD (u, ps)))], by simp [dLoc, dCon, dNil, dCons, dOp, dTup, dLst, looks, look, frz, dCall, dCallV, dCallK, reord, sSeq2, sSkip, sExp, sRet, sRetN, sIf, sAsg, sAsgT, bVal, bTru, bNot, bAnd, bOr, bYes, dAnd, dOr, dNot, dIf, tName, gsNil, gsCons, gTupD, Dn.tSub, Dn.valOf, asB, ownAt, asI, isPin, sl, dCut, iOf, iNo, fin, endV, runP, runF, runV, runW, startR, startV, dEmp, dChain, res, truR, Dn.tru, itemsOf, sNone, sSeq, sRg1, sRg2, sZip, sEnum, sFor, dApp, dPop, sBrk, sCnt, isNone, atI0, atI1, atI2, ixN3_0, ixN3_1, ixN3_2, ixN2_0, ixN2_1, noPins, e_add, e_addT, e_addL, e_sub, e_mul, e_mulL, e_mulT, e_div, e_mod, e_neg, e_eqI, e_neI, e_eqB, e_eqT, e_eqL, e_neT, e_neL, e_cmp, e_is, e_isnot, e_ixL, e_ixT, e_lenL, e_lenT, e_tupL, e_tupT, e_lstL, e_lstT, e_int, e_intB, e_abs, e_sum, e_divmod, e_gcd, e_max, e_min, e_isi, e_cutL, e_cutT, ip3, ip4], ?_, T, k + 1, upC cs u, some (.val (.int (k : Int))), some (.val (stepD (u, ps))), rfl, by omega, f2, by rw [upC_len]; exact hc, rfl, rfl, rfl⟩
        rw [upC_D]
        generalize cs.getD u 0 = v at ix ⊢
        generalize cs.map nD = L at is ix g1 ⊢
        have st : stepD (u, ps) = .tuple [.int (u : Int), .tuple (ps.map nD)] := rfl
        rw [st] at is ⊢
        simp [dLoc, dCon, dNil, dCons, dOp, dTup, dLst, looks, look, frz, dCall, dCallV, dCallK, reord, sSeq2, sSkip, sExp, sRet, sRetN, sIf, sAsg, sAsgT, bVal, bTru, bNot, bAnd, bOr, bYes, dAnd, dOr, dNot, dIf, tName, gsNil, gsCons, gTupD, Dn.tSub, Dn.valOf, asB, ownAt, asI, isPin, sl, dCut, iOf, iNo, fin, endV, runP, runF, runV, runW, startR, startV, dEmp, dChain, res, truR, Dn.tru, itemsOf, sNone, sSeq, sRg1, sRg2, sZip, sEnum, sFor, dApp, dPop, sBrk, sCnt, isNone, atI0, atI1, atI2, ixN3_0, ixN3_1, ixN3_2, ixN2_0, ixN2_1, noPins, e_add, e_addT, e_addL, e_sub, e_mul, e_mulL, e_mulT, e_div, e_mod, e_neg, e_eqI, e_neI, e_eqB, e_eqT, e_eqL, e_neT, e_neL, e_cmp, e_is, e_isnot, e_ixL, e_ixT, e_lenL, e_lenT, e_tupL, e_tupT, e_lstL, e_lstT, e_int, e_intB, e_abs, e_sum, e_divmod, e_gcd, e_max, e_min, e_isi, e_cutL, e_cutT, hk2, is, ix, g1, nD]) ⟨S, 0, List.replicate n 2, none, none, rfl, by omega, hf, by simp, rfl, rfl, rfl⟩
  exact ⟨ρ', e⟩
theorem first_wrong_spec {n : Nat} {S : List Sp} (hn : n ≤ 1000) (hl : S.length ≤ 200) (hf : fits S (List.replicate n 2)) :
    F_first_wrong [.int (n : Int), .tuple (S.map stepD)] = some (.v .none) := by
  obtain ⟨ρ', e⟩ := wrong_loop hn hl hf
  have st : startR 5 [.int (n : Int), .tuple (S.map stepD)] = [some (.val (.int (n : Int))), some (.val (.tuple (S.map stepD))), none, none, none] := rfl
  have m : pMul [.list [.int 2], .int (n : Int)] = some (.o ((List.replicate n 2).map nD)) := by
    rw [e_mulL (by omega) (by omega) (by simp; omega)]
    congr 2
    rw [Int.toNat_natCast, List.map_replicate]
    exact List.eq_replicate_iff.mpr ⟨by simp, fun b hb => by
      obtain ⟨l, hl, hb⟩ := List.mem_flatten.mp hb
      rw [List.eq_of_mem_replicate hl] at hb
      have : b = PyData.int 2 := by simpa using hb
      rw [this]; rfl⟩
  unfold F_first_wrong d_first_wrong
  refine run_rt rfl (ρ := ρ') ?_
  rw [st]
  refine (seq_nx (ρ1 := [some (.val (.int (n : Int))), some (.val (.tuple (S.map stepD))), some (.own false ((List.replicate n 2).map nD)), none, none]) (by simp [dLoc, dCon, dNil, dCons, dOp, dTup, dLst, looks, look, frz, dCall, dCallV, dCallK, reord, sSeq2, sSkip, sExp, sRet, sRetN, sIf, sAsg, sAsgT, bVal, bTru, bNot, bAnd, bOr, bYes, dAnd, dOr, dNot, dIf, tName, gsNil, gsCons, gTupD, Dn.tSub, Dn.valOf, asB, ownAt, asI, isPin, sl, dCut, iOf, iNo, fin, endV, runP, runF, runV, runW, startR, startV, dEmp, dChain, res, truR, Dn.tru, itemsOf, sNone, sSeq, sRg1, sRg2, sZip, sEnum, sFor, dApp, dPop, sBrk, sCnt, isNone, atI0, atI1, atI2, ixN3_0, ixN3_1, ixN3_2, ixN2_0, ixN2_1, noPins, e_add, e_addT, e_addL, e_sub, e_mul, e_mulL, e_mulT, e_div, e_mod, e_neg, e_eqI, e_neI, e_eqB, e_eqT, e_eqL, e_neT, e_neL, e_cmp, e_is, e_isnot, e_ixL, e_ixT, e_lenL, e_lenT, e_tupL, e_tupT, e_lstL, e_lstT, e_int, e_intB, e_abs, e_sum, e_divmod, e_gcd, e_max, e_min, e_isi, e_cutL, e_cutT, m])).trans ?_
  refine (seq_nx (for_of (its := enumD 0 (S.map stepD)) (ρ1 := [some (.val (.int (n : Int))), some (.val (.tuple (S.map stepD))), some (.own false ((List.replicate n 2).map nD)), none, none]) (by simp [sEnumA, dLoc, dCon, dNil, dCons, dOp, dTup, dLst, looks, look, frz, dCall, dCallV, dCallK, reord, sSeq2, sSkip, sExp, sRet, sRetN, sIf, sAsg, sAsgT, bVal, bTru, bNot, bAnd, bOr, bYes, dAnd, dOr, dNot, dIf, tName, gsNil, gsCons, gTupD, Dn.tSub, Dn.valOf, asB, ownAt, asI, isPin, sl, dCut, iOf, iNo, fin, endV, runP, runF, runV, runW, startR, startV, dEmp, dChain, res, truR, Dn.tru, itemsOf, sNone, sSeq, sRg1, sRg2, sZip, sEnum, sFor, dApp, dPop, sBrk, sCnt, isNone, atI0, atI1, atI2, ixN3_0, ixN3_1, ixN3_2, ixN2_0, ixN2_1, noPins, e_add, e_addT, e_addL, e_sub, e_mul, e_mulL, e_mulT, e_div, e_mod, e_neg, e_eqI, e_neI, e_eqB, e_eqT, e_eqL, e_neT, e_neL, e_cmp, e_is, e_isnot, e_ixL, e_ixT, e_lenL, e_lenT, e_tupL, e_tupT, e_lstL, e_lstT, e_int, e_intB, e_abs, e_sum, e_divmod, e_gcd, e_max, e_min, e_isi, e_cutL, e_cutT]) e)).trans ?_
  rfl
theorem check_steps_spec {n : Nat} {S : List Sp} (hn : n ≤ 1000) (hl : S.length ≤ 200) (hf : fits S (List.replicate n 2)) :
    F_check_steps [.int (n : Int), .tuple (S.map stepD)] = some (.v .none) := by
  simp [F_check_steps, d_check_steps, dLoc, dCon, dNil, dCons, dOp, dTup, dLst, looks, look, frz, dCall, dCallV, dCallK, reord, sSeq2, sSkip, sExp, sRet, sRetN, sIf, sAsg, sAsgT, bVal, bTru, bNot, bAnd, bOr, bYes, dAnd, dOr, dNot, dIf, tName, gsNil, gsCons, gTupD, Dn.tSub, Dn.valOf, asB, ownAt, asI, isPin, sl, dCut, iOf, iNo, fin, endV, runP, runF, runV, runW, startR, startV, dEmp, dChain, res, truR, Dn.tru, itemsOf, sNone, sSeq, sRg1, sRg2, sZip, sEnum, sFor, dApp, dPop, sBrk, sCnt, isNone, atI0, atI1, atI2, ixN3_0, ixN3_1, ixN3_2, ixN2_0, ixN2_1, noPins, e_add, e_addT, e_addL, e_sub, e_mul, e_mulL, e_mulT, e_div, e_mod, e_neg, e_eqI, e_neI, e_eqB, e_eqT, e_eqL, e_neT, e_neL, e_cmp, e_is, e_isnot, e_ixL, e_ixT, e_lenL, e_lenT, e_tupL, e_tupT, e_lstL, e_lstT, e_int, e_intB, e_abs, e_sum, e_divmod, e_gcd, e_max, e_min, e_isi, e_cutL, e_cutT, isTy_tup, first_wrong_spec hn hl hf]
def due (n : Nat) (S : List Sp) (N : Nat) : Bool := dueA n S N && dueT n S N
theorem is_tidy_spec {n N : Nat} {S : List Sp} (h1 : 1 ≤ n) (hn : n ≤ 5) (hl : S.length ≤ 200) (hf : fits S (List.replicate n 2)) (hN : 1 ≤ N) (hN2 : N ≤ 200) :
    F_is_tidy [.int (n : Int), .tuple (S.map stepD), .int (N : Int)] = some (.v (.bool (due n S N))) := by
  have g := fits_good (n := n) (by simp) hf
  have a1 := size_spec h1 hn
  have a2 := check_steps_spec (n := n) (by omega) hl hf
  have a3 := number_spec (i := (N : Int)) (a := 1) (b := 200) (by omega) (by omega)
  have a4 := in_time_spec (n := n) (N := N) (S := S) (by omega) (by omega) g
  have a5 := all_taken_spec (n := n) (N := N) (S := S) (by omega) (by omega) g
  unfold due
  cases hT : dueT n S N <;> simp [F_is_tidy, d_is_tidy, dLoc, dCon, dNil, dCons, dOp, dTup, dLst, looks, look, frz, dCall, dCallV, dCallK, reord, sSeq2, sSkip, sExp, sRet, sRetN, sIf, sAsg, sAsgT, bVal, bTru, bNot, bAnd, bOr, bYes, dAnd, dOr, dNot, dIf, tName, gsNil, gsCons, gTupD, Dn.tSub, Dn.valOf, asB, ownAt, asI, isPin, sl, dCut, iOf, iNo, fin, endV, runP, runF, runV, runW, startR, startV, dEmp, dChain, res, truR, Dn.tru, itemsOf, sNone, sSeq, sRg1, sRg2, sZip, sEnum, sFor, dApp, dPop, sBrk, sCnt, isNone, atI0, atI1, atI2, ixN3_0, ixN3_1, ixN3_2, ixN2_0, ixN2_1, noPins, e_add, e_addT, e_addL, e_sub, e_mul, e_mulL, e_mulT, e_div, e_mod, e_neg, e_eqI, e_neI, e_eqB, e_eqT, e_eqL, e_neT, e_neL, e_cmp, e_is, e_isnot, e_ixL, e_ixT, e_lenL, e_lenT, e_tupL, e_tupT, e_lstL, e_lstT, e_int, e_intB, e_abs, e_sum, e_divmod, e_gcd, e_max, e_min, e_isi, e_cutL, e_cutT, a1, a2, a3, a4, a5, hT]
/-! ### from the least number on it holds, below it never -/
theorem any_mono {α : Type} {p q : α → Bool} : ∀ {l : List α}, (∀ a ∈ l, p a = true → q a = true) → l.any p = true → l.any q = true
  | l, h, e => by
    obtain ⟨a, ha, hp⟩ := List.any_eq_true.mp e
    exact List.any_eq_true.mpr ⟨a, ha, h a ha hp⟩
theorem bad_mono {N k : Nat} {came : List (List Nat)} {ps : List Nat} (h : badS (N + 1) k came ps = true) : badS N k came ps = true := by
  unfold badS at *
  refine any_mono (fun j _ hj => ?_) h
  unfold badJ at *
  simp only [Bool.and_eq_true, decide_eq_true_eq] at hj ⊢
  exact ⟨hj.1, by have := hj.2; push_cast at this ⊢; omega⟩
theorem run_mono {N : Nat} : ∀ {S : List Sp} {k : Nat} {came : List (List Nat)}, (runO (nxtT N) (prs k S) came).isSome = true → (runO (nxtT (N + 1)) (prs k S) came).isSome = true
  | [], _, _, h => h
  | s :: S, k, came, h => by
    simp only [prs, runO, nxtT] at h ⊢
    cases hb : badS N k came s.2 with
    | true => simp [hb] at h
    | false =>
      have hb2 : badS (N + 1) k came s.2 = false := by
        cases h2 : badS (N + 1) k came s.2 with
        | false => rfl
        | true => rw [bad_mono h2] at hb; cases hb
      simp only [hb, hb2] at h ⊢
      exact run_mono (S := S) (by simpa using h)
theorem takenAll_mono {n N i : Nat} {S : List Sp} (h : takenAll n S N i = true) : takenAll n S (N + 1) i = true := by
  unfold takenAll at *
  rw [List.all_eq_true] at h ⊢
  intro j hj
  have := h j hj
  simp only [List.contains_eq_mem, decide_eq_true_eq] at this ⊢
  unfold tk at *
  obtain ⟨s, hs, e⟩ := List.mem_map.mp this
  refine List.mem_map.mpr ⟨s, ?_, e⟩
  exact (List.take_subset_take_left _ (Nat.le_succ N)) hs
theorem due_mono {n N : Nat} {S : List Sp} (h : due n S N = true) : due n S (N + 1) = true := by
  unfold due at *
  rw [Bool.and_eq_true] at h ⊢
  refine ⟨?_, run_mono h.2⟩
  have h1 := h.1
  unfold dueA at *
  rw [List.all_eq_true] at h1 ⊢
  intro i hi
  exact takenAll_mono (h1 i (List.mem_range.mpr (by have := List.mem_range.mp hi; omega)))
theorem due_up {n N M : Nat} {S : List Sp} (h : due n S N = true) (hm : N ≤ M) : due n S M = true := by
  obtain ⟨k, rfl⟩ : ∃ k, M = N + k := ⟨M - N, by omega⟩
  clear hm
  induction k with
  | zero => exact h
  | succ k ih => exact due_mono ih
theorem run_far {N : Nat} : ∀ {S : List Sp} {k : Nat} {came : List (List Nat)}, k + S.length ≤ N → (runO (nxtT N) (prs k S) came).isSome = true
  | [], _, _, _ => rfl
  | s :: S, k, came, h => by
    rw [List.length_cons] at h
    have hb : badS N k came s.2 = false := by
      unfold badS
      rw [List.any_eq_false]
      intro j _ hj
      unfold badJ at hj
      simp only [Bool.and_eq_true, decide_eq_true_eq] at hj
      omega
    simp only [prs, runO, nxtT, hb]
    exact run_far (S := S) (by omega)
theorem due_far {n : Nat} {S : List Sp} : due n S (S.length + 1) = true := by
  unfold due
  rw [Bool.and_eq_true]
  refine ⟨?_, run_far (by omega)⟩
  unfold dueA
  simp
end K48

set_option Elab.async false
set_option linter.all false
set_option maxRecDepth 100000
set_option maxHeartbeats 4000000
namespace K48
open PySem PySem.Spec PyProof.Rows L2 Dn Pl

theorem x_cup : F__law_cup = Pl.F__law_cup := rfl
theorem x_one : F__law_one_of = Pl.F__law_one_of := rfl
theorem cut1 {l : List D} {a : D} : Dn.cutD (a :: l) (some 1) none = l := by
  unfold Dn.cutD
  rw [HT.sIx_none, show (1 : Int) = ((1 : Nat) : Int) from rfl, HT.sIx_nat]
  simp
abbrev stA : TSD := (sIf (bVal (dOp pEq (dCons (dLoc 6) (dCons (dLst dNil) dNil)))) (sSeq2 (sAsg (dComp [12] (sRg1 (dLoc 1)) (tName 12) bYes (dOp pMod (dCons (dOp pInt (dCons (dOp pAdd (dCons (dLoc 12) (dCons (dLoc 3) dNil))) dNil)) (dCons (dLoc 1) dNil)))) (tName 6))
  (sSeq2 (sAsg (dIf (bVal (dOp pEq (dCons (dCallV F__law_cup (dCons (dLoc 0) (dCons (dCon (.int 2)) dNil))) (dCons (dCon (.int 0)) dNil)))) (dOp pRev (dCons (dLoc 6) dNil)) (dLoc 6)) (tName 6))
  sSkip)) sSkip)
theorem ordA {b n lap : Nat} {xs : List D} {o : List Nat} {x2 x4 x5 x7 x8 x9 xa xb : Option Slot} (h1 : 1 ≤ n) (hn : n ≤ 1000) (hl : lap ≤ 1000) (ho : ∀ x ∈ o, x < n) (v : VI (b + 1) xs) :
    ∃ (xs' : List D) (o' : List Nat) (s6 : Option Slot), stA [some (.own true xs), some (.val (.int (n : Int))), x2, some (.val (.int (lap : Int))), x4, x5, some (.own false (o.map nD)), x7, x8, x9, xa, xb, none] =
      some (.nx [some (.own true xs'), some (.val (.int (n : Int))), x2, some (.val (.int (lap : Int))), x4, x5, s6, x7, x8, x9, xa, xb, none]) ∧ o' ≠ [] ∧ (∀ x ∈ o', x < n) ∧ (s6 = some (.own false (o'.map nD)) ∨ s6 = some (.val (.list (o'.map nD)))) ∧ VI b xs' := by
  cases o with
  | cons a o =>
    refine ⟨xs, a :: o, _, ?_, by simp, ho, .inl rfl, v.less (by omega)⟩
    simp [dLoc, dCon, dNil, dCons, dOp, dTup, dLst, looks, look, frz, dCall, dCallV, dCallK, reord, sSeq2, sSkip, sExp, sRet, sRetN, sIf, sAsg, sAsgT, bVal, bTru, bNot, bAnd, bOr, bYes, dAnd, dOr, dNot, dIf, tName, gsNil, gsCons, gTupD, Dn.tSub, Dn.valOf, asB, ownAt, asI, isPin, sl, dCut, iOf, iNo, fin, endV, runP, runF, runV, runW, startR, startV, dEmp, dChain, res, truR, Dn.tru, itemsOf, sNone, sSeq, sRg1, sRg2, sZip, sEnum, sFor, dApp, dPop, sBrk, sCnt, isNone, atI0, atI1, atI2, ixN3_0, ixN3_1, ixN3_2, ixN2_0, ixN2_1, noPins, e_add, e_addT, e_addL, e_sub, e_mul, e_mulL, e_mulT, e_div, e_mod, e_neg, e_eqI, e_neI, e_eqB, e_eqT, e_eqL, e_neT, e_neL, e_cmp, e_is, e_isnot, e_ixL, e_ixT, e_lenL, e_lenT, e_tupL, e_tupT, e_lstL, e_lstT, e_int, e_intB, e_abs, e_sum, e_divmod, e_gcd, e_max, e_min, e_isi, e_cutL, e_cutT]
  | nil =>
    have c := dComp_map (vs := [12]) (src := sRg1 (dLoc 1)) (tgt := tName 12) (cond := bYes) (elt := dOp pMod (dCons (dOp pInt (dCons (dOp pAdd (dCons (dLoc 12) (dCons (dLoc 3) dNil))) dNil)) (dCons (dLoc 1) dNil)))
      (ρ := [some (.own true xs), some (.val (.int (n : Int))), x2, some (.val (.int (lap : Int))), x4, x5, some (.own false []), x7, x8, x9, xa, xb, none]) (ρ1 := [some (.own true xs), some (.val (.int (n : Int))), x2, some (.val (.int (lap : Int))), x4, x5, some (.own false []), x7, x8, x9, xa, xb, none])
      (l := List.range n) (f := nD) (g := fun k => some (nD ((k + lap) % n)))
      (by simp [dLoc, dCon, dNil, dCons, dOp, dTup, dLst, looks, look, frz, dCall, dCallV, dCallK, reord, sSeq2, sSkip, sExp, sRet, sRetN, sIf, sAsg, sAsgT, bVal, bTru, bNot, bAnd, bOr, bYes, dAnd, dOr, dNot, dIf, tName, gsNil, gsCons, gTupD, Dn.tSub, Dn.valOf, asB, ownAt, asI, isPin, sl, dCut, iOf, iNo, fin, endV, runP, runF, runV, runW, startR, startV, dEmp, dChain, res, truR, Dn.tru, itemsOf, sNone, sSeq, sRg1, sRg2, sZip, sEnum, sFor, dApp, dPop, sBrk, sCnt, isNone, atI0, atI1, atI2, ixN3_0, ixN3_1, ixN3_2, ixN2_0, ixN2_1, noPins, e_add, e_addT, e_addL, e_sub, e_mul, e_mulL, e_mulT, e_div, e_mod, e_neg, e_eqI, e_neI, e_eqB, e_eqT, e_eqL, e_neT, e_neL, e_cmp, e_is, e_isnot, e_ixL, e_ixT, e_lenL, e_lenT, e_tupL, e_tupT, e_lstL, e_lstT, e_int, e_intB, e_abs, e_sum, e_divmod, e_gcd, e_max, e_min, e_isi, e_cutL, e_cutT, rg_ok hn]; exact rg_map n) (by simp [dLoc, dCon, dNil, dCons, dOp, dTup, dLst, looks, look, frz, dCall, dCallV, dCallK, reord, sSeq2, sSkip, sExp, sRet, sRetN, sIf, sAsg, sAsgT, bVal, bTru, bNot, bAnd, bOr, bYes, dAnd, dOr, dNot, dIf, tName, gsNil, gsCons, gTupD, Dn.tSub, Dn.valOf, asB, ownAt, asI, isPin, sl, dCut, iOf, iNo, fin, endV, runP, runF, runV, runW, startR, startV, dEmp, dChain, res, truR, Dn.tru, itemsOf, sNone, sSeq, sRg1, sRg2, sZip, sEnum, sFor, dApp, dPop, sBrk, sCnt, isNone, atI0, atI1, atI2, ixN3_0, ixN3_1, ixN3_2, ixN2_0, ixN2_1, noPins, e_add, e_addT, e_addL, e_sub, e_mul, e_mulL, e_mulT, e_div, e_mod, e_neg, e_eqI, e_neI, e_eqB, e_eqT, e_eqL, e_neT, e_neL, e_cmp, e_is, e_isnot, e_ixL, e_ixT, e_lenL, e_lenT, e_tupL, e_tupT, e_lstL, e_lstT, e_int, e_intB, e_abs, e_sum, e_divmod, e_gcd, e_max, e_min, e_isi, e_cutL, e_cutT]) (by simp; omega) (fun k hk => by
        have f : ((k : Int) + (lap : Int)).fmod (n : Int) = (((k + lap) % n : Nat) : Int) := by rw [Int.fmod_eq_emod_of_nonneg _ (by omega)]; push_cast; rfl
        have nz : (n : Int) ≠ 0 := by omega
        simp [stepC, dLoc, dCon, dNil, dCons, dOp, dTup, dLst, looks, look, frz, dCall, dCallV, dCallK, reord, sSeq2, sSkip, sExp, sRet, sRetN, sIf, sAsg, sAsgT, bVal, bTru, bNot, bAnd, bOr, bYes, dAnd, dOr, dNot, dIf, tName, gsNil, gsCons, gTupD, Dn.tSub, Dn.valOf, asB, ownAt, asI, isPin, sl, dCut, iOf, iNo, fin, endV, runP, runF, runV, runW, startR, startV, dEmp, dChain, res, truR, Dn.tru, itemsOf, sNone, sSeq, sRg1, sRg2, sZip, sEnum, sFor, dApp, dPop, sBrk, sCnt, isNone, atI0, atI1, atI2, ixN3_0, ixN3_1, ixN3_2, ixN2_0, ixN2_1, noPins, e_add, e_addT, e_addL, e_sub, e_mul, e_mulL, e_mulT, e_div, e_mod, e_neg, e_eqI, e_neI, e_eqB, e_eqT, e_eqL, e_neT, e_neL, e_cmp, e_is, e_isnot, e_ixL, e_ixT, e_lenL, e_lenT, e_tupL, e_tupT, e_lstL, e_lstT, e_int, e_intB, e_abs, e_sum, e_divmod, e_gcd, e_max, e_min, e_isi, e_cutL, e_cutT, wipeR, f, nz, show n ≠ 0 by omega])
    rw [filterMap_some] at c
    obtain ⟨i, x1, e1, i0, i1, v1⟩ := cup_spec (b := b) (m := 2) v (by decide) (by decide)
    have hr : ∀ x ∈ (List.range n).map (fun k => (k + lap) % n), x < n := fun x hx => by
      obtain ⟨k, _, rfl⟩ := List.mem_map.mp hx
      exact Nat.mod_lt _ (by omega)
    have hne : (List.range n).map (fun k => (k + lap) % n) ≠ [] := by
      intro z
      have := congrArg List.length z
      simp at this
      omega
    have hm : (List.range n).map (fun k => nD ((k + lap) % n)) = ((List.range n).map fun k => (k + lap) % n).map nD := by rw [List.map_map]; rfl
    rw [hm] at c
    generalize (List.range n).map (fun k => (k + lap) % n) = r at c hr hne
    by_cases hi : i = 0
    · subst hi
      refine ⟨x1, r.reverse, some (.own false (r.reverse.map nD)), ?_, by simpa using hne, fun x hx => hr x (by simpa using hx), .inl rfl, v1⟩
      simp [dLoc, dCon, dNil, dCons, dOp, dTup, dLst, looks, look, frz, dCall, dCallV, dCallK, reord, sSeq2, sSkip, sExp, sRet, sRetN, sIf, sAsg, sAsgT, bVal, bTru, bNot, bAnd, bOr, bYes, dAnd, dOr, dNot, dIf, tName, gsNil, gsCons, gTupD, Dn.tSub, Dn.valOf, asB, ownAt, asI, isPin, sl, dCut, iOf, iNo, fin, endV, runP, runF, runV, runW, startR, startV, dEmp, dChain, res, truR, Dn.tru, itemsOf, sNone, sSeq, sRg1, sRg2, sZip, sEnum, sFor, dApp, dPop, sBrk, sCnt, isNone, atI0, atI1, atI2, ixN3_0, ixN3_1, ixN3_2, ixN2_0, ixN2_1, noPins, e_add, e_addT, e_addL, e_sub, e_mul, e_mulL, e_mulT, e_div, e_mod, e_neg, e_eqI, e_neI, e_eqB, e_eqT, e_eqL, e_neT, e_neL, e_cmp, e_is, e_isnot, e_ixL, e_ixT, e_lenL, e_lenT, e_tupL, e_tupT, e_lstL, e_lstT, e_int, e_intB, e_abs, e_sum, e_divmod, e_gcd, e_max, e_min, e_isi, e_cutL, e_cutT, c, wipeR, x_cup, e1, pRev, -List.map_reverse]
      simp
    · have hb : (i == 0) = false := beq_eq_false_iff_ne.mpr hi
      refine ⟨x1, r, some (.val (.list (r.map nD))), ?_, hne, hr, .inr rfl, v1⟩
      simp [dLoc, dCon, dNil, dCons, dOp, dTup, dLst, looks, look, frz, dCall, dCallV, dCallK, reord, sSeq2, sSkip, sExp, sRet, sRetN, sIf, sAsg, sAsgT, bVal, bTru, bNot, bAnd, bOr, bYes, dAnd, dOr, dNot, dIf, tName, gsNil, gsCons, gTupD, Dn.tSub, Dn.valOf, asB, ownAt, asI, isPin, sl, dCut, iOf, iNo, fin, endV, runP, runF, runV, runW, startR, startV, dEmp, dChain, res, truR, Dn.tru, itemsOf, sNone, sSeq, sRg1, sRg2, sZip, sEnum, sFor, dApp, dPop, sBrk, sCnt, isNone, atI0, atI1, atI2, ixN3_0, ixN3_1, ixN3_2, ixN2_0, ixN2_1, noPins, e_add, e_addT, e_addL, e_sub, e_mul, e_mulL, e_mulT, e_div, e_mod, e_neg, e_eqI, e_neI, e_eqB, e_eqT, e_eqL, e_neT, e_neL, e_cmp, e_is, e_isnot, e_ixL, e_ixT, e_lenL, e_lenT, e_tupL, e_tupT, e_lstL, e_lstT, e_int, e_intB, e_abs, e_sum, e_divmod, e_gcd, e_max, e_min, e_isi, e_cutL, e_cutT, c, wipeR, x_cup, e1, hb]
abbrev stB : TSD := (sAsgT (dCons (dOp pIx (dCons (dLoc 6) (dCons (dCon (.int 0)) dNil))) (dCons (dLst dNil) dNil)) 2 (gsCons (tName 9) (gsCons (tName 11) gsNil)))
abbrev stC : TSD := (sAsg (dCut (dLoc 6) (iOf (dCon (.int 1))) iNo) (tName 6))
abbrev stD : TSD := (sAsg (dIf (bTru (dLoc 7)) (dCallV F__law_cup (dCons (dLoc 0) (dCons (dLoc 1) dNil))) (dLoc 9)) (tName 9))
theorem ordB {b n : Nat} {xs : List D} {o : List Nat} {w : Bool} {s6 x2 x3 x4 x5 x8 x9 xa xb : Option Slot} (rest : TSD) (h1 : 1 ≤ n) (hn : n ≤ 1000) (ho : ∀ x ∈ o, x < n) (hne : o ≠ []) (h6 : s6 = some (.own false (o.map nD)) ∨ s6 = some (.val (.list (o.map nD)))) (v : VI (b + 1) xs) (n9 : nfS x9 = true) (nb : nfS xb = true) :
    ∃ (xs' : List D) (o' : List Nat) (u : Nat), sSeq2 stB (sSeq2 stC (sSeq2 stD rest)) [some (.own true xs), some (.val (.int (n : Int))), x2, x3, x4, x5, s6, some (.val (.bool w)), x8, x9, xa, xb, none] =
      rest [some (.own true xs'), some (.val (.int (n : Int))), x2, x3, x4, x5, some (.own false (o'.map nD)), some (.val (.bool w)), x8, some (.val (.int ((u : Nat) : Int))), xa, some (.own false []), none] ∧ u < n ∧ (∀ x ∈ o', x < n) ∧ VI b xs' := by
  obtain ⟨a, o, rfl⟩ : ∃ a o', o = a :: o' := by
    cases o with
    | nil => exact absurd rfl hne
    | cons a o => exact ⟨a, o, rfl⟩
  have ip9 := nf_isPin n9
  have ipb := nf_isPin nb
  unfold isPin at ip9 ipb
  obtain ⟨i, x1, e1, i0, i1, v1⟩ := cup_spec (b := b) (m := (n : Int)) v (by omega) (by omega)
  have eB : stB [some (.own true xs), some (.val (.int (n : Int))), x2, x3, x4, x5, s6, some (.val (.bool w)), x8, x9, xa, xb, none] =
      some (.nx [some (.own true xs), some (.val (.int (n : Int))), x2, x3, x4, x5, s6, some (.val (.bool w)), x8, some (.val (.int (a : Int))), xa, some (.own false []), none]) := by
    rcases h6 with rfl | rfl <;> simp [dLoc, dCon, dNil, dCons, dOp, dTup, dLst, looks, look, frz, dCall, dCallV, dCallK, reord, sSeq2, sSkip, sExp, sRet, sRetN, sIf, sAsg, sAsgT, bVal, bTru, bNot, bAnd, bOr, bYes, dAnd, dOr, dNot, dIf, tName, gsNil, gsCons, gTupD, Dn.tSub, Dn.valOf, asB, ownAt, asI, isPin, sl, dCut, iOf, iNo, fin, endV, runP, runF, runV, runW, startR, startV, dEmp, dChain, res, truR, Dn.tru, itemsOf, sNone, sSeq, sRg1, sRg2, sZip, sEnum, sFor, dApp, dPop, sBrk, sCnt, isNone, atI0, atI1, atI2, ixN3_0, ixN3_1, ixN3_2, ixN2_0, ixN2_1, noPins, e_add, e_addT, e_addL, e_sub, e_mul, e_mulL, e_mulT, e_div, e_mod, e_neg, e_eqI, e_neI, e_eqB, e_eqT, e_eqL, e_neT, e_neL, e_cmp, e_is, e_isnot, e_ixL, e_ixT, e_lenL, e_lenT, e_tupL, e_tupT, e_lstL, e_lstT, e_int, e_intB, e_abs, e_sum, e_divmod, e_gcd, e_max, e_min, e_isi, e_cutL, e_cutT, ip9, ipb]
  have eC : stC [some (.own true xs), some (.val (.int (n : Int))), x2, x3, x4, x5, s6, some (.val (.bool w)), x8, some (.val (.int (a : Int))), xa, some (.own false []), none] =
      some (.nx [some (.own true xs), some (.val (.int (n : Int))), x2, x3, x4, x5, some (.own false (o.map nD)), some (.val (.bool w)), x8, some (.val (.int (a : Int))), xa, some (.own false []), none]) := by
    rcases h6 with rfl | rfl <;> simp [dLoc, dCon, dNil, dCons, dOp, dTup, dLst, looks, look, frz, dCall, dCallV, dCallK, reord, sSeq2, sSkip, sExp, sRet, sRetN, sIf, sAsg, sAsgT, bVal, bTru, bNot, bAnd, bOr, bYes, dAnd, dOr, dNot, dIf, tName, gsNil, gsCons, gTupD, Dn.tSub, Dn.valOf, asB, ownAt, asI, isPin, sl, dCut, iOf, iNo, fin, endV, runP, runF, runV, runW, startR, startV, dEmp, dChain, res, truR, Dn.tru, itemsOf, sNone, sSeq, sRg1, sRg2, sZip, sEnum, sFor, dApp, dPop, sBrk, sCnt, isNone, atI0, atI1, atI2, ixN3_0, ixN3_1, ixN3_2, ixN2_0, ixN2_1, noPins, e_add, e_addT, e_addL, e_sub, e_mul, e_mulL, e_mulT, e_div, e_mod, e_neg, e_eqI, e_neI, e_eqB, e_eqT, e_eqL, e_neT, e_neL, e_cmp, e_is, e_isnot, e_ixL, e_ixT, e_lenL, e_lenT, e_tupL, e_tupT, e_lstL, e_lstT, e_int, e_intB, e_abs, e_sum, e_divmod, e_gcd, e_max, e_min, e_isi, e_cutL, e_cutT, cut1]
  rw [seq_nx eB, seq_nx eC]
  cases w with
  | true =>
    obtain ⟨u, rfl⟩ : ∃ u : Nat, i = (u : Int) := ⟨i.toNat, by omega⟩
    refine ⟨x1, o, u, ?_, by omega, fun x hx => ho x (List.mem_cons_of_mem _ hx), v1⟩
    exact seq_nx (by simp [dLoc, dCon, dNil, dCons, dOp, dTup, dLst, looks, look, frz, dCall, dCallV, dCallK, reord, sSeq2, sSkip, sExp, sRet, sRetN, sIf, sAsg, sAsgT, bVal, bTru, bNot, bAnd, bOr, bYes, dAnd, dOr, dNot, dIf, tName, gsNil, gsCons, gTupD, Dn.tSub, Dn.valOf, asB, ownAt, asI, isPin, sl, dCut, iOf, iNo, fin, endV, runP, runF, runV, runW, startR, startV, dEmp, dChain, res, truR, Dn.tru, itemsOf, sNone, sSeq, sRg1, sRg2, sZip, sEnum, sFor, dApp, dPop, sBrk, sCnt, isNone, atI0, atI1, atI2, ixN3_0, ixN3_1, ixN3_2, ixN2_0, ixN2_1, noPins, e_add, e_addT, e_addL, e_sub, e_mul, e_mulL, e_mulT, e_div, e_mod, e_neg, e_eqI, e_neI, e_eqB, e_eqT, e_eqL, e_neT, e_neL, e_cmp, e_is, e_isnot, e_ixL, e_ixT, e_lenL, e_lenT, e_tupL, e_tupT, e_lstL, e_lstT, e_int, e_intB, e_abs, e_sum, e_divmod, e_gcd, e_max, e_min, e_isi, e_cutL, e_cutT, x_cup, e1])
  | false =>
    refine ⟨xs, o, a, ?_, ho a List.mem_cons_self, fun x hx => ho x (List.mem_cons_of_mem _ hx), v.less (by omega)⟩
    exact seq_nx (by simp [dLoc, dCon, dNil, dCons, dOp, dTup, dLst, looks, look, frz, dCall, dCallV, dCallK, reord, sSeq2, sSkip, sExp, sRet, sRetN, sIf, sAsg, sAsgT, bVal, bTru, bNot, bAnd, bOr, bYes, dAnd, dOr, dNot, dIf, tName, gsNil, gsCons, gTupD, Dn.tSub, Dn.valOf, asB, ownAt, asI, isPin, sl, dCut, iOf, iNo, fin, endV, runP, runF, runV, runW, startR, startV, dEmp, dChain, res, truR, Dn.tru, itemsOf, sNone, sSeq, sRg1, sRg2, sZip, sEnum, sFor, dApp, dPop, sBrk, sCnt, isNone, atI0, atI1, atI2, ixN3_0, ixN3_1, ixN3_2, ixN2_0, ixN2_1, noPins, e_add, e_addT, e_addL, e_sub, e_mul, e_mulL, e_mulT, e_div, e_mod, e_neg, e_eqI, e_neI, e_eqB, e_eqT, e_eqL, e_neT, e_neL, e_cmp, e_is, e_isnot, e_ixL, e_ixT, e_lenL, e_lenT, e_tupL, e_tupT, e_lstL, e_lstT, e_int, e_intB, e_abs, e_sum, e_divmod, e_gcd, e_max, e_min, e_isi, e_cutL, e_cutT])
abbrev bodyK : TSD := (sSeq2 (sExp (dApp 11 (dOp pMax (dCons (dCon (.int 0)) (dCons (dOp pSub (dCons (dOp pIx (dCons (dLoc 5) (dCons (dLoc 10) dNil))) (dCons (dCallV F__law_cup (dCons (dLoc 0) (dCons (dLoc 8) dNil))) dNil))) dNil)))))
  sSkip)
theorem picks {b n old : Nat} {xs : List D} {ls : List Nat} {x2 x3 x4 x6 x7 x9 xa : Option Slot} (hn : n ≤ 1000) (hl : ls.length = n) (o1 : 1 ≤ old) (o2 : old ≤ 3) (v : VI (b + n) xs) (na : nfS xa = true) :
    ∃ (xs' : List D) (ps : List Nat) (xa' : Option Slot), loopF (tName 10) bodyK ((List.range n).map nD) [some (.own true xs), some (.val (.int (n : Int))), x2, x3, x4, some (.own false (ls.map nD)), x6, x7, some (.val (.int (old : Int))), x9, xa, some (.own false []), none] =
      some (.nx [some (.own true xs'), some (.val (.int (n : Int))), x2, x3, x4, some (.own false (ls.map nD)), x6, x7, some (.val (.int (old : Int))), x9, xa', some (.own false (List.map nD ps)), none]) ∧ ps.length = n ∧ (∀ (j : Nat) p c, ps[j]? = some p → ls[j]? = some c → p ≤ c) ∧ nfS xa' = true ∧ VI b xs' := by
  obtain ⟨ρ', e, xs', ps, xa', e2, h1, h2, h3, h4⟩ := loopF_inv (tgt := tName 10) (body := bodyK) (ds := (List.range n).map nD)
    (ρ := [some (.own true xs), some (.val (.int (n : Int))), x2, x3, x4, some (.own false (ls.map nD)), x6, x7, some (.val (.int (old : Int))), x9, xa, some (.own false []), none])
    (Inv := fun ds ρ => ∃ (xs' : List D) (ps : List Nat) (xa' : Option Slot), ρ = [some (.own true xs'), some (.val (.int (n : Int))), x2, x3, x4, some (.own false (ls.map nD)), x6, x7, some (.val (.int (old : Int))), x9, xa', some (.own false (List.map nD ps)), none] ∧ (ps.length ≤ n ∧ ds = ((List.range n).drop ps.length).map nD) ∧ (∀ (j : Nat) p c, ps[j]? = some p → ls[j]? = some c → p ≤ c) ∧ nfS xa' = true ∧ VI (b + ds.length) xs')
    (fun d ds ρ h => by
      obtain ⟨x1, ps, y, rfl, ⟨hp, hd⟩, hq, ny, vv⟩ := h
      have hlt : ps.length < n := by
        by_cases z : ps.length < n
        · exact z
        · have : (List.range n).drop ps.length = [] := List.drop_eq_nil_of_le (by simp; omega)
          rw [this] at hd; cases hd
      rw [List.drop_eq_getElem_cons (by simpa using hlt), List.map_cons, List.getElem_range] at hd
      obtain ⟨rfl, rfl⟩ := List.cons.inj hd
      obtain ⟨i, x2', e1, i0, i1, v2⟩ := cup_spec (b := b + (((List.range n).drop (ps.length + 1)).map nD).length) (m := (old : Int)) (xs := x1) (by rw [List.length_cons] at vv; exact vv) (by omega) (by omega)
      have ip := nf_isPin ny
      unfold isPin at ip
      have ix := ix_n (l := ls) (i := (ps.length : Int)) rfl (by omega)
      have hz : (List.map nD ps).length < 1000000 := by rw [List.length_map]; omega
      have hm : pMax [.int 0, .int (((ls.getD ps.length 0 : Nat) : Int) - i)] = some (.v (nD (((ls.getD ps.length 0 : Nat) : Int) - i).toNat)) := by
        rw [e_max]
        congr 2
        show PyData.int _ = PyData.int _
        congr 1
        split <;> omega
      refine ⟨[some (.own true x1), some (.val (.int (n : Int))), x2, x3, x4, some (.own false (ls.map nD)), x6, x7, some (.val (.int (old : Int))), x9, some (.val (nD ps.length)), some (.own false (List.map nD ps)), none],
        [some (.own true x2'), some (.val (.int (n : Int))), x2, x3, x4, some (.own false (ls.map nD)), x6, x7, some (.val (.int (old : Int))), x9, some (.val (nD ps.length)), some (.own false (List.map nD (ps ++ [(((ls.getD ps.length 0 : Nat) : Int) - i).toNat]))), none], by simp [dLoc, dCon, dNil, dCons, dOp, dTup, dLst, looks, look, frz, dCall, dCallV, dCallK, reord, sSeq2, sSkip, sExp, sRet, sRetN, sIf, sAsg, sAsgT, bVal, bTru, bNot, bAnd, bOr, bYes, dAnd, dOr, dNot, dIf, tName, gsNil, gsCons, gTupD, Dn.tSub, Dn.valOf, asB, ownAt, asI, isPin, sl, dCut, iOf, iNo, fin, endV, runP, runF, runV, runW, startR, startV, dEmp, dChain, res, truR, Dn.tru, itemsOf, sNone, sSeq, sRg1, sRg2, sZip, sEnum, sFor, dApp, dPop, sBrk, sCnt, isNone, atI0, atI1, atI2, ixN3_0, ixN3_1, ixN3_2, ixN2_0, ixN2_1, noPins, e_add, e_addT, e_addL, e_sub, e_mul, e_mulL, e_mulT, e_div, e_mod, e_neg, e_eqI, e_neI, e_eqB, e_eqT, e_eqL, e_neT, e_neL, e_cmp, e_is, e_isnot, e_ixL, e_ixT, e_lenL, e_lenT, e_tupL, e_tupT, e_lstL, e_lstT, e_int, e_intB, e_abs, e_sum, e_divmod, e_gcd, e_max, e_min, e_isi, e_cutL, e_cutT, ip], ?_, x2', ps ++ [(((ls.getD ps.length 0 : Nat) : Int) - i).toNat], some (.val (nD ps.length)), rfl, ⟨by simp; omega, by simp⟩, fun j p c hj hc => ?_, rfl, v2⟩
      · rw [List.map_append, List.map_singleton]
        generalize ls.getD ps.length 0 = q at ix hm ⊢
        generalize (((q : Nat) : Int) - i).toNat = z at hm ⊢
        simp [dLoc, dCon, dNil, dCons, dOp, dTup, dLst, looks, look, frz, dCall, dCallV, dCallK, reord, sSeq2, sSkip, sExp, sRet, sRetN, sIf, sAsg, sAsgT, bVal, bTru, bNot, bAnd, bOr, bYes, dAnd, dOr, dNot, dIf, tName, gsNil, gsCons, gTupD, Dn.tSub, Dn.valOf, asB, ownAt, asI, isPin, sl, dCut, iOf, iNo, fin, endV, runP, runF, runV, runW, startR, startV, dEmp, dChain, res, truR, Dn.tru, itemsOf, sNone, sSeq, sRg1, sRg2, sZip, sEnum, sFor, dApp, dPop, sBrk, sCnt, isNone, atI0, atI1, atI2, ixN3_0, ixN3_1, ixN3_2, ixN2_0, ixN2_1, noPins, e_add, e_addT, e_addL, e_sub, e_mul, e_mulL, e_mulT, e_div, e_mod, e_neg, e_eqI, e_neI, e_eqB, e_eqT, e_eqL, e_neT, e_neL, e_cmp, e_is, e_isnot, e_ixL, e_ixT, e_lenL, e_lenT, e_tupL, e_tupT, e_lstL, e_lstT, e_int, e_intB, e_abs, e_sum, e_divmod, e_gcd, e_max, e_min, e_isi, e_cutL, e_cutT, ix, x_cup, e1, hm, hz, -List.length_map, -e_max]
      · by_cases hjl : j < ps.length
        · rw [List.getElem?_append_left hjl] at hj
          exact hq j p c hj hc
        · have hjl2 := (List.getElem?_eq_some_iff.mp hj).1
          have hje : j = ps.length := by simp at hjl2; omega
          subst hje
          have hp2 : p = (((ls.getD ps.length 0 : Nat) : Int) - i).toNat := by simpa using hj.symm
          rw [List.getD_eq_getElem?_getD, hc] at hp2
          simp only [Option.getD_some] at hp2
          omega) ⟨xs, [], xa, rfl, ⟨by simp, by simp⟩, fun j p c h => by simp at h, na, by simpa using v⟩
  subst e2
  refine ⟨xs', ps, xa', e, ?_, h2, h3, by simpa using h4⟩
  have := congrArg List.length h1.2
  simp at this
  omega
end K48

set_option Elab.async false
set_option linter.all false
set_option maxRecDepth 100000
set_option maxHeartbeats 4000000
namespace K48
open PySem PySem.Spec PyProof.Rows L2 Dn Pl

theorem cut_take {α : Type} (l : List α) (k : Nat) : Dn.cutD l none (some (k : Int)) = l.take k := by
  unfold Dn.cutD
  rw [HT.sIx_none, HT.sIx_nat, List.drop_zero, Nat.sub_zero, ← List.take_eq_take_min]
theorem p18 : pPow [.int 10, .int 18] = some (.v (.int 1000000000000000000)) := e_pow (by decide) (by decide) (by decide)
theorem vat_spec (ns : List Int) (lap : Nat) (h : lap < 2) : ∃ xs, F__law_vat [.list (ns.map .int), .int (lap : Int)] = some (.o xs) ∧ VI 1000000 xs := by
  have f0 : ∀ x : Int, x.fmod 2147483353 = x % 2147483353 := fun x => Int.fmod_eq_emod_of_nonneg _ (by decide)
  have f1 : ∀ x : Int, x.fmod 999631 = x % 999631 := fun x => Int.fmod_eq_emod_of_nonneg _ (by decide)
  have c6 : Dn.cutD (ns.map PyData.int) none (some 6) = (ns.take 6).map PyData.int := by rw [show (6 : Int) = ((6 : Nat) : Int) from rfl, cut_take, List.map_take]
  have c10 : Dn.cutD (ns.map PyData.int) none (some 10) = (ns.take 10).map PyData.int := by rw [show (10 : Int) = ((10 : Nat) : Int) from rfl, cut_take, List.map_take]
  have bl : Bd 1 (lap : Int) := by unfold Bd; omega
  have m1 : mulOk 9091 (lap : Int) = true := mul_ok (n := 14) (Bd.nat (by decide) (by decide)) bl (by decide)
  have m2 : mulOk 1867 (lap : Int) = true := mul_ok (n := 11) (Bd.nat (by decide) (by decide)) bl (by decide)
  obtain ⟨own, eo⟩ : ∃ own : Int, (dIf (bVal (dOp pLt (dCons (dLoc 1) (dCons (dOp pLen (dCons (dLoc 0) dNil)) dNil)))) (dOp pInt (dCons (dOp pIx (dCons (dLoc 0) (dCons (dLoc 1) dNil))) dNil)) (dOp pAdd (dCons (dOp pAdd (dCons (dOp pMul (dCons (dCon (.int 9091)) (dCons (dLoc 1) dNil))) (dCons (dCon (.int 283)) dNil))) (dCons (dOp pMod (dCons (dOp pInt (dCons (dOp pSum (dCons (dCut (dLoc 0) iNo (iOf (dCon (.int 6)))) dNil)) dNil)) (dCons (dCon (.int 999631)) dNil))) dNil))))
      [some (.val (.list (ns.map .int))), some (.val (.int (lap : Int))), none, none, none] = some (.v (.int own), [some (.val (.list (ns.map .int))), some (.val (.int (lap : Int))), none, none, none]) := by
    by_cases z : lap < ns.length
    · have z' : decide ((lap : Int) < (ns.length : Int)) = true := decide_eq_true (by omega)
      have ix : atI (ns.map PyData.int) (lap : Int) = some (.int ns[lap]) := by rw [atI_at rfl, List.getElem?_map, List.getElem?_eq_getElem z]; rfl
      exact ⟨ns[lap], by simp [dLoc, dCon, dNil, dCons, dOp, dTup, dLst, looks, look, frz, dCall, dCallV, dCallK, reord, sSeq2, sSkip, sExp, sRet, sRetN, sIf, sAsg, sAsgT, bVal, bTru, bNot, bAnd, bOr, bYes, dAnd, dOr, dNot, dIf, tName, gsNil, gsCons, gTupD, Dn.tSub, Dn.valOf, asB, ownAt, asI, isPin, sl, dCut, iOf, iNo, fin, endV, runP, runF, runV, runW, startR, startV, dEmp, dChain, res, truR, Dn.tru, itemsOf, sNone, sSeq, sRg1, sRg2, sZip, sEnum, sFor, dApp, dPop, sBrk, sCnt, isNone, atI0, atI1, atI2, ixN3_0, ixN3_1, ixN3_2, ixN2_0, ixN2_1, noPins, e_add, e_addT, e_addL, e_sub, e_mul, e_mulL, e_mulT, e_div, e_mod, e_neg, e_eqI, e_neI, e_eqB, e_eqT, e_eqL, e_neT, e_neL, e_cmp, e_is, e_isnot, e_ixL, e_ixT, e_lenL, e_lenT, e_tupL, e_tupT, e_lstL, e_lstT, e_int, e_intB, e_abs, e_sum, e_divmod, e_gcd, e_max, e_min, e_isi, e_cutL, e_cutT, z, ix]⟩
    · exact ⟨9091 * lap + 283 + (ns.take 6).sum % 999631, by simp [dLoc, dCon, dNil, dCons, dOp, dTup, dLst, looks, look, frz, dCall, dCallV, dCallK, reord, sSeq2, sSkip, sExp, sRet, sRetN, sIf, sAsg, sAsgT, bVal, bTru, bNot, bAnd, bOr, bYes, dAnd, dOr, dNot, dIf, tName, gsNil, gsCons, gTupD, Dn.tSub, Dn.valOf, asB, ownAt, asI, isPin, sl, dCut, iOf, iNo, fin, endV, runP, runF, runV, runW, startR, startV, dEmp, dChain, res, truR, Dn.tru, itemsOf, sNone, sSeq, sRg1, sRg2, sZip, sEnum, sFor, dApp, dPop, sBrk, sCnt, isNone, atI0, atI1, atI2, ixN3_0, ixN3_1, ixN3_2, ixN2_0, ixN2_1, noPins, e_add, e_addT, e_addL, e_sub, e_mul, e_mulL, e_mulT, e_div, e_mod, e_neg, e_eqI, e_neI, e_eqB, e_eqT, e_eqL, e_neT, e_neL, e_cmp, e_is, e_isnot, e_ixL, e_ixT, e_lenL, e_lenT, e_tupL, e_tupT, e_lstL, e_lstT, e_int, e_intB, e_abs, e_sum, e_divmod, e_gcd, e_max, e_min, e_isi, e_cutL, e_cutT, z, c6, m1, f1, -List.map_take]⟩
  have key := loopF_inv (tgt := tName 4) (body := (sSeq2 (sAsg (dOp pMod (dCons (dOp pInt (dCons (dOp pAdd (dCons (dOp pAdd (dCons (dOp pMul (dCons (dLoc 3) (dCons (dCon (.int 44129)) dNil))) (dCons (dOp pMod (dCons (dOp pInt (dCons (dLoc 4) dNil)) (dCons (dCon (.int 2147483353)) dNil))) dNil))) (dCons (dCon (.int 37)) dNil))) dNil)) (dCons (dCon (.int 2147483353)) dNil))) (tName 3)) sSkip))
    (ds := (ns.take 10).map PyData.int ++ [.int own]) (ρ := [some (.val (.list (ns.map .int))), some (.val (.int (lap : Int))), some (.val (.int own)), some (.val (.int (163003 + 1867 * (lap : Int)))), none])
    (Inv := fun ds ρ => ∃ (st : Int) (e : Option D), ρ = [some (.val (.list (ns.map .int))), some (.val (.int (lap : Int))), some (.val (.int own)), some (.val (.int st)), e.map Slot.val] ∧ 0 ≤ st ∧ st < 2147483353 ∧ ∀ d ∈ ds, ∃ i, d = .int i)
    (fun d ds ρ i => by
      obtain ⟨st, e, rfl, s0, s1, hd⟩ := i
      obtain ⟨k, rfl⟩ := hd d List.mem_cons_self
      have m3 : mulOk st 44129 = true := mul_ok (n := 31) (m := 16) (Bd.nat s0 (by omega)) (Bd.nat (by decide) (by decide)) (by decide)
      refine ⟨[some (.val (.list (ns.map .int))), some (.val (.int (lap : Int))), some (.val (.int own)), some (.val (.int st)), some (.val (.int k))], [some (.val (.list (ns.map .int))), some (.val (.int (lap : Int))), some (.val (.int own)), some (.val (.int ((st * 44129 + k % 2147483353 + 37) % 2147483353))), some (.val (.int k))], by cases e <;> simp [dLoc, dCon, dNil, dCons, dOp, dTup, dLst, looks, look, frz, dCall, dCallV, dCallK, reord, sSeq2, sSkip, sExp, sRet, sRetN, sIf, sAsg, sAsgT, bVal, bTru, bNot, bAnd, bOr, bYes, dAnd, dOr, dNot, dIf, tName, gsNil, gsCons, gTupD, Dn.tSub, Dn.valOf, asB, ownAt, asI, isPin, sl, dCut, iOf, iNo, fin, endV, runP, runF, runV, runW, startR, startV, dEmp, dChain, res, truR, Dn.tru, itemsOf, sNone, sSeq, sRg1, sRg2, sZip, sEnum, sFor, dApp, dPop, sBrk, sCnt, isNone, atI0, atI1, atI2, ixN3_0, ixN3_1, ixN3_2, ixN2_0, ixN2_1, noPins, e_add, e_addT, e_addL, e_sub, e_mul, e_mulL, e_mulT, e_div, e_mod, e_neg, e_eqI, e_neI, e_eqB, e_eqT, e_eqL, e_neT, e_neL, e_cmp, e_is, e_isnot, e_ixL, e_ixT, e_lenL, e_lenT, e_tupL, e_tupT, e_lstL, e_lstT, e_int, e_intB, e_abs, e_sum, e_divmod, e_gcd, e_max, e_min, e_isi, e_cutL, e_cutT], by simp [dLoc, dCon, dNil, dCons, dOp, dTup, dLst, looks, look, frz, dCall, dCallV, dCallK, reord, sSeq2, sSkip, sExp, sRet, sRetN, sIf, sAsg, sAsgT, bVal, bTru, bNot, bAnd, bOr, bYes, dAnd, dOr, dNot, dIf, tName, gsNil, gsCons, gTupD, Dn.tSub, Dn.valOf, asB, ownAt, asI, isPin, sl, dCut, iOf, iNo, fin, endV, runP, runF, runV, runW, startR, startV, dEmp, dChain, res, truR, Dn.tru, itemsOf, sNone, sSeq, sRg1, sRg2, sZip, sEnum, sFor, dApp, dPop, sBrk, sCnt, isNone, atI0, atI1, atI2, ixN3_0, ixN3_1, ixN3_2, ixN2_0, ixN2_1, noPins, e_add, e_addT, e_addL, e_sub, e_mul, e_mulL, e_mulT, e_div, e_mod, e_neg, e_eqI, e_neI, e_eqB, e_eqT, e_eqL, e_neT, e_neL, e_cmp, e_is, e_isnot, e_ixL, e_ixT, e_lenL, e_lenT, e_tupL, e_tupT, e_lstL, e_lstT, e_int, e_intB, e_abs, e_sum, e_divmod, e_gcd, e_max, e_min, e_isi, e_cutL, e_cutT, m3, f0], _, some (.int k), rfl, Int.emod_nonneg _ (by decide), Int.emod_lt_of_pos _ (by decide), fun d hd' => hd d (List.mem_cons_of_mem _ hd')⟩) ⟨_, none, rfl, by omega, by omega, fun d hd => by
        rcases List.mem_append.mp hd with hd | hd
        · obtain ⟨i, _, rfl⟩ := List.mem_map.mp hd; exact ⟨i, rfl⟩
        · exact ⟨own, List.mem_singleton.mp hd⟩⟩
  obtain ⟨ρ', e, st, el, e2, s0, s1, _⟩ := key
  subst e2
  have ad : pAdd [.list ((ns.take 10).map PyData.int), .list [.int own]] = some (.o ((ns.take 10).map PyData.int ++ [.int own])) := e_addL (by simp; omega)
  have o1 : pLt [.int own, .int 0] = some (.v (.bool (decide (own < 0)))) := rfl
  refine ⟨[.int (if own < 0 ∨ 1000000000000000000 ≤ own then (if own < 0 then -own else own) else 0), .int st, .int 0], ?_, _, st, 0, rfl, ?_, s0, s1, by decide, by decide⟩
  · have sA : ∀ R : TSD, sSeq2 (sAsg (dIf (bVal (dOp pLt (dCons (dLoc 1) (dCons (dOp pLen (dCons (dLoc 0) dNil)) dNil)))) (dOp pInt (dCons (dOp pIx (dCons (dLoc 0) (dCons (dLoc 1) dNil))) dNil)) (dOp pAdd (dCons (dOp pAdd (dCons (dOp pMul (dCons (dCon (.int 9091)) (dCons (dLoc 1) dNil))) (dCons (dCon (.int 283)) dNil))) (dCons (dOp pMod (dCons (dOp pInt (dCons (dOp pSum (dCons (dCut (dLoc 0) iNo (iOf (dCon (.int 6)))) dNil)) dNil)) (dCons (dCon (.int 999631)) dNil))) dNil)))) (tName 2)) R [some (.val (.list (ns.map .int))), some (.val (.int (lap : Int))), none, none, none] = R [some (.val (.list (ns.map .int))), some (.val (.int (lap : Int))), some (.val (.int own)), none, none] := fun R => by
      have a : sAsg (dIf (bVal (dOp pLt (dCons (dLoc 1) (dCons (dOp pLen (dCons (dLoc 0) dNil)) dNil)))) (dOp pInt (dCons (dOp pIx (dCons (dLoc 0) (dCons (dLoc 1) dNil))) dNil)) (dOp pAdd (dCons (dOp pAdd (dCons (dOp pMul (dCons (dCon (.int 9091)) (dCons (dLoc 1) dNil))) (dCons (dCon (.int 283)) dNil))) (dCons (dOp pMod (dCons (dOp pInt (dCons (dOp pSum (dCons (dCut (dLoc 0) iNo (iOf (dCon (.int 6)))) dNil)) dNil)) (dCons (dCon (.int 999631)) dNil))) dNil)))) (tName 2) [some (.val (.list (ns.map .int))), some (.val (.int (lap : Int))), none, none, none] = some (.nx [some (.val (.list (ns.map .int))), some (.val (.int (lap : Int))), some (.val (.int own)), none, none]) := by
        unfold sAsg
        rw [eo]
        simp [dLoc, dCon, dNil, dCons, dOp, dTup, dLst, looks, look, frz, dCall, dCallV, dCallK, reord, sSeq2, sSkip, sExp, sRet, sRetN, sIf, sAsg, sAsgT, bVal, bTru, bNot, bAnd, bOr, bYes, dAnd, dOr, dNot, dIf, tName, gsNil, gsCons, gTupD, Dn.tSub, Dn.valOf, asB, ownAt, asI, isPin, sl, dCut, iOf, iNo, fin, endV, runP, runF, runV, runW, startR, startV, dEmp, dChain, res, truR, Dn.tru, itemsOf, sNone, sSeq, sRg1, sRg2, sZip, sEnum, sFor, dApp, dPop, sBrk, sCnt, isNone, atI0, atI1, atI2, ixN3_0, ixN3_1, ixN3_2, ixN2_0, ixN2_1, noPins, e_add, e_addT, e_addL, e_sub, e_mul, e_mulL, e_mulT, e_div, e_mod, e_neg, e_eqI, e_neI, e_eqB, e_eqT, e_eqL, e_neT, e_neL, e_cmp, e_is, e_isnot, e_ixL, e_ixT, e_lenL, e_lenT, e_tupL, e_tupT, e_lstL, e_lstT, e_int, e_intB, e_abs, e_sum, e_divmod, e_gcd, e_max, e_min, e_isi, e_cutL, e_cutT]
      unfold sSeq2
      rw [a]
    have st0 : startR 5 [.list (ns.map .int), .int (lap : Int)] = [some (.val (.list (ns.map .int))), some (.val (.int (lap : Int))), none, none, none] := rfl
    have hl : ([PyData.list (ns.map .int), .int (lap : Int)] : List D).length = 2 := rfl
    simp only [F__law_vat, runF, runP, d__law_vat]
    rw [st0, sA, if_pos hl]
    by_cases z1 : own < 0
    · simp [dLoc, dCon, dNil, dCons, dOp, dTup, dLst, looks, look, frz, dCall, dCallV, dCallK, reord, sSeq2, sSkip, sExp, sRet, sRetN, sIf, sAsg, sAsgT, bVal, bTru, bNot, bAnd, bOr, bYes, dAnd, dOr, dNot, dIf, tName, gsNil, gsCons, gTupD, Dn.tSub, Dn.valOf, asB, ownAt, asI, isPin, sl, dCut, iOf, iNo, fin, endV, runP, runF, runV, runW, startR, startV, dEmp, dChain, res, truR, Dn.tru, itemsOf, sNone, sSeq, sRg1, sRg2, sZip, sEnum, sFor, dApp, dPop, sBrk, sCnt, isNone, atI0, atI1, atI2, ixN3_0, ixN3_1, ixN3_2, ixN2_0, ixN2_1, noPins, e_add, e_addT, e_addL, e_sub, e_mul, e_mulL, e_mulT, e_div, e_mod, e_neg, e_eqI, e_neI, e_eqB, e_eqT, e_eqL, e_neT, e_neL, e_cmp, e_is, e_isnot, e_ixL, e_ixT, e_lenL, e_lenT, e_tupL, e_tupT, e_lstL, e_lstT, e_int, e_intB, e_abs, e_sum, e_divmod, e_gcd, e_max, e_min, e_isi, e_cutL, e_cutT, m2, c10, ad, e, p18, z1, -List.map_take]
    · by_cases z2 : (1000000000000000000 : Int) ≤ own
      · simp [dLoc, dCon, dNil, dCons, dOp, dTup, dLst, looks, look, frz, dCall, dCallV, dCallK, reord, sSeq2, sSkip, sExp, sRet, sRetN, sIf, sAsg, sAsgT, bVal, bTru, bNot, bAnd, bOr, bYes, dAnd, dOr, dNot, dIf, tName, gsNil, gsCons, gTupD, Dn.tSub, Dn.valOf, asB, ownAt, asI, isPin, sl, dCut, iOf, iNo, fin, endV, runP, runF, runV, runW, startR, startV, dEmp, dChain, res, truR, Dn.tru, itemsOf, sNone, sSeq, sRg1, sRg2, sZip, sEnum, sFor, dApp, dPop, sBrk, sCnt, isNone, atI0, atI1, atI2, ixN3_0, ixN3_1, ixN3_2, ixN2_0, ixN2_1, noPins, e_add, e_addT, e_addL, e_sub, e_mul, e_mulL, e_mulT, e_div, e_mod, e_neg, e_eqI, e_neI, e_eqB, e_eqT, e_eqL, e_neT, e_neL, e_cmp, e_is, e_isnot, e_ixL, e_ixT, e_lenL, e_lenT, e_tupL, e_tupT, e_lstL, e_lstT, e_int, e_intB, e_abs, e_sum, e_divmod, e_gcd, e_max, e_min, e_isi, e_cutL, e_cutT, m2, c10, ad, e, p18, z1, z2, -List.map_take]
      · simp [dLoc, dCon, dNil, dCons, dOp, dTup, dLst, looks, look, frz, dCall, dCallV, dCallK, reord, sSeq2, sSkip, sExp, sRet, sRetN, sIf, sAsg, sAsgT, bVal, bTru, bNot, bAnd, bOr, bYes, dAnd, dOr, dNot, dIf, tName, gsNil, gsCons, gTupD, Dn.tSub, Dn.valOf, asB, ownAt, asI, isPin, sl, dCut, iOf, iNo, fin, endV, runP, runF, runV, runW, startR, startV, dEmp, dChain, res, truR, Dn.tru, itemsOf, sNone, sSeq, sRg1, sRg2, sZip, sEnum, sFor, dApp, dPop, sBrk, sCnt, isNone, atI0, atI1, atI2, ixN3_0, ixN3_1, ixN3_2, ixN2_0, ixN2_1, noPins, e_add, e_addT, e_addL, e_sub, e_mul, e_mulL, e_mulT, e_div, e_mod, e_neg, e_eqI, e_neI, e_eqB, e_eqT, e_eqL, e_neT, e_neL, e_cmp, e_is, e_isnot, e_ixL, e_ixT, e_lenL, e_lenT, e_tupL, e_tupT, e_lstL, e_lstT, e_int, e_intB, e_abs, e_sum, e_divmod, e_gcd, e_max, e_min, e_isi, e_cutL, e_cutT, m2, c10, ad, e, p18, z1, z2, -List.map_take]
  · split
    · split <;> omega
    · omega

/-! ### the drawn steps -/
abbrev stF : TSD := (sExp (dApp 4 (dTup (dCons (dLoc 9) (dCons (dOp pTuple (dCons (dLoc 11) dNil)) dNil)))))
abbrev stG : TSD := (sAsg (dOp pAdd (dCons (dOp pIx (dCons (dLoc 5) (dCons (dLoc 9) dNil))) (dCons (dCon (.int 1)) dNil))) (tSub 5 (dLoc 9)))
abbrev bodyL : TSD := (sSeq2 stA (sSeq2 stB (sSeq2 stC (sSeq2 stD (sSeq2 (sFor (sRg1 (dLoc 1)) (tName 10) bodyK) (sSeq2 stF (sSeq2 stG sSkip)))))))
theorem upC_map {ls : List Nat} {u : Nat} (h : u < ls.length) : (upC ls u).map (· + 1) = upC (ls.map (· + 1)) u := by
  unfold upC
  rw [List.map_set, List.getD_eq_getElem?_getD, List.getD_eq_getElem?_getD, List.getElem?_map, List.getElem?_eq_getElem h]
  rfl
theorem lap_loop {b n many old : Nat} {w : Bool} {xs : List D} (h1 : 1 ≤ n) (hn : n ≤ 5) (hm : many ≤ 200) (o1 : 1 ≤ old) (o2 : old ≤ 3) (v : VI (b + (n + 2) * many) xs) :
    ∃ (xs' : List D) (S : List Sp) (ρ' : Rho), loopF (tName 3) bodyL ((List.range many).map nD) [some (.own true xs), some (.val (.int (n : Int))), some (.val (.int (many : Int))), none, some (.own false []), some (.own false ((List.replicate n 1).map nD)), some (.own false []), some (.val (.bool w)), some (.val (.int (old : Int))), none, none, none, none] = some (.nx ρ') ∧
      (∃ r, ρ' = some (.own true xs') :: r ∧ ρ'[4]? = some (some (.own false (S.map stepD)))) ∧ S.length = many ∧ fits S (List.replicate n 2) ∧ VI b xs' := by
  obtain ⟨ρ', e, xs', S, ls, o, x3, x9, xa, xb, e2, h2, h3, h4, h5, h6, h7, n3, n9, na, nb, _⟩ := loopF_inv (tgt := tName 3) (body := bodyL) (ds := (List.range many).map nD)
    (ρ := [some (.own true xs), some (.val (.int (n : Int))), some (.val (.int (many : Int))), none, some (.own false []), some (.own false ((List.replicate n 1).map nD)), some (.own false []), some (.val (.bool w)), some (.val (.int (old : Int))), none, none, none, none])
    (Inv := fun ds ρ => ∃ (xs' : List D) (S : List Sp) (ls o : List Nat) (x3 x9 xa xb : Option Slot), ρ = [some (.own true xs'), some (.val (.int (n : Int))), some (.val (.int (many : Int))), x3, some (.own false (List.map stepD S)), some (.own false (List.map nD ls)), some (.own false (List.map nD o)), some (.val (.bool w)), some (.val (.int (old : Int))), x9, xa, xb, none] ∧
      S.length + ds.length = many ∧ fits S (List.replicate n 2) ∧ aft S (List.replicate n 2) = ls.map (· + 1) ∧ ls.length = n ∧ (∀ x ∈ o, x < n) ∧ VI (b + (n + 2) * ds.length) xs' ∧ nfS x3 = true ∧ nfS x9 = true ∧ nfS xa = true ∧ nfS xb = true ∧ ∀ d ∈ ds, ∃ l : Nat, d = nD l ∧ l ≤ 1000)
    (fun d ds ρ h => by
      obtain ⟨x1, S, ls, o, x3, x9, xa, xb, rfl, h2, h3, h4, h5, h6, h7, n3, n9, na, nb, hd⟩ := h
      obtain ⟨l, rfl, hl⟩ := hd d List.mem_cons_self
      rw [List.length_cons] at h2 h7
      have ip := nf_isPin n3
      unfold isPin at ip
      have hv : VI ((b + (n + 2) * ds.length) + n + 1 + 1) x1 := h7.less (by rw [Nat.mul_add]; omega)
      obtain ⟨y1, o1', s6, eA, a1, a2, a3, v1⟩ := ordA (n := n) (lap := l) (o := o) (x2 := some (.val (.int (many : Int)))) (x4 := some (.own false (List.map stepD S))) (x5 := some (.own false (List.map nD ls))) (x7 := some (.val (.bool w))) (x8 := some (.val (.int (old : Int)))) (x9 := x9) (xa := xa) (xb := xb) h1 (by omega) hl h6 hv
      obtain ⟨y2, o2', u, eB, b1, b2, v2⟩ := ordB (n := n) (o := o1') (w := w) (s6 := s6) (x2 := some (.val (.int (many : Int)))) (x3 := some (.val (.int (l : Int)))) (x4 := some (.own false (List.map stepD S))) (x5 := some (.own false (List.map nD ls))) (x8 := some (.val (.int (old : Int)))) (x9 := x9) (xa := xa) (xb := xb)
        (sSeq2 (sFor (sRg1 (dLoc 1)) (tName 10) bodyK) (sSeq2 stF (sSeq2 stG sSkip))) h1 (by omega) a2 a1 a3 v1 n9 nb
      obtain ⟨y3, ps, xa', eK, p1, p2, p3, v3⟩ := picks (n := n) (old := old) (ls := ls) (x2 := some (.val (.int (many : Int)))) (x3 := some (.val (.int (l : Int)))) (x4 := some (.own false (List.map stepD S))) (x6 := some (.own false (List.map nD o2'))) (x7 := some (.val (.bool w))) (x9 := some (.val (.int ((u : Nat) : Int)))) (xa := xa) (b := b + (n + 2) * ds.length) (by omega) h5 o1 o2 v2 na
      have hu : u < ls.length := by omega
      have F1 : Fit1 (aft S (List.replicate n 2)) (u, ps) := by
        rw [h4]
        refine ⟨by simpa using hu, by simp [p1, h5], fun j p c hp hc => ?_⟩
        rw [List.getElem?_map] at hc
        obtain ⟨q, hq, rfl⟩ := Option.map_eq_some_iff.mp hc
        have := p2 j p q hp hq
        omega
      obtain ⟨f1, f2⟩ := fits_snoc h3 F1
      have ix := ix_n (l := ls) (i := (u : Int)) rfl hu
      have g1 : ixN (List.map nD ls).length (u : Int) = some u := by unfold ixN; rw [if_pos (by omega), if_pos (by rw [List.length_map]; omega)]; rfl
      have hz : (List.map stepD S).length < 1000000 := by rw [List.length_map]; omega
      have hst : List.map stepD (S ++ [(u, ps)]) = List.map stepD S ++ [.tuple [.int (u : Int), .tuple (List.map nD ps)]] := by simp [stepD]
      refine ⟨[some (.own true x1), some (.val (.int (n : Int))), some (.val (.int (many : Int))), some (.val (.int (l : Int))), some (.own false (List.map stepD S)), some (.own false (List.map nD ls)), some (.own false (List.map nD o)), some (.val (.bool w)), some (.val (.int (old : Int))), x9, xa, xb, none],
        [some (.own true y3), some (.val (.int (n : Int))), some (.val (.int (many : Int))), some (.val (.int (l : Int))), some (.own false (List.map stepD (S ++ [(u, ps)]))), some (.own false (List.map nD (upC ls u))), some (.own false (List.map nD o2')), some (.val (.bool w)), some (.val (.int (old : Int))), some (.val (.int ((u : Nat) : Int))), xa', some (.own false (List.map nD ps)), none], by simp [dLoc, dCon, dNil, dCons, dOp, dTup, dLst, looks, look, frz, dCall, dCallV, dCallK, reord, sSeq2, sSkip, sExp, sRet, sRetN, sIf, sAsg, sAsgT, bVal, bTru, bNot, bAnd, bOr, bYes, dAnd, dOr, dNot, dIf, tName, gsNil, gsCons, gTupD, Dn.tSub, Dn.valOf, asB, ownAt, asI, isPin, sl, dCut, iOf, iNo, fin, endV, runP, runF, runV, runW, startR, startV, dEmp, dChain, res, truR, Dn.tru, itemsOf, sNone, sSeq, sRg1, sRg2, sZip, sEnum, sFor, dApp, dPop, sBrk, sCnt, isNone, atI0, atI1, atI2, ixN3_0, ixN3_1, ixN3_2, ixN2_0, ixN2_1, noPins, e_add, e_addT, e_addL, e_sub, e_mul, e_mulL, e_mulT, e_div, e_mod, e_neg, e_eqI, e_neI, e_eqB, e_eqT, e_eqL, e_neT, e_neL, e_cmp, e_is, e_isnot, e_ixL, e_ixT, e_lenL, e_lenT, e_tupL, e_tupT, e_lstL, e_lstT, e_int, e_intB, e_abs, e_sum, e_divmod, e_gcd, e_max, e_min, e_isi, e_cutL, e_cutT, ip], ?_,
        y3, S ++ [(u, ps)], upC ls u, o2', some (.val (.int (l : Int))), some (.val (.int ((u : Nat) : Int))), xa', some (.own false (List.map nD ps)), rfl, by simp; omega, f1, by rw [f2, upC_map hu, h4], by rw [upC_len]; exact h5, b2, v3, rfl, rfl, p3, rfl, fun d hd' => hd d (List.mem_cons_of_mem _ hd')⟩
      refine (seq_nx eA).trans ?_
      refine eB.trans ?_
      refine (seq_nx (for_of (its := (List.range n).map nD) (ρ1 := [some (.own true y2), some (.val (.int (n : Int))), some (.val (.int (many : Int))), some (.val (.int (l : Int))), some (.own false (List.map stepD S)), some (.own false (List.map nD ls)), some (.own false (List.map nD o2')), some (.val (.bool w)), some (.val (.int (old : Int))), some (.val (.int ((u : Nat) : Int))), xa, some (.own false []), none]) (by simp [dLoc, dCon, dNil, dCons, dOp, dTup, dLst, looks, look, frz, dCall, dCallV, dCallK, reord, sSeq2, sSkip, sExp, sRet, sRetN, sIf, sAsg, sAsgT, bVal, bTru, bNot, bAnd, bOr, bYes, dAnd, dOr, dNot, dIf, tName, gsNil, gsCons, gTupD, Dn.tSub, Dn.valOf, asB, ownAt, asI, isPin, sl, dCut, iOf, iNo, fin, endV, runP, runF, runV, runW, startR, startV, dEmp, dChain, res, truR, Dn.tru, itemsOf, sNone, sSeq, sRg1, sRg2, sZip, sEnum, sFor, dApp, dPop, sBrk, sCnt, isNone, atI0, atI1, atI2, ixN3_0, ixN3_1, ixN3_2, ixN2_0, ixN2_1, noPins, e_add, e_addT, e_addL, e_sub, e_mul, e_mulL, e_mulT, e_div, e_mod, e_neg, e_eqI, e_neI, e_eqB, e_eqT, e_eqL, e_neT, e_neL, e_cmp, e_is, e_isnot, e_ixL, e_ixT, e_lenL, e_lenT, e_tupL, e_tupT, e_lstL, e_lstT, e_int, e_intB, e_abs, e_sum, e_divmod, e_gcd, e_max, e_min, e_isi, e_cutL, e_cutT, rg_ok (n := n) (by omega)]; exact rg_map n) eK)).trans ?_
      rw [hst, upC_D]
      generalize ls.getD u 0 = q at ix ⊢
      generalize List.map nD ls = L at ix g1 ⊢
      generalize List.map stepD S = T at hz ⊢
      simp [dLoc, dCon, dNil, dCons, dOp, dTup, dLst, looks, look, frz, dCall, dCallV, dCallK, reord, sSeq2, sSkip, sExp, sRet, sRetN, sIf, sAsg, sAsgT, bVal, bTru, bNot, bAnd, bOr, bYes, dAnd, dOr, dNot, dIf, tName, gsNil, gsCons, gTupD, Dn.tSub, Dn.valOf, asB, ownAt, asI, isPin, sl, dCut, iOf, iNo, fin, endV, runP, runF, runV, runW, startR, startV, dEmp, dChain, res, truR, Dn.tru, itemsOf, sNone, sSeq, sRg1, sRg2, sZip, sEnum, sFor, dApp, dPop, sBrk, sCnt, isNone, atI0, atI1, atI2, ixN3_0, ixN3_1, ixN3_2, ixN2_0, ixN2_1, noPins, e_add, e_addT, e_addL, e_sub, e_mul, e_mulL, e_mulT, e_div, e_mod, e_neg, e_eqI, e_neI, e_eqB, e_eqT, e_eqL, e_neT, e_neL, e_cmp, e_is, e_isnot, e_ixL, e_ixT, e_lenL, e_lenT, e_tupL, e_tupT, e_lstL, e_lstT, e_int, e_intB, e_abs, e_sum, e_divmod, e_gcd, e_max, e_min, e_isi, e_cutL, e_cutT, ix, g1, hz, nD, -List.length_map]) ⟨xs, [], List.replicate n 1, [], none, none, none, none, rfl, by simp, trivial, by simp [aft], by simp, fun _ hx => (nomatch hx), by simpa using v, rfl, rfl, rfl, rfl, fun d hd => by
        obtain ⟨l, hl, rfl⟩ := List.mem_map.mp hd
        exact ⟨l, rfl, by have := List.mem_range.mp hl; omega⟩⟩
  subst e2
  exact ⟨xs', S, _, e, ⟨_, rfl, rfl⟩, by simpa using h2, h3, by simpa using h7⟩
theorem drawn_spec {b n many : Nat} {xs : List D} (h1 : 1 ≤ n) (hn : n ≤ 5) (hm : many ≤ 200) (v : VI (b + (n + 2) * many + 2) xs) :
    ∃ (xs' : List D) (S : List Sp), F__law_drawn xs [.int (n : Int), .int (many : Int)] = some (.v (.tuple (S.map stepD)), xs') ∧ S.length = many ∧ fits S (List.replicate n 2) ∧ VI b xs' := by
  obtain ⟨i, x1, e1, i0, i1, v1⟩ := cup_spec (b := b + (n + 2) * many + 1) (m := 4) v (by decide) (by decide)
  obtain ⟨d, x2, e2, m2, v2⟩ := one_of_spec (b := b + (n + 2) * many) (ds := [.int 1, .int 1, .int 2, .int 3]) v1 (by simp) (by simp)
  obtain ⟨s, rfl, s1, s2⟩ : ∃ s : Nat, d = .int (s : Int) ∧ 1 ≤ s ∧ s ≤ 3 := by
    simp only [List.mem_cons, List.not_mem_nil, or_false] at m2
    rcases m2 with rfl | rfl | rfl | rfl
    · exact ⟨1, rfl, by decide, by decide⟩
    · exact ⟨1, rfl, by decide, by decide⟩
    · exact ⟨2, rfl, by decide, by decide⟩
    · exact ⟨3, rfl, by decide, by decide⟩
  obtain ⟨xs', S, ρ', e, ⟨r, er, e4⟩, hS, hf, v3⟩ := lap_loop (n := n) (many := many) (old := s) (w := i == 0) h1 hn hm s1 s2 v2
  refine ⟨xs', S, ?_, hS, hf, v3⟩
  have m : pMul [.list [.int 1], .int (n : Int)] = some (.o ((List.replicate n 1).map nD)) := by
    rw [e_mulL (by omega) (by omega) (by simp; omega)]
    congr 2
    rw [Int.toNat_natCast, List.map_replicate]
    exact List.eq_replicate_iff.mpr ⟨by simp, fun b hb => by
      obtain ⟨l, hl, hb⟩ := List.mem_flatten.mp hb
      rw [List.eq_of_mem_replicate hl] at hb
      have : b = PyData.int 1 := by simpa using hb
      rw [this]; rfl⟩
  have st : startV 13 xs [.int (n : Int), .int (many : Int)] = [some (.own true xs), some (.val (.int (n : Int))), some (.val (.int (many : Int))), none, none, none, none, none, none, none, none, none, none] := rfl
  have q : d__law_drawn [some (.own true xs), some (.val (.int (n : Int))), some (.val (.int (many : Int))), none, none, none, none, none, none, none, none, none, none] = some (.rt (.v (.tuple (S.map stepD))) ρ') := by
    unfold d__law_drawn
    refine (seq_nx (ρ1 := [some (.own true xs), some (.val (.int (n : Int))), some (.val (.int (many : Int))), none, some (.own false []), some (.own false ((List.replicate n 1).map nD)), some (.own false []), none, none, none, none, none, none]) (by simp [dLoc, dCon, dNil, dCons, dOp, dTup, dLst, looks, look, frz, dCall, dCallV, dCallK, reord, sSeq2, sSkip, sExp, sRet, sRetN, sIf, sAsg, sAsgT, bVal, bTru, bNot, bAnd, bOr, bYes, dAnd, dOr, dNot, dIf, tName, gsNil, gsCons, gTupD, Dn.tSub, Dn.valOf, asB, ownAt, asI, isPin, sl, dCut, iOf, iNo, fin, endV, runP, runF, runV, runW, startR, startV, dEmp, dChain, res, truR, Dn.tru, itemsOf, sNone, sSeq, sRg1, sRg2, sZip, sEnum, sFor, dApp, dPop, sBrk, sCnt, isNone, atI0, atI1, atI2, ixN3_0, ixN3_1, ixN3_2, ixN2_0, ixN2_1, noPins, e_add, e_addT, e_addL, e_sub, e_mul, e_mulL, e_mulT, e_div, e_mod, e_neg, e_eqI, e_neI, e_eqB, e_eqT, e_eqL, e_neT, e_neL, e_cmp, e_is, e_isnot, e_ixL, e_ixT, e_lenL, e_lenT, e_tupL, e_tupT, e_lstL, e_lstT, e_int, e_intB, e_abs, e_sum, e_divmod, e_gcd, e_max, e_min, e_isi, e_cutL, e_cutT, m])).trans ?_
    refine (seq_nx (ρ1 := [some (.own true x2), some (.val (.int (n : Int))), some (.val (.int (many : Int))), none, some (.own false []), some (.own false ((List.replicate n 1).map nD)), some (.own false []), some (.val (.bool (i == 0))), some (.val (.int (s : Int))), none, none, none, none]) (by simp [dLoc, dCon, dNil, dCons, dOp, dTup, dLst, looks, look, frz, dCall, dCallV, dCallK, reord, sSeq2, sSkip, sExp, sRet, sRetN, sIf, sAsg, sAsgT, bVal, bTru, bNot, bAnd, bOr, bYes, dAnd, dOr, dNot, dIf, tName, gsNil, gsCons, gTupD, Dn.tSub, Dn.valOf, asB, ownAt, asI, isPin, sl, dCut, iOf, iNo, fin, endV, runP, runF, runV, runW, startR, startV, dEmp, dChain, res, truR, Dn.tru, itemsOf, sNone, sSeq, sRg1, sRg2, sZip, sEnum, sFor, dApp, dPop, sBrk, sCnt, isNone, atI0, atI1, atI2, ixN3_0, ixN3_1, ixN3_2, ixN2_0, ixN2_1, noPins, e_add, e_addT, e_addL, e_sub, e_mul, e_mulL, e_mulT, e_div, e_mod, e_neg, e_eqI, e_neI, e_eqB, e_eqT, e_eqL, e_neT, e_neL, e_cmp, e_is, e_isnot, e_ixL, e_ixT, e_lenL, e_lenT, e_tupL, e_tupT, e_lstL, e_lstT, e_int, e_intB, e_abs, e_sum, e_divmod, e_gcd, e_max, e_min, e_isi, e_cutL, e_cutT, x_cup, x_one, e1, e2])).trans ?_
    refine (seq_nx (for_of (its := (List.range many).map nD) (ρ1 := [some (.own true x2), some (.val (.int (n : Int))), some (.val (.int (many : Int))), none, some (.own false []), some (.own false ((List.replicate n 1).map nD)), some (.own false []), some (.val (.bool (i == 0))), some (.val (.int (s : Int))), none, none, none, none]) (by simp [dLoc, dCon, dNil, dCons, dOp, dTup, dLst, looks, look, frz, dCall, dCallV, dCallK, reord, sSeq2, sSkip, sExp, sRet, sRetN, sIf, sAsg, sAsgT, bVal, bTru, bNot, bAnd, bOr, bYes, dAnd, dOr, dNot, dIf, tName, gsNil, gsCons, gTupD, Dn.tSub, Dn.valOf, asB, ownAt, asI, isPin, sl, dCut, iOf, iNo, fin, endV, runP, runF, runV, runW, startR, startV, dEmp, dChain, res, truR, Dn.tru, itemsOf, sNone, sSeq, sRg1, sRg2, sZip, sEnum, sFor, dApp, dPop, sBrk, sCnt, isNone, atI0, atI1, atI2, ixN3_0, ixN3_1, ixN3_2, ixN2_0, ixN2_1, noPins, e_add, e_addT, e_addL, e_sub, e_mul, e_mulL, e_mulT, e_div, e_mod, e_neg, e_eqI, e_neI, e_eqB, e_eqT, e_eqL, e_neT, e_neL, e_cmp, e_is, e_isnot, e_ixL, e_ixT, e_lenL, e_lenT, e_tupL, e_tupT, e_lstL, e_lstT, e_int, e_intB, e_abs, e_sum, e_divmod, e_gcd, e_max, e_min, e_isi, e_cutL, e_cutT, rg_ok (n := many) (by omega)]; exact rg_map many) e)).trans ?_
    simp [dLoc, dCon, dNil, dCons, dOp, dTup, dLst, looks, look, frz, dCall, dCallV, dCallK, reord, sSeq2, sSkip, sExp, sRet, sRetN, sIf, sAsg, sAsgT, bVal, bTru, bNot, bAnd, bOr, bYes, dAnd, dOr, dNot, dIf, tName, gsNil, gsCons, gTupD, Dn.tSub, Dn.valOf, asB, ownAt, asI, isPin, sl, dCut, iOf, iNo, fin, endV, runP, runF, runV, runW, startR, startV, dEmp, dChain, res, truR, Dn.tru, itemsOf, sNone, sSeq, sRg1, sRg2, sZip, sEnum, sFor, dApp, dPop, sBrk, sCnt, isNone, atI0, atI1, atI2, ixN3_0, ixN3_1, ixN3_2, ixN2_0, ixN2_1, noPins, e_add, e_addT, e_addL, e_sub, e_mul, e_mulL, e_mulT, e_div, e_mod, e_neg, e_eqI, e_neI, e_eqB, e_eqT, e_eqL, e_neT, e_neL, e_cmp, e_is, e_isnot, e_ixL, e_ixT, e_lenL, e_lenT, e_tupL, e_tupT, e_lstL, e_lstT, e_int, e_intB, e_abs, e_sum, e_divmod, e_gcd, e_max, e_min, e_isi, e_cutL, e_cutT, e4]
  have hl : ([PyData.int (n : Int), .int (many : Int)] : List D).length + 1 = 3 := rfl
  unfold F__law_drawn runW runV
  rw [if_pos hl, st, q]
  subst er
  rfl
end K48

set_option Elab.async false
set_option linter.all false
set_option maxRecDepth 100000
set_option maxHeartbeats 4000000
namespace K48
open PySem PySem.Spec PyProof.Rows L2 Dn Pl

theorem due_least {n : Nat} {S : List Sp} {L N : Nat} (hL : due n S L = true) (hb : ∀ M, 1 ≤ M → M < L → due n S M = false) (hN : 1 ≤ N) : due n S N = decide (L ≤ N) := by
  by_cases h : L ≤ N
  · rw [due_up hL h, decide_eq_true h]
  · rw [hb N hN (by omega), decide_eq_false h]
theorem law_due {n N : Nat} {S : List Sp} (hn : n ≤ 1000) (hl : S.length ≤ 200) (hN : N ≤ 1000) (hf : fits S (List.replicate n 2)) : F__law_is_due [.int (n : Int), .tuple (S.map stepD), .int (N : Int)] = some (.v (.bool (due n S N))) :=
  law_due_spec hn (by omega) hN (fits_good (by simp) hf)
theorem least_loop {n : Nat} {S : List Sp} {a : Option Slot} (hn : n ≤ 1000) (hl : S.length ≤ 200) (hf : fits S (List.replicate n 2)) :
    ∃ L : Nat, sWhile (bNot (bTru (dCall F__law_is_due (dCons (dLoc 1) (dCons (dLoc 2) (dCons (dLoc 3) dNil)))))) (sSeq2 (sAsg (dOp pAdd (dCons (dLoc 3) (dCons (dCon (.int 1)) dNil))) (tName 3)) sSkip) [a, some (.val (.int (n : Int))), some (.val (.tuple (S.map stepD))), some (.val (.int 1)), none, none] =
      some (.nx [a, some (.val (.int (n : Int))), some (.val (.tuple (S.map stepD))), some (.val (.int (L : Int))), none, none]) ∧ 1 ≤ L ∧ L ≤ S.length + 1 ∧ due n S L = true ∧ ∀ M, 1 ≤ M → M < L → due n S M = false := by
  obtain ⟨ρ', e, L, rfl, h1, h2, h3, h4⟩ := sWhile_inv (c := bNot (bTru (dCall F__law_is_due (dCons (dLoc 1) (dCons (dLoc 2) (dCons (dLoc 3) dNil)))))) (body := (sSeq2 (sAsg (dOp pAdd (dCons (dLoc 3) (dCons (dCon (.int 1)) dNil))) (tName 3)) sSkip)) (ρ := [a, some (.val (.int (n : Int))), some (.val (.tuple (S.map stepD))), some (.val (.int 1)), none, none]) S.length
    (fun m ρ => ∃ L : Nat, ρ = [a, some (.val (.int (n : Int))), some (.val (.tuple (S.map stepD))), some (.val (.int (L : Int))), none, none] ∧ m = S.length + 1 - L ∧ 1 ≤ L ∧ L ≤ S.length + 1 ∧ ∀ M, 1 ≤ M → M < L → due n S M = false)
    (fun ρ => ∃ L : Nat, ρ = [a, some (.val (.int (n : Int))), some (.val (.tuple (S.map stepD))), some (.val (.int (L : Int))), none, none] ∧ 1 ≤ L ∧ L ≤ S.length + 1 ∧ due n S L = true ∧ ∀ M, 1 ≤ M → M < L → due n S M = false)
    (fun m ρ h => by
      obtain ⟨L, rfl, hm, h1, h2, h3⟩ := h
      have d := law_due (N := L) hn hl (by omega) hf
      cases hd : due n S L with
      | true =>
        rw [hd] at d
        exact .inl ⟨[a, some (.val (.int (n : Int))), some (.val (.tuple (S.map stepD))), some (.val (.int (L : Int))), none, none], by simp [dLoc, dCon, dNil, dCons, dOp, dTup, dLst, looks, look, frz, dCall, dCallV, dCallK, reord, sSeq2, sSkip, sExp, sRet, sRetN, sIf, sAsg, sAsgT, bVal, bTru, bNot, bAnd, bOr, bYes, dAnd, dOr, dNot, dIf, tName, gsNil, gsCons, gTupD, Dn.tSub, Dn.valOf, asB, ownAt, asI, isPin, sl, dCut, iOf, iNo, fin, endV, runP, runF, runV, runW, startR, startV, dEmp, dChain, res, truR, Dn.tru, itemsOf, sNone, sSeq, sRg1, sRg2, sZip, sEnum, sFor, dApp, dPop, sBrk, sCnt, isNone, atI0, atI1, atI2, ixN3_0, ixN3_1, ixN3_2, ixN2_0, ixN2_1, noPins, e_add, e_addT, e_addL, e_sub, e_mul, e_mulL, e_mulT, e_div, e_mod, e_neg, e_eqI, e_neI, e_eqB, e_eqT, e_eqL, e_neT, e_neL, e_cmp, e_is, e_isnot, e_ixL, e_ixT, e_lenL, e_lenT, e_tupL, e_tupT, e_lstL, e_lstT, e_int, e_intB, e_abs, e_sum, e_divmod, e_gcd, e_max, e_min, e_isi, e_cutL, e_cutT, d], L, rfl, h1, h2, hd, h3⟩
      | false =>
        rw [hd] at d
        have hne : L ≠ S.length + 1 := fun z => by subst z; rw [due_far] at hd; cases hd
        refine .inr ⟨[a, some (.val (.int (n : Int))), some (.val (.tuple (S.map stepD))), some (.val (.int (L : Int))), none, none], [a, some (.val (.int (n : Int))), some (.val (.tuple (S.map stepD))), some (.val (.int ((L + 1 : Nat) : Int))), none, none], S.length + 1 - (L + 1), by simp [dLoc, dCon, dNil, dCons, dOp, dTup, dLst, looks, look, frz, dCall, dCallV, dCallK, reord, sSeq2, sSkip, sExp, sRet, sRetN, sIf, sAsg, sAsgT, bVal, bTru, bNot, bAnd, bOr, bYes, dAnd, dOr, dNot, dIf, tName, gsNil, gsCons, gTupD, Dn.tSub, Dn.valOf, asB, ownAt, asI, isPin, sl, dCut, iOf, iNo, fin, endV, runP, runF, runV, runW, startR, startV, dEmp, dChain, res, truR, Dn.tru, itemsOf, sNone, sSeq, sRg1, sRg2, sZip, sEnum, sFor, dApp, dPop, sBrk, sCnt, isNone, atI0, atI1, atI2, ixN3_0, ixN3_1, ixN3_2, ixN2_0, ixN2_1, noPins, e_add, e_addT, e_addL, e_sub, e_mul, e_mulL, e_mulT, e_div, e_mod, e_neg, e_eqI, e_neI, e_eqB, e_eqT, e_eqL, e_neT, e_neL, e_cmp, e_is, e_isnot, e_ixL, e_ixT, e_lenL, e_lenT, e_tupL, e_tupT, e_lstL, e_lstT, e_int, e_intB, e_abs, e_sum, e_divmod, e_gcd, e_max, e_min, e_isi, e_cutL, e_cutT, d], by simp [dLoc, dCon, dNil, dCons, dOp, dTup, dLst, looks, look, frz, dCall, dCallV, dCallK, reord, sSeq2, sSkip, sExp, sRet, sRetN, sIf, sAsg, sAsgT, bVal, bTru, bNot, bAnd, bOr, bYes, dAnd, dOr, dNot, dIf, tName, gsNil, gsCons, gTupD, Dn.tSub, Dn.valOf, asB, ownAt, asI, isPin, sl, dCut, iOf, iNo, fin, endV, runP, runF, runV, runW, startR, startV, dEmp, dChain, res, truR, Dn.tru, itemsOf, sNone, sSeq, sRg1, sRg2, sZip, sEnum, sFor, dApp, dPop, sBrk, sCnt, isNone, atI0, atI1, atI2, ixN3_0, ixN3_1, ixN3_2, ixN2_0, ixN2_1, noPins, e_add, e_addT, e_addL, e_sub, e_mul, e_mulL, e_mulT, e_div, e_mod, e_neg, e_eqI, e_neI, e_eqB, e_eqT, e_eqL, e_neT, e_neL, e_cmp, e_is, e_isnot, e_ixL, e_ixT, e_lenL, e_lenT, e_tupL, e_tupT, e_lstL, e_lstT, e_int, e_intB, e_abs, e_sum, e_divmod, e_gcd, e_max, e_min, e_isi, e_cutL, e_cutT], by omega, L + 1, rfl, rfl, by omega, by omega, fun M hM hL => ?_⟩
        by_cases hML : M = L
        · subst hML; exact hd
        · exact h3 M hM (by omega)) ⟨1, rfl, by omega, by omega, by omega, fun M h1 h2 => by omega⟩
  exact ⟨L, e, h1, h2, h3, h4⟩
theorem e_neB {p q : Bool} : pNe [.bool p, .bool q] = some (.v (.bool (!(p == q)))) := by
  rw [e_ne rfl rfl]; rfl
theorem rp2 (b : Bool) : ∃ x, pRepr [.list [.bool b, .bool b]] = some (.v (.str x)) ∧ SeqAt.shaped (.str x) = true := by
  obtain ⟨h1, h2⟩ := show_ok (B := 1) (d := .list [.bool b, .bool b]) (by decide) (by decide) rfl (by simp [PyData.depth, PyData.depthAll]) (by simp [chs, chsA])
  exact ⟨_, h1, h2⟩
abbrev bodyR : TSD := (sSeq2 (sAsg (dCall F__law_is_due (dCons (dLoc 1) (dCons (dLoc 2) (dCons (dLoc 4) dNil)))) (tName 5))
  (sSeq2 (sIf (bVal (dOp pNe (dCons (dOp pRepr (dCons (dLst (dCons (dCall F_is_tidy (dCons (dLoc 1) (dCons (dLoc 2) (dCons (dLoc 4) dNil)))) (dCons (dCallK F_is_tidy 3 [2, 1, 0] (dCons (dLoc 4) (dCons (dLoc 2) (dCons (dLoc 1) dNil)))) dNil))) dNil)) (dCons (dOp pRepr (dCons (dLst (dCons (dLoc 5) (dCons (dLoc 5) dNil))) dNil)) dNil)))) (sSeq2 (sRet (dCon (.bool false)))
  sSkip) sSkip)
  (sSeq2 (sIf (bVal (dOp pNe (dCons (dLoc 5) (dCons (dOp pGe (dCons (dLoc 4) (dCons (dLoc 3) dNil))) dNil)))) (sSeq2 (sRet (dCon (.bool false)))
  sSkip) sSkip)
  sSkip)))
theorem right_loop {n L : Nat} {S : List Sp} {a : Option Slot} {ds : List D} (h1 : 1 ≤ n) (hn : n ≤ 5) (hl : S.length ≤ 200) (hf : fits S (List.replicate n 2)) (hL : due n S L = true) (hb : ∀ M, 1 ≤ M → M < L → due n S M = false) (hd : ∀ d ∈ ds, ∃ N : Nat, d = nD N ∧ 1 ≤ N ∧ N ≤ 200) :
    ∃ x4 x5, loopF (tName 4) bodyR ds [a, some (.val (.int (n : Int))), some (.val (.tuple (S.map stepD))), some (.val (.int (L : Int))), none, none] = some (.nx [a, some (.val (.int (n : Int))), some (.val (.tuple (S.map stepD))), some (.val (.int (L : Int))), x4, x5]) := by
  obtain ⟨ρ', e, x4, x5, rfl, _⟩ := loopF_inv (tgt := tName 4) (body := bodyR) (ds := ds) (ρ := [a, some (.val (.int (n : Int))), some (.val (.tuple (S.map stepD))), some (.val (.int (L : Int))), none, none])
    (Inv := fun ds ρ => ∃ x4 x5, ρ = [a, some (.val (.int (n : Int))), some (.val (.tuple (S.map stepD))), some (.val (.int (L : Int))), x4, x5] ∧ nfS x4 = true ∧ nfS x5 = true ∧ ∀ d ∈ ds, ∃ N : Nat, d = nD N ∧ 1 ≤ N ∧ N ≤ 200)
    (fun d ds ρ h => by
      obtain ⟨x4, x5, rfl, n4, n5, hd⟩ := h
      obtain ⟨N, rfl, hN1, hN2⟩ := hd d List.mem_cons_self
      have ip4 := nf_isPin n4
      have ip5 := nf_isPin n5
      unfold isPin at ip4 ip5
      have d1 := law_due (n := n) (N := N) (S := S) (by omega) hl (by omega) hf
      have d2 := is_tidy_spec (n := n) (N := N) (S := S) h1 hn hl hf hN1 hN2
      have d3 := due_least hL hb hN1
      obtain ⟨x, r1, r2⟩ := rp2 (due n S N)
      have r3 := ne_shown r2
      refine ⟨[a, some (.val (.int (n : Int))), some (.val (.tuple (S.map stepD))), some (.val (.int (L : Int))), some (.val (.int (N : Int))), x5], [a, some (.val (.int (n : Int))), some (.val (.tuple (S.map stepD))), some (.val (.int (L : Int))), some (.val (.int (N : Int))), some (.val (.bool (due n S N)))], by simp [dLoc, dCon, dNil, dCons, dOp, dTup, dLst, looks, look, frz, dCall, dCallV, dCallK, reord, sSeq2, sSkip, sExp, sRet, sRetN, sIf, sAsg, sAsgT, bVal, bTru, bNot, bAnd, bOr, bYes, dAnd, dOr, dNot, dIf, tName, gsNil, gsCons, gTupD, Dn.tSub, Dn.valOf, asB, ownAt, asI, isPin, sl, dCut, iOf, iNo, fin, endV, runP, runF, runV, runW, startR, startV, dEmp, dChain, res, truR, Dn.tru, itemsOf, sNone, sSeq, sRg1, sRg2, sZip, sEnum, sFor, dApp, dPop, sBrk, sCnt, isNone, atI0, atI1, atI2, ixN3_0, ixN3_1, ixN3_2, ixN2_0, ixN2_1, noPins, e_add, e_addT, e_addL, e_sub, e_mul, e_mulL, e_mulT, e_div, e_mod, e_neg, e_eqI, e_neI, e_eqB, e_eqT, e_eqL, e_neT, e_neL, e_cmp, e_is, e_isnot, e_ixL, e_ixT, e_lenL, e_lenT, e_tupL, e_tupT, e_lstL, e_lstT, e_int, e_intB, e_abs, e_sum, e_divmod, e_gcd, e_max, e_min, e_isi, e_cutL, e_cutT, ip4], ?_, _, _, rfl, rfl, rfl, fun d hd' => hd d (List.mem_cons_of_mem _ hd')⟩
      have d4 : (due n S N == decide (L ≤ N)) = true := by rw [d3]; simp
      generalize due n S N = q at d1 d2 d4 r1 ⊢
      simp [dLoc, dCon, dNil, dCons, dOp, dTup, dLst, looks, look, frz, dCall, dCallV, dCallK, reord, sSeq2, sSkip, sExp, sRet, sRetN, sIf, sAsg, sAsgT, bVal, bTru, bNot, bAnd, bOr, bYes, dAnd, dOr, dNot, dIf, tName, gsNil, gsCons, gTupD, Dn.tSub, Dn.valOf, asB, ownAt, asI, isPin, sl, dCut, iOf, iNo, fin, endV, runP, runF, runV, runW, startR, startV, dEmp, dChain, res, truR, Dn.tru, itemsOf, sNone, sSeq, sRg1, sRg2, sZip, sEnum, sFor, dApp, dPop, sBrk, sCnt, isNone, atI0, atI1, atI2, ixN3_0, ixN3_1, ixN3_2, ixN2_0, ixN2_1, noPins, e_add, e_addT, e_addL, e_sub, e_mul, e_mulL, e_mulT, e_div, e_mod, e_neg, e_eqI, e_neI, e_eqB, e_eqT, e_eqL, e_neT, e_neL, e_cmp, e_is, e_isnot, e_ixL, e_ixT, e_lenL, e_lenT, e_tupL, e_tupT, e_lstL, e_lstT, e_int, e_intB, e_abs, e_sum, e_divmod, e_gcd, e_max, e_min, e_isi, e_cutL, e_cutT, ip5, d1, d2, r1, r3, e_neB, d4]) ⟨none, none, rfl, rfl, rfl, hd⟩
  exact ⟨x4, x5, e⟩
theorem right_spec {xs : List D} (h : VI 1000 xs) : ∃ ys, F__law_right xs [] = some (.v (.bool true), ys) := by
  obtain ⟨i, x1, e1, i0, i1, v1⟩ := cup_spec (b := 999) (m := 5) h (by decide) (by decide)
  obtain ⟨n, hn⟩ : ∃ n : Nat, 1 + i = (n : Int) := ⟨(1 + i).toNat, by omega⟩
  have n1 : 1 ≤ n := by omega
  have n5 : n ≤ 5 := by omega
  obtain ⟨d, x2, e2, m2, v2⟩ := one_of_spec (b := 998) (ds := [.int 0, .int 1, .int 2, .int 3, .int 5, .int 8, .int 12, .int 18]) v1 (by simp) (by simp)
  obtain ⟨many, rfl, s2⟩ : ∃ s : Nat, d = .int (s : Int) ∧ s ≤ 18 := by
    simp only [List.mem_cons, List.not_mem_nil, or_false] at m2
    rcases m2 with rfl | rfl | rfl | rfl | rfl | rfl | rfl | rfl
    · exact ⟨0, rfl, by decide⟩
    · exact ⟨1, rfl, by decide⟩
    · exact ⟨2, rfl, by decide⟩
    · exact ⟨3, rfl, by decide⟩
    · exact ⟨5, rfl, by decide⟩
    · exact ⟨8, rfl, by decide⟩
    · exact ⟨12, rfl, by decide⟩
    · exact ⟨18, rfl, by decide⟩
  have hb : (n + 2) * many ≤ 7 * 18 := Nat.mul_le_mul (by omega) s2
  obtain ⟨x3, S, e3, hS, hf, v3⟩ := drawn_spec (b := 500) (n := n) (many := many) (xs := x2) n1 n5 (by omega) (v2.less (by omega))
  have hl : S.length ≤ 200 := by omega
  obtain ⟨L, e4, L1, L2, L3, L4⟩ := least_loop (n := n) (S := S) (a := some (.own true x3)) (by omega) hl hf
  obtain ⟨j, x4, e5, j0, j1, v4⟩ := cup_spec (b := 499) (m := 12) v3 (by decide) (by decide)
  obtain ⟨k, hk⟩ : ∃ k : Nat, 1 + j = (k : Int) := ⟨(1 + j).toNat, by omega⟩
  have hmx : pMax [.int 1, .int ((L : Int) - 1)] = some (.v (nD (max 1 (L - 1)))) := by
    rw [e_max]
    congr 2
    show PyData.int _ = PyData.int _
    congr 1
    split <;> omega
  obtain ⟨z4, z5, e6⟩ := right_loop (n := n) (L := L) (S := S) (a := some (.own true x4)) (ds := [nD L, nD (L + 1), nD 200, nD k, nD (max 1 (L - 1)), nD n]) n1 n5 hl hf L3 L4 (fun d hd => by
    simp only [List.mem_cons, List.not_mem_nil, or_false] at hd
    rcases hd with rfl | rfl | rfl | rfl | rfl | rfl
    · exact ⟨_, rfl, by omega, by omega⟩
    · exact ⟨_, rfl, by omega, by omega⟩
    · exact ⟨_, rfl, by omega, by omega⟩
    · exact ⟨_, rfl, by omega, by omega⟩
    · exact ⟨_, rfl, by omega, by omega⟩
    · exact ⟨_, rfl, by omega, by omega⟩)
  obtain ⟨q, x5, e7, q0, q1, v5⟩ := cup_spec (b := 498) (m := 200) v4 (by decide) (by decide)
  obtain ⟨r, hr⟩ : ∃ r : Nat, 1 + q = (r : Int) := ⟨(1 + q).toNat, by omega⟩
  have td := is_tidy_spec (n := n) (N := r) (S := []) n1 n5 (by simp) trivial (by omega) (by omega)
  have dz : due n [] r = true := due_up (n := n) (S := []) (N := 1) due_far (by omega)
  rw [dz] at td
  have td : F_is_tidy [.int (n : Int), .tuple [], .int (r : Int)] = some (.v (.bool true)) := td
  have eL1 : ((L : Int) + 1) = ((L + 1 : Nat) : Int) := by push_cast; rfl
  refine ⟨x5, ?_⟩
  have hz : ([] : List D).length + 1 = 1 := rfl
  have st : startV 6 xs [] = [some (.own true xs), none, none, none, none, none] := rfl
  have q : d__law_right [some (.own true xs), none, none, none, none, none] = some (.rt (.v (.bool true)) [some (.own true x5), some (.val (.int (n : Int))), some (.val (.tuple (S.map stepD))), some (.val (.int (L : Int))), z4, z5]) := by
    unfold d__law_right
    refine (seq_nx (ρ1 := [some (.own true x1), some (.val (.int (n : Int))), none, none, none, none]) (by simp [dLoc, dCon, dNil, dCons, dOp, dTup, dLst, looks, look, frz, dCall, dCallV, dCallK, reord, sSeq2, sSkip, sExp, sRet, sRetN, sIf, sAsg, sAsgT, bVal, bTru, bNot, bAnd, bOr, bYes, dAnd, dOr, dNot, dIf, tName, gsNil, gsCons, gTupD, Dn.tSub, Dn.valOf, asB, ownAt, asI, isPin, sl, dCut, iOf, iNo, fin, endV, runP, runF, runV, runW, startR, startV, dEmp, dChain, res, truR, Dn.tru, itemsOf, sNone, sSeq, sRg1, sRg2, sZip, sEnum, sFor, dApp, dPop, sBrk, sCnt, isNone, atI0, atI1, atI2, ixN3_0, ixN3_1, ixN3_2, ixN2_0, ixN2_1, noPins, e_add, e_addT, e_addL, e_sub, e_mul, e_mulL, e_mulT, e_div, e_mod, e_neg, e_eqI, e_neI, e_eqB, e_eqT, e_eqL, e_neT, e_neL, e_cmp, e_is, e_isnot, e_ixL, e_ixT, e_lenL, e_lenT, e_tupL, e_tupT, e_lstL, e_lstT, e_int, e_intB, e_abs, e_sum, e_divmod, e_gcd, e_max, e_min, e_isi, e_cutL, e_cutT, x_cup, e1, hn])).trans ?_
    refine (seq_nx (ρ1 := [some (.own true x3), some (.val (.int (n : Int))), some (.val (.tuple (S.map stepD))), none, none, none]) (by simp [dLoc, dCon, dNil, dCons, dOp, dTup, dLst, looks, look, frz, dCall, dCallV, dCallK, reord, sSeq2, sSkip, sExp, sRet, sRetN, sIf, sAsg, sAsgT, bVal, bTru, bNot, bAnd, bOr, bYes, dAnd, dOr, dNot, dIf, tName, gsNil, gsCons, gTupD, Dn.tSub, Dn.valOf, asB, ownAt, asI, isPin, sl, dCut, iOf, iNo, fin, endV, runP, runF, runV, runW, startR, startV, dEmp, dChain, res, truR, Dn.tru, itemsOf, sNone, sSeq, sRg1, sRg2, sZip, sEnum, sFor, dApp, dPop, sBrk, sCnt, isNone, atI0, atI1, atI2, ixN3_0, ixN3_1, ixN3_2, ixN2_0, ixN2_1, noPins, e_add, e_addT, e_addL, e_sub, e_mul, e_mulL, e_mulT, e_div, e_mod, e_neg, e_eqI, e_neI, e_eqB, e_eqT, e_eqL, e_neT, e_neL, e_cmp, e_is, e_isnot, e_ixL, e_ixT, e_lenL, e_lenT, e_tupL, e_tupT, e_lstL, e_lstT, e_int, e_intB, e_abs, e_sum, e_divmod, e_gcd, e_max, e_min, e_isi, e_cutL, e_cutT, x_one, e2, e3])).trans ?_
    refine (seq_nx (ρ1 := [some (.own true x3), some (.val (.int (n : Int))), some (.val (.tuple (S.map stepD))), some (.val (.int 1)), none, none]) (by simp [dLoc, dCon, dNil, dCons, dOp, dTup, dLst, looks, look, frz, dCall, dCallV, dCallK, reord, sSeq2, sSkip, sExp, sRet, sRetN, sIf, sAsg, sAsgT, bVal, bTru, bNot, bAnd, bOr, bYes, dAnd, dOr, dNot, dIf, tName, gsNil, gsCons, gTupD, Dn.tSub, Dn.valOf, asB, ownAt, asI, isPin, sl, dCut, iOf, iNo, fin, endV, runP, runF, runV, runW, startR, startV, dEmp, dChain, res, truR, Dn.tru, itemsOf, sNone, sSeq, sRg1, sRg2, sZip, sEnum, sFor, dApp, dPop, sBrk, sCnt, isNone, atI0, atI1, atI2, ixN3_0, ixN3_1, ixN3_2, ixN2_0, ixN2_1, noPins, e_add, e_addT, e_addL, e_sub, e_mul, e_mulL, e_mulT, e_div, e_mod, e_neg, e_eqI, e_neI, e_eqB, e_eqT, e_eqL, e_neT, e_neL, e_cmp, e_is, e_isnot, e_ixL, e_ixT, e_lenL, e_lenT, e_tupL, e_tupT, e_lstL, e_lstT, e_int, e_intB, e_abs, e_sum, e_divmod, e_gcd, e_max, e_min, e_isi, e_cutL, e_cutT])).trans ?_
    refine (seq_nx e4).trans ?_
    refine (seq_nx (for_of (its := [nD L, nD (L + 1), nD 200, nD k, nD (max 1 (L - 1)), nD n]) (ρ1 := [some (.own true x4), some (.val (.int (n : Int))), some (.val (.tuple (S.map stepD))), some (.val (.int (L : Int))), none, none]) ?_ e6)).trans ?_
    · simp [dLoc, dCon, dNil, dCons, dOp, dTup, dLst, looks, look, frz, dCall, dCallV, dCallK, reord, sSeq2, sSkip, sExp, sRet, sRetN, sIf, sAsg, sAsgT, bVal, bTru, bNot, bAnd, bOr, bYes, dAnd, dOr, dNot, dIf, tName, gsNil, gsCons, gTupD, Dn.tSub, Dn.valOf, asB, ownAt, asI, isPin, sl, dCut, iOf, iNo, fin, endV, runP, runF, runV, runW, startR, startV, dEmp, dChain, res, truR, Dn.tru, itemsOf, sNone, sSeq, sRg1, sRg2, sZip, sEnum, sFor, dApp, dPop, sBrk, sCnt, isNone, atI0, atI1, atI2, ixN3_0, ixN3_1, ixN3_2, ixN2_0, ixN2_1, noPins, e_add, e_addT, e_addL, e_sub, e_mul, e_mulL, e_mulT, e_div, e_mod, e_neg, e_eqI, e_neI, e_eqB, e_eqT, e_eqL, e_neT, e_neL, e_cmp, e_is, e_isnot, e_ixL, e_ixT, e_lenL, e_lenT, e_tupL, e_tupT, e_lstL, e_lstT, e_int, e_intB, e_abs, e_sum, e_divmod, e_gcd, e_max, e_min, e_isi, e_cutL, e_cutT, x_cup, e5, hk, hmx, -e_max]
    · simp [dLoc, dCon, dNil, dCons, dOp, dTup, dLst, looks, look, frz, dCall, dCallV, dCallK, reord, sSeq2, sSkip, sExp, sRet, sRetN, sIf, sAsg, sAsgT, bVal, bTru, bNot, bAnd, bOr, bYes, dAnd, dOr, dNot, dIf, tName, gsNil, gsCons, gTupD, Dn.tSub, Dn.valOf, asB, ownAt, asI, isPin, sl, dCut, iOf, iNo, fin, endV, runP, runF, runV, runW, startR, startV, dEmp, dChain, res, truR, Dn.tru, itemsOf, sNone, sSeq, sRg1, sRg2, sZip, sEnum, sFor, dApp, dPop, sBrk, sCnt, isNone, atI0, atI1, atI2, ixN3_0, ixN3_1, ixN3_2, ixN2_0, ixN2_1, noPins, e_add, e_addT, e_addL, e_sub, e_mul, e_mulL, e_mulT, e_div, e_mod, e_neg, e_eqI, e_neI, e_eqB, e_eqT, e_eqL, e_neT, e_neL, e_cmp, e_is, e_isnot, e_ixL, e_ixT, e_lenL, e_lenT, e_tupL, e_tupT, e_lstL, e_lstT, e_int, e_intB, e_abs, e_sum, e_divmod, e_gcd, e_max, e_min, e_isi, e_cutL, e_cutT, x_cup, e7, hr, td, pIsB]
  unfold F__law_right runW runV
  rw [if_pos hz, st, q]
  rfl
theorem law_true (ns : List Int) (h1 : ns.length ≤ 63) (h2 : ∀ z ∈ ns, Builtin.Int.intBits z ≤ 1048576) : F_law [.list (ns.map .int)] = some (.v (.bool true)) := by
  obtain ⟨xs0, a0, b0⟩ := vat_spec ns 0 (by decide)
  obtain ⟨xs1, a1, b1⟩ := vat_spec ns 1 (by decide)
  obtain ⟨y0, c0⟩ := right_spec (b0.less (by decide))
  obtain ⟨y1, c1⟩ := right_spec (b1.less (by decide))
  have a0 : F__law_vat [.list (ns.map .int), .int 0] = some (.o xs0) := a0
  have a1 : F__law_vat [.list (ns.map .int), .int 1] = some (.o xs1) := a1
  have c := dComp_map (vs := [1]) (src := sRg1 (dCon (.int 2))) (tgt := tName 1) (cond := bYes) (elt := dCallV F__law_right (dCons (dCall F__law_vat (dCons (dLoc 0) (dCons (dLoc 1) dNil))) dNil)) (ρ := [some (.val (.list (ns.map .int))), none]) (ρ1 := [some (.val (.list (ns.map .int))), none])
    (l := List.range 2) (f := fun (k : Nat) => .int (k : Int)) (g := fun _ => some (.bool true)) (by simp [dLoc, dCon, dNil, dCons, dOp, dTup, dLst, looks, look, frz, dCall, dCallV, dCallK, reord, sSeq2, sSkip, sExp, sRet, sRetN, sIf, sAsg, sAsgT, bVal, bTru, bNot, bAnd, bOr, bYes, dAnd, dOr, dNot, dIf, tName, gsNil, gsCons, gTupD, Dn.tSub, Dn.valOf, asB, ownAt, asI, isPin, sl, dCut, iOf, iNo, fin, endV, runP, runF, runV, runW, startR, startV, dEmp, dChain, res, truR, Dn.tru, itemsOf, sNone, sSeq, sRg1, sRg2, sZip, sEnum, sFor, dApp, dPop, sBrk, sCnt, isNone, atI0, atI1, atI2, ixN3_0, ixN3_1, ixN3_2, ixN2_0, ixN2_1, noPins, e_add, e_addT, e_addL, e_sub, e_mul, e_mulL, e_mulT, e_div, e_mod, e_neg, e_eqI, e_neI, e_eqB, e_eqT, e_eqL, e_neT, e_neL, e_cmp, e_is, e_isnot, e_ixL, e_ixT, e_lenL, e_lenT, e_tupL, e_tupT, e_lstL, e_lstT, e_int, e_intB, e_abs, e_sum, e_divmod, e_gcd, e_max, e_min, e_isi, e_cutL, e_cutT, rgOk, rgD]) (by simp [dLoc, dCon, dNil, dCons, dOp, dTup, dLst, looks, look, frz, dCall, dCallV, dCallK, reord, sSeq2, sSkip, sExp, sRet, sRetN, sIf, sAsg, sAsgT, bVal, bTru, bNot, bAnd, bOr, bYes, dAnd, dOr, dNot, dIf, tName, gsNil, gsCons, gTupD, Dn.tSub, Dn.valOf, asB, ownAt, asI, isPin, sl, dCut, iOf, iNo, fin, endV, runP, runF, runV, runW, startR, startV, dEmp, dChain, res, truR, Dn.tru, itemsOf, sNone, sSeq, sRg1, sRg2, sZip, sEnum, sFor, dApp, dPop, sBrk, sCnt, isNone, atI0, atI1, atI2, ixN3_0, ixN3_1, ixN3_2, ixN2_0, ixN2_1, noPins, e_add, e_addT, e_addL, e_sub, e_mul, e_mulL, e_mulT, e_div, e_mod, e_neg, e_eqI, e_neI, e_eqB, e_eqT, e_eqL, e_neT, e_neL, e_cmp, e_is, e_isnot, e_ixL, e_ixT, e_lenL, e_lenT, e_tupL, e_tupT, e_lstL, e_lstT, e_int, e_intB, e_abs, e_sum, e_divmod, e_gcd, e_max, e_min, e_isi, e_cutL, e_cutT]) (by simp) (fun k hk => by
      have hk := List.mem_range.mp hk
      have : k = 0 ∨ k = 1 := by omega
      rcases this with rfl | rfl
      · simp [stepC, dLoc, dCon, dNil, dCons, dOp, dTup, dLst, looks, look, frz, dCall, dCallV, dCallK, reord, sSeq2, sSkip, sExp, sRet, sRetN, sIf, sAsg, sAsgT, bVal, bTru, bNot, bAnd, bOr, bYes, dAnd, dOr, dNot, dIf, tName, gsNil, gsCons, gTupD, Dn.tSub, Dn.valOf, asB, ownAt, asI, isPin, sl, dCut, iOf, iNo, fin, endV, runP, runF, runV, runW, startR, startV, dEmp, dChain, res, truR, Dn.tru, itemsOf, sNone, sSeq, sRg1, sRg2, sZip, sEnum, sFor, dApp, dPop, sBrk, sCnt, isNone, atI0, atI1, atI2, ixN3_0, ixN3_1, ixN3_2, ixN2_0, ixN2_1, noPins, e_add, e_addT, e_addL, e_sub, e_mul, e_mulL, e_mulT, e_div, e_mod, e_neg, e_eqI, e_neI, e_eqB, e_eqT, e_eqL, e_neT, e_neL, e_cmp, e_is, e_isnot, e_ixL, e_ixT, e_lenL, e_lenT, e_tupL, e_tupT, e_lstL, e_lstT, e_int, e_intB, e_abs, e_sum, e_divmod, e_gcd, e_max, e_min, e_isi, e_cutL, e_cutT, wipeR, a0, c0]
      · simp [stepC, dLoc, dCon, dNil, dCons, dOp, dTup, dLst, looks, look, frz, dCall, dCallV, dCallK, reord, sSeq2, sSkip, sExp, sRet, sRetN, sIf, sAsg, sAsgT, bVal, bTru, bNot, bAnd, bOr, bYes, dAnd, dOr, dNot, dIf, tName, gsNil, gsCons, gTupD, Dn.tSub, Dn.valOf, asB, ownAt, asI, isPin, sl, dCut, iOf, iNo, fin, endV, runP, runF, runV, runW, startR, startV, dEmp, dChain, res, truR, Dn.tru, itemsOf, sNone, sSeq, sRg1, sRg2, sZip, sEnum, sFor, dApp, dPop, sBrk, sCnt, isNone, atI0, atI1, atI2, ixN3_0, ixN3_1, ixN3_2, ixN2_0, ixN2_1, noPins, e_add, e_addT, e_addL, e_sub, e_mul, e_mulL, e_mulT, e_div, e_mod, e_neg, e_eqI, e_neI, e_eqB, e_eqT, e_eqL, e_neT, e_neL, e_cmp, e_is, e_isnot, e_ixL, e_ixT, e_lenL, e_lenT, e_tupL, e_tupT, e_lstL, e_lstT, e_int, e_intB, e_abs, e_sum, e_divmod, e_gcd, e_max, e_min, e_isi, e_cutL, e_cutT, wipeR, a1, c1])
  have b : pAll [.list [.bool true, .bool true]] = some (.v (.bool true)) := rfl
  have e2 : (List.range 2).filterMap (fun _ => some (PyData.bool true)) = [.bool true, .bool true] := rfl
  rw [e2] at c
  simp [F_law, d_law, dLoc, dCon, dNil, dCons, dOp, dTup, dLst, looks, look, frz, dCall, dCallV, dCallK, reord, sSeq2, sSkip, sExp, sRet, sRetN, sIf, sAsg, sAsgT, bVal, bTru, bNot, bAnd, bOr, bYes, dAnd, dOr, dNot, dIf, tName, gsNil, gsCons, gTupD, Dn.tSub, Dn.valOf, asB, ownAt, asI, isPin, sl, dCut, iOf, iNo, fin, endV, runP, runF, runV, runW, startR, startV, dEmp, dChain, res, truR, Dn.tru, itemsOf, sNone, sSeq, sRg1, sRg2, sZip, sEnum, sFor, dApp, dPop, sBrk, sCnt, isNone, atI0, atI1, atI2, ixN3_0, ixN3_1, ixN3_2, ixN2_0, ixN2_1, noPins, e_add, e_addT, e_addL, e_sub, e_mul, e_mulL, e_mulT, e_div, e_mod, e_neg, e_eqI, e_neI, e_eqB, e_eqT, e_eqL, e_neT, e_neL, e_cmp, e_is, e_isnot, e_ixL, e_ixT, e_lenL, e_lenT, e_tupL, e_tupT, e_lstL, e_lstT, e_int, e_intB, e_abs, e_sum, e_divmod, e_gcd, e_max, e_min, e_isi, e_cutL, e_cutT, c, b]
end K48

set_option Elab.async false
set_option linter.all false
set_option maxRecDepth 100000
open PySem PySem.W PyProof.Rows
set_option maxHeartbeats 0 in
theorem PySem.Challenge.cw_sweepends_k48_whole_tidy_steps_holds : PySem.Challenge.rw_sweepends_k48_whole_tidy_steps.Holds := by
  w_on; o_law; k_head; (case hw => w_witness2)
  k_fill
  refine Dn.walk_g (l := PySem.Challenge.rw_sweepends_k48_whole_tidy_steps) (n := 63) (k := 8) (x := "script") (st := K48.s_law) (F := K48.F_law) rfl (by decide) rfl ⟨rfl, by decide, by decide⟩ (fun w h Y => PySem.W.kIn_of Y) ?F K48.law_true
  case F =>
    intro w mg h KX G base hb gb
    refine K48.g_law ?V
    refine' { r__law_cup := Dn.raw_mk KX G ?a0 ?l0 ?c0 ?k0, r__law_one_of := Dn.raw_mk KX G ?a1 ?l1 ?c1 ?k1, r__law_drawn := Dn.raw_mk KX G ?a2 ?l2 ?c2 ?k2, r__law_is_due := Dn.raw_mk KX G ?a3 ?l3 ?c3 ?k3, r_is_whole := Dn.raw_mk KX G ?a4 ?l4 ?c4 ?k4, r_is_between := Dn.raw_mk KX G ?a5 ?l5 ?c5 ?k5, r_check_number := Dn.raw_mk KX G ?a6 ?l6 ?c6 ?k6, r_check_size := Dn.raw_mk KX G ?a7 ?l7 ?c7 ?k7, r_are_wholes := Dn.raw_mk KX G ?a8 ?l8 ?c8 ?k8, r_is_step := Dn.raw_mk KX G ?a9 ?l9 ?c9 ?k9, r_first_wrong := Dn.raw_mk KX G ?a10 ?l10 ?c10 ?k10, r_check_steps := Dn.raw_mk KX G ?a11 ?l11 ?c11 ?k11, r_are_in_time := Dn.raw_mk KX G ?a12 ?l12 ?c12 ?k12, r_are_all_taken := Dn.raw_mk KX G ?a13 ?l13 ?c13 ?k13, r_is_tidy := Dn.raw_mk KX G ?a14 ?l14 ?c14 ?k14, r__law_right := Dn.raw_mk KX G ?a15 ?l15 ?c15 ?k15, r__law_vat := Dn.raw_mk KX G ?a16 ?l16 ?c16 ?k16, r_law := Dn.raw_mk KX G ?a17 ?l17 ?c17 ?k17, z_abs := PySem.W.mg_none_of KX G ?m_abs, z_all := PySem.W.mg_none_of KX G ?m_all, z_bool := PySem.W.mg_none_of KX G ?m_bool, z_divmod := PySem.W.mg_none_of KX G ?m_divmod, z_enumerate := PySem.W.mg_none_of KX G ?m_enumerate, z_int := PySem.W.mg_none_of KX G ?m_int, z_isinstance := PySem.W.mg_none_of KX G ?m_isinstance, z_len := PySem.W.mg_none_of KX G ?m_len, z_max := PySem.W.mg_none_of KX G ?m_max, z_range := PySem.W.mg_none_of KX G ?m_range, z_repr := PySem.W.mg_none_of KX G ?m_repr, z_set := PySem.W.mg_none_of KX G ?m_set, z_sum := PySem.W.mg_none_of KX G ?m_sum, z_tuple := PySem.W.mg_none_of KX G ?m_tuple, z_zip := PySem.W.mg_none_of KX G ?m_zip, c_MOST_LATE := ?c_MOST_LATE, c_MOST_SIZE := ?c_MOST_SIZE }
    (case a0 => k_is)
    (case l0 => k_is)
    (case c0 => k_is)
    (case k0 => k_is)
    (case a1 => k_is)
    (case l1 => k_is)
    (case c1 => k_is)
    (case k1 => k_is)
    (case a2 => k_is)
    (case l2 => k_is)
    (case c2 => k_is)
    (case k2 => k_is)
    (case a3 => k_is)
    (case l3 => k_is)
    (case c3 => k_is)
    (case k3 => k_is)
    (case a4 => k_is)
    (case l4 => k_is)
    (case c4 => k_is)
    (case k4 => k_is)
    (case a5 => k_is)
    (case l5 => k_is)
    (case c5 => k_is)
    (case k5 => k_is)
    (case a6 => k_is)
    (case l6 => k_is)
    (case c6 => k_is)
    (case k6 => k_is)
    (case a7 => k_is)
    (case l7 => k_is)
    (case c7 => k_is)
    (case k7 => k_is)
    (case a8 => k_is)
    (case l8 => k_is)
    (case c8 => k_is)
    (case k8 => k_is)
    (case a9 => k_is)
    (case l9 => k_is)
    (case c9 => k_is)
    (case k9 => k_is)
    (case a10 => k_is)
    (case l10 => k_is)
    (case c10 => k_is)
    (case k10 => k_is)
    (case a11 => k_is)
    (case l11 => k_is)
    (case c11 => k_is)
    (case k11 => k_is)
    (case a12 => k_is)
    (case l12 => k_is)
    (case c12 => k_is)
    (case k12 => k_is)
    (case a13 => k_is)
    (case l13 => k_is)
    (case c13 => k_is)
    (case k13 => k_is)
    (case a14 => k_is)
    (case l14 => k_is)
    (case c14 => k_is)
    (case k14 => k_is)
    (case a15 => k_is)
    (case l15 => k_is)
    (case c15 => k_is)
    (case k15 => k_is)
    (case a16 => k_is)
    (case l16 => k_is)
    (case c16 => k_is)
    (case k16 => k_is)
    (case a17 => k_is)
    (case l17 => k_is)
    (case c17 => k_is)
    (case k17 => k_is)
    (case m_abs => k_is)
    (case m_all => k_is)
    (case m_bool => k_is)
    (case m_divmod => k_is)
    (case m_enumerate => k_is)
    (case m_int => k_is)
    (case m_isinstance => k_is)
    (case m_len => k_is)
    (case m_max => k_is)
    (case m_range => k_is)
    (case m_repr => k_is)
    (case m_set => k_is)
    (case m_sum => k_is)
    (case m_tuple => k_is)
    (case m_zip => k_is)
    case c_MOST_LATE =>
      refine' Dn.kgl (PySem.W.mg_of KX G ?gMOST_LATE) ?dMOST_LATE
      (case gMOST_LATE => k_is)
      (case dMOST_LATE => exact Dn.kd_int)
    case c_MOST_SIZE =>
      refine' Dn.kgl (PySem.W.mg_of KX G ?gMOST_SIZE) ?dMOST_SIZE
      (case gMOST_SIZE => k_is)
      (case dMOST_SIZE => exact Dn.kd_int)

