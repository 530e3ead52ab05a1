import PyProof.Rows.All
import Wide.All
import OpenK.AllK
import Wide.FinOn
import HandS.ForMost
import HandS.Wide
import HandS.WideBits
import HandS.Gcd
import HandS.Zip
import HandS.TupAny
import HandS.TupMul
import HandS.Conv
import HandS.Rev
import HandS.IsInst
import HandS.Style
import HandS.SortInts
import HandS.Walk
import HandS.Flow
import PyProof.NeKinds
import HandS.Words
import HandS.EndBits
import HandS.Dict
import KE.GoesMore
import KE.GoesEnum
import PyProof.Rows.ReprOcc
import PyProof.ReprLen
import PyProof.Rows.ReprShort
import PySem.Challenge.RW_sweepends_k84_whole_walls_and_steps
set_option Elab.async false
set_option linter.all false
set_option maxRecDepth 100000
set_option maxHeartbeats 2000000
namespace Dn
open PySem PySem.Spec PyProof.Rows L2

abbrev D := PyData
/-- what a slot holds: a value that nobody changes any more, or a list that this slot alone owns (pin: lent by the caller) -/
inductive Slot where
  | val (d : D)
  | own (pin : Bool) (xs : List D)
abbrev Rho := List (Option Slot)
/-- an expression's result: a value, a new list, the list owned by slot i -/
inductive R where
  | v (d : D)
  | o (xs : List D)
  | b (i : Nat)

/-- a list of the module's own -/
def KL (K : PySem.W.Frag) (a : Addr) (xs : List V) : Prop :=
  ∃ (its : List Value) (n : Nat), K.lookup a = some { cls := .type "list", data := .seq its.toArray n } ∧ xs.length ≤ sizeLine ∧ Vals xs its
def LA (K : PySem.W.Frag) (H : Hp) (A : Addr → Prop) (a : Addr) (xs : List V) : Prop := (¬ A a ∧ Rd H a (.lst xs)) ∨ KL K a xs
/-- a list that may be read -/
def LV (K : PySem.W.Frag) (H : Hp) (a : Addr) (xs : List V) : Prop := Rd H a (.lst xs) ∨ KL K a xs
theorem LA.lv {K : PySem.W.Frag} {H : Hp} {A : Addr → Prop} {a : Addr} {xs : List V} (h : LA K H A a xs) : LV K H a xs := h.imp (·.2) id
theorem LV.sq {K : PySem.W.Frag} {H : Hp} {a : Addr} {xs : List V} (h : LV K H a xs) : SqL K H a xs := h.imp id fun ⟨its, n, e, z, r⟩ => ⟨_, its.toArray, n, e, rfl, rfl, rfl, by rw [List.size_toArray, ← r.length]; exact z, r⟩
mutual
def Rep (K : PySem.W.Frag) (H : Hp) (A : Addr → Prop) : D → V → Prop
  | .none, v => v = .non
  | .bool b, v => v = .bl b
  | .int i, v => v = .int i
  | .str x, v => v = .str x
  | .list ds, v => ∃ a xs, v = .ref a ∧ LA K H A a xs ∧ RepA K H A ds xs
  | .tuple ds, v => ∃ a xs, v = .ref a ∧ SqT K H a xs ∧ RepA K H A ds xs
  | .dict _, v => ∃ a kvs, v = .ref a ∧ ¬ A a ∧ H a = some (.dK kvs)
def RepA (K : PySem.W.Frag) (H : Hp) (A : Addr → Prop) : List D → List V → Prop
  | [], xs => xs = []
  | d :: ds, xs => ∃ x r, xs = x :: r ∧ Rep K H A d x ∧ RepA K H A ds r
end

section
variable {K : PySem.W.Frag} {H H' : Hp} {A A' W : Addr → Prop}
/-- values under a step: W may change (lists that A bars) -/
theorem repBoth (hH : ∀ b o, H b = some o → ¬ W b → H' b = some o) (hW : ∀ b, W b → A b ∧ ∃ xs, H b = some (.lst xs)) (hA : ∀ b, H b ≠ none → A' b → A b) :
    ∀ n, (∀ d v, sizeOf d ≤ n → Rep K H A d v → Rep K H' A' d v) ∧ (∀ ds vs, sizeOf ds ≤ n → RepA K H A ds vs → RepA K H' A' ds vs) := by
  intro n
  induction n with
  | zero =>
    refine ⟨fun d v hs _ => ?_, fun ds vs hs _ => ?_⟩
    · cases d <;> simp at hs <;> omega
    · cases ds <;> simp at hs <;> omega
  | succ n ih =>
    refine ⟨fun d v hs h => ?_, fun ds vs hs h => ?_⟩
    · cases d with
      | none => exact h
      | bool b => exact h
      | int i => exact h
      | str x => exact h
      | list ds =>
        unfold Rep at h ⊢
        obtain ⟨a, xs, e, na, hx⟩ := h
        refine ⟨a, xs, e, ?_, ih.2 ds xs (by simp at hs; omega) hx⟩
        rcases na with ⟨na, hr⟩ | na
        case inr => exact .inr na
        have nw : ¬ W a := fun z => na (hW a z).1
        refine .inl ⟨fun z => ?_, ?_⟩
        · rcases hr with hr | ⟨o, hr⟩
          · exact na (hA a (by rw [hr]; simp) z)
          · exact na (hA a (by rw [hr]; simp) z)
        · rcases hr with hr | ⟨o, hr⟩
          · exact .inl (hH _ _ hr nw)
          · exact .inr ⟨o, hH _ _ hr nw⟩
      | tuple ds =>
        unfold Rep at h ⊢
        obtain ⟨a, xs, e, hr, hx⟩ := h
        refine ⟨a, xs, e, ?_, ih.2 ds xs (by simp at hs; omega) hx⟩
        rcases hr with (hr | ⟨o, hr⟩) | hr
        · have nw : ¬ W a := fun z => by
            obtain ⟨_, ys, q⟩ := hW a z
            rw [q] at hr; cases hr
          exact .inl (.inl (hH _ _ hr nw))
        · have nw : ¬ W a := fun z => by
            obtain ⟨_, ys, q⟩ := hW a z
            rw [q] at hr; cases hr
          exact .inl (.inr ⟨o, hH _ _ hr nw⟩)
        · exact .inr hr
      | dict kvs =>
        unfold Rep at h ⊢
        obtain ⟨a, xs, e, na, hr⟩ := h
        have nw : ¬ W a := fun z => na (hW a z).1
        exact ⟨a, xs, e, fun z => na (hA a (by rw [hr]; simp) z), hH _ _ hr nw⟩
    · cases ds with
      | nil => unfold RepA at h ⊢; exact h
      | cons d ds =>
        unfold RepA at h ⊢
        obtain ⟨x, r, e, h1, h2⟩ := h
        exact ⟨x, r, e, ih.1 d x (by simp at hs; omega) h1, ih.2 ds r (by simp at hs; omega) h2⟩
theorem Rep.stp {d : D} {v : V} (h : Rep K H A d v) (hH : ∀ b o, H b = some o → ¬ W b → H' b = some o) (hW : ∀ b, W b → A b ∧ ∃ xs, H b = some (.lst xs)) (hA : ∀ b, H b ≠ none → A' b → A b) : Rep K H' A' d v :=
  (repBoth hH hW hA (sizeOf d)).1 d v (Nat.le_refl _) h
theorem RepA.stp {ds : List D} {vs : List V} (h : RepA K H A ds vs) (hH : ∀ b o, H b = some o → ¬ W b → H' b = some o) (hW : ∀ b, W b → A b ∧ ∃ xs, H b = some (.lst xs)) (hA : ∀ b, H b ≠ none → A' b → A b) : RepA K H' A' ds vs :=
  (repBoth hH hW hA (sizeOf ds)).2 ds vs (Nat.le_refl _) h
/-- nothing changed, fewer addresses barred -/
theorem Rep.same {d : D} {v : V} (h : Rep K H A d v) (hH : Same H H') (hA : ∀ b, H b ≠ none → A' b → A b) : Rep K H' A' d v :=
  h.stp (W := fun _ => False) (fun b o q _ => hH b o q) (fun _ z => z.elim) hA
theorem RepA.same {ds : List D} {vs : List V} (h : RepA K H A ds vs) (hH : Same H H') (hA : ∀ b, H b ≠ none → A' b → A b) : RepA K H' A' ds vs :=
  h.stp (W := fun _ => False) (fun b o q _ => hH b o q) (fun _ z => z.elim) hA
theorem Rep.mono {d : D} {v : V} (h : Rep K H A d v) (hA : ∀ b, A' b → A b) : Rep K H A' d v := h.same (Same.refl _) fun b _ z => hA b z
theorem RepA.mono {ds : List D} {vs : List V} (h : RepA K H A ds vs) (hA : ∀ b, A' b → A b) : RepA K H A' ds vs := h.same (Same.refl _) fun b _ z => hA b z
theorem RepA.len : ∀ {ds : List D} {vs : List V}, RepA K H A ds vs → vs.length = ds.length
  | [], vs, h => by unfold RepA at h; subst h; rfl
  | d :: ds, vs, h => by
    unfold RepA at h
    obtain ⟨x, r, rfl, _, h2⟩ := h
    simp [RepA.len h2]
theorem RepA.nil : RepA K H A [] [] := by unfold RepA; rfl
theorem RepA.cons {d : D} {ds : List D} {v : V} {vs : List V} (h : Rep K H A d v) (t : RepA K H A ds vs) : RepA K H A (d :: ds) (v :: vs) := by
  unfold RepA; exact ⟨v, vs, rfl, h, t⟩
theorem RepA.get : ∀ {ds : List D} {vs : List V} {i : Nat} {d : D}, RepA K H A ds vs → ds[i]? = some d → ∃ v, vs[i]? = some v ∧ Rep K H A d v
  | [], _, _, _, _, e => by simp at e
  | x :: ds, vs, i, d, h, e => by
    unfold RepA at h
    obtain ⟨y, r, rfl, h1, h2⟩ := h
    cases i with
    | zero => simp at e; subst e; exact ⟨y, rfl, h1⟩
    | succ i =>
      obtain ⟨v, e1, e2⟩ := RepA.get (i := i) h2 (by simpa using e)
      exact ⟨v, by simpa using e1, e2⟩
theorem RepA.get' : ∀ {ds : List D} {vs : List V} {i : Nat} {v : V}, RepA K H A ds vs → vs[i]? = some v → ∃ d, ds[i]? = some d ∧ Rep K H A d v
  | [], vs, _, _, h, e => by unfold RepA at h; subst h; simp at e
  | x :: ds, vs, i, v, h, e => by
    unfold RepA at h
    obtain ⟨y, r, rfl, h1, h2⟩ := h
    cases i with
    | zero => simp at e; subst e; exact ⟨x, rfl, h1⟩
    | succ i =>
      obtain ⟨d, e1, e2⟩ := RepA.get' (i := i) h2 (by simpa using e)
      exact ⟨d, by simpa using e1, e2⟩
theorem RepA.app : ∀ {ds es : List D} {vs us : List V}, RepA K H A ds vs → RepA K H A es us → RepA K H A (ds ++ es) (vs ++ us)
  | [], es, vs, us, h, t => by unfold RepA at h; subst h; exact t
  | d :: ds, es, vs, us, h, t => by
    unfold RepA at h
    obtain ⟨y, r, rfl, h1, h2⟩ := h
    exact .cons h1 (RepA.app h2 t)
theorem RepA.take : ∀ {ds : List D} {vs : List V} (n : Nat), RepA K H A ds vs → RepA K H A (ds.take n) (vs.take n)
  | _, _, 0, _ => by simp; exact .nil
  | [], vs, n + 1, h => by unfold RepA at h; subst h; simp; exact .nil
  | d :: ds, vs, n + 1, h => by
    unfold RepA at h
    obtain ⟨y, r, rfl, h1, h2⟩ := h
    exact .cons h1 (RepA.take n h2)
theorem RepA.drop : ∀ {ds : List D} {vs : List V} (n : Nat), RepA K H A ds vs → RepA K H A (ds.drop n) (vs.drop n)
  | _, _, 0, h => h
  | [], vs, n + 1, h => by unfold RepA at h; subst h; simp; exact .nil
  | d :: ds, vs, n + 1, h => by
    unfold RepA at h
    obtain ⟨y, r, rfl, h1, h2⟩ := h
    exact RepA.drop n h2
theorem RepA.setAt : ∀ {ds : List D} {vs : List V} (i : Nat) {d : D} {v : V}, RepA K H A ds vs → Rep K H A d v → RepA K H A (ds.set i d) (vs.set i v)
  | [], vs, _, _, _, h, _ => by unfold RepA at h; subst h; exact .nil
  | x :: ds, vs, 0, _, _, h, q => by
    unfold RepA at h
    obtain ⟨y, r, rfl, h1, h2⟩ := h
    exact .cons q h2
  | x :: ds, vs, i + 1, _, _, h, q => by
    unfold RepA at h
    obtain ⟨y, r, rfl, h1, h2⟩ := h
    exact .cons h1 (RepA.setAt i h2 q)
theorem RepA.rev {ds : List D} {vs : List V} (h : RepA K H A ds vs) : RepA K H A ds.reverse vs.reverse := by
  induction ds generalizing vs with
  | nil => unfold RepA at h; subst h; exact .nil
  | cons d ds ih =>
    unfold RepA at h
    obtain ⟨y, r, rfl, h1, h2⟩ := h
    rw [List.reverse_cons, List.reverse_cons]
    exact (ih h2).app (.cons h1 .nil)
theorem RepA.erase : ∀ {ds : List D} {vs : List V} (i : Nat), RepA K H A ds vs → RepA K H A (ds.eraseIdx i) (vs.eraseIdx i)
  | [], vs, _, h => by unfold RepA at h; subst h; exact .nil
  | x :: ds, vs, 0, h => by
    unfold RepA at h
    obtain ⟨y, r, rfl, h1, h2⟩ := h
    exact h2
  | x :: ds, vs, i + 1, h => by
    unfold RepA at h
    obtain ⟨y, r, rfl, h1, h2⟩ := h
    exact .cons h1 (RepA.erase i h2)
theorem RepA.dropLast : ∀ {ds : List D} {vs : List V}, RepA K H A ds vs → RepA K H A ds.dropLast vs.dropLast
  | [], vs, h => by unfold RepA at h; subst h; exact .nil
  | [x], vs, h => by
    unfold RepA at h
    obtain ⟨y, r, rfl, h1, h2⟩ := h
    unfold RepA at h2; subst h2; exact .nil
  | x :: x2 :: ds, vs, h => by
    have h0 := h
    unfold RepA at h
    obtain ⟨y, r, rfl, h1, h2⟩ := h
    have h3 := h2
    unfold RepA at h3
    obtain ⟨y2, r2, rfl, _, _⟩ := h3
    have := RepA.dropLast h2
    simpa [List.dropLast] using RepA.cons h1 this
theorem RepA.rep {ds : List D} {vs : List V} (h : RepA K H A ds vs) : ∀ k : Nat, RepA K H A (List.replicate k ds).flatten (List.replicate k vs).flatten
  | 0 => .nil
  | k + 1 => by
    rw [List.replicate_succ, List.replicate_succ, List.flatten_cons, List.flatten_cons]
    exact h.app (RepA.rep h k)
theorem RepA.ints {ns : List Int} : ∀ {vs : List V}, RepA K H A (ns.map PyData.int) vs → vs = ns.map V.int := by
  induction ns with
  | nil => intro vs h; unfold RepA at h; exact h
  | cons n ns ih =>
    intro vs h
    rw [List.map_cons] at h
    unfold RepA at h
    obtain ⟨y, r, rfl, h1, h2⟩ := h
    unfold Rep at h1
    rw [ih h2, h1]; rfl
theorem RepA.bools {ns : List Bool} : ∀ {vs : List V}, RepA K H A (ns.map PyData.bool) vs → vs = ns.map V.bl := by
  induction ns with
  | nil => intro vs h; unfold RepA at h; exact h
  | cons n ns ih =>
    intro vs h
    rw [List.map_cons] at h
    unfold RepA at h
    obtain ⟨y, r, rfl, h1, h2⟩ := h
    unfold Rep at h1
    rw [ih h2, h1]; rfl
theorem RepA.of_ints (ns : List Int) : RepA K H A (ns.map PyData.int) (ns.map V.int) := by
  induction ns with
  | nil => exact .nil
  | cons n ns ih => exact .cons (by unfold Rep; rfl) ih
end

/-! ### environments: slots beside the values that stand in them -/
abbrev Ent := List (Option Slot × Option V)
def Own (E : Ent) (a : Addr) : Prop := ∃ p xs, (some (Slot.own p xs), some (V.ref a)) ∈ E
def isOwn (p : Option Slot × Option V) (a : Addr) : Prop := ∃ b xs, p = (some (Slot.own b xs), some (V.ref a))
abbrev AO (B : Addr → Prop) (E : Ent) : Addr → Prop := fun a => B a ∨ Own E a
theorem own_iff {E : Ent} {a : Addr} : Own E a ↔ ∃ p ∈ E, isOwn p a := by
  constructor
  · rintro ⟨p, xs, h⟩; exact ⟨_, h, p, xs, rfl⟩
  · rintro ⟨p, h, b, xs, rfl⟩; exact ⟨b, xs, h⟩
theorem own_app {E F : Ent} {a : Addr} : Own (E ++ F) a ↔ Own E a ∨ Own F a := by
  constructor
  · rintro ⟨p, xs, h⟩
    rcases List.mem_append.mp h with h | h
    · exact .inl ⟨p, xs, h⟩
    · exact .inr ⟨p, xs, h⟩
  · rintro (⟨p, xs, h⟩ | ⟨p, xs, h⟩)
    · exact ⟨p, xs, List.mem_append_left _ h⟩
    · exact ⟨p, xs, List.mem_append_right _ h⟩
theorem own_cons {p : Option Slot × Option V} {E : Ent} {a : Addr} : Own (p :: E) a ↔ isOwn p a ∨ Own E a := by
  constructor
  · rintro ⟨b, xs, h⟩
    rcases List.mem_cons.mp h with h | h
    · exact .inl ⟨b, xs, h.symm⟩
    · exact .inr ⟨b, xs, h⟩
  · rintro (⟨b, xs, rfl⟩ | ⟨b, xs, h⟩)
    · exact ⟨b, xs, List.mem_cons_self⟩
    · exact ⟨b, xs, List.mem_cons_of_mem _ h⟩
theorem own_nil {a : Addr} : ¬ Own [] a := by rintro ⟨_, _, h⟩; cases h
abbrev Apart (p q : Option Slot × Option V) : Prop := ∀ a, isOwn p a → ¬ isOwn q a
theorem Apart.symm {p q : Option Slot × Option V} (h : Apart p q) : Apart q p := fun a x y => h a y x
structure ER (K : PySem.W.Frag) (H : Hp) (B : Addr → Prop) (E : Ent) : Prop where
  val : ∀ d v, (some (.val d), v) ∈ E → ∃ u, v = some u ∧ Rep K H (AO B E) d u
  own : ∀ p xs v, (some (.own p xs), v) ∈ E → ∃ a vs, v = some (.ref a) ∧ H a = some (.lst vs) ∧ RepA K H (AO B E) xs vs ∧ ¬ B a
  nd : E.Pairwise Apart
  trk : ∀ b, B b → H b ≠ none
section
variable {K : PySem.W.Frag} {H H' : Hp} {B B' : Addr → Prop} {E E' F T : Ent} {a : Addr}
theorem ER.lst (h : ER K H B E) (o : Own E a) : ∃ vs, H a = some (.lst vs) := by
  obtain ⟨p, xs, m⟩ := o
  obtain ⟨b, vs, e, hl, _⟩ := h.own p xs _ m
  cases e
  exact ⟨vs, hl⟩
theorem ER.notB (h : ER K H B E) (o : Own E a) : ¬ B a := by
  obtain ⟨p, xs, m⟩ := o
  obtain ⟨b, vs, e, _, _, nb⟩ := h.own p xs _ m
  cases e
  exact nb
theorem ER.perm (h : ER K H B E) (p : E.Perm E') : ER K H B E' := by
  have ho : ∀ a, Own E' a → Own E a := fun a ⟨b, xs, m⟩ => ⟨b, xs, p.mem_iff.mpr m⟩
  have hm : ∀ b, AO B E' b → AO B E b := fun b z => z.elim .inl fun z => .inr (ho b z)
  refine ⟨fun d v m => ?_, fun b xs v m => ?_, p.pairwise h.nd (fun q => Apart.symm q), h.trk⟩
  · obtain ⟨u, e, r⟩ := h.val d v (p.mem_iff.mpr m)
    exact ⟨u, e, r.mono hm⟩
  · obtain ⟨c, vs, e, hl, r, nb⟩ := h.own b xs v (p.mem_iff.mpr m)
    exact ⟨c, vs, e, hl, r.mono hm, nb⟩
theorem ER.sub (h : ER K H B E) (p : E'.Sublist E) : ER K H B E' := by
  have ho : ∀ a, Own E' a → Own E a := fun a ⟨b, xs, m⟩ => ⟨b, xs, p.mem m⟩
  have hm : ∀ b, AO B E' b → AO B E b := fun b z => z.elim .inl fun z => .inr (ho b z)
  refine ⟨fun d v m => ?_, fun b xs v m => ?_, h.nd.sublist p, h.trk⟩
  · obtain ⟨u, e, r⟩ := h.val d v (p.mem m)
    exact ⟨u, e, r.mono hm⟩
  · obtain ⟨c, vs, e, hl, r, nb⟩ := h.own b xs v (p.mem m)
    exact ⟨c, vs, e, hl, r.mono hm, nb⟩
theorem ER.left (h : ER K H B (E ++ F)) : ER K H B E := h.sub (List.sublist_append_left _ _)
theorem ER.right (h : ER K H B (E ++ F)) : ER K H B F := h.sub (List.sublist_append_right _ _)
/-- fewer addresses barred -/
theorem ER.monoB (h : ER K H B E) (hb : ∀ b, B' b → B b) : ER K H B' E := by
  have hm : ∀ b, AO B' E b → AO B E b := fun b z => z.elim (fun z => .inl (hb b z)) .inr
  refine ⟨fun d v m => ?_, fun b xs v m => ?_, h.nd, fun b z => h.trk b (hb b z)⟩
  · obtain ⟨u, e, r⟩ := h.val d v m
    exact ⟨u, e, r.mono hm⟩
  · obtain ⟨c, vs, e, hl, r, nb⟩ := h.own b xs v m
    exact ⟨c, vs, e, hl, r.mono hm, fun z => nb (hb c z)⟩
/-- the temporaries put aside -/
theorem ER.aside (h : ER K H B (E ++ T)) : ER K H (AO B T) E := by
  have hm : ∀ b, AO (AO B T) E b → AO B (E ++ T) b := fun b z => by
    rcases z with (z | z) | z
    · exact .inl z
    · exact .inr (own_app.mpr (.inr z))
    · exact .inr (own_app.mpr (.inl z))
  refine ⟨fun d v m => ?_, fun b xs v m => ?_, (List.pairwise_append.mp h.nd).1, fun b z => ?_⟩
  · obtain ⟨u, e, r⟩ := h.val d v (List.mem_append_left _ m)
    exact ⟨u, e, r.mono hm⟩
  · obtain ⟨c, vs, e, hl, r, nb⟩ := h.own b xs v (List.mem_append_left _ m)
    refine ⟨c, vs, e, hl, r.mono hm, fun z => ?_⟩
    rcases z with z | z
    · exact nb z
    · obtain ⟨q, hq, io⟩ := own_iff.mp z
      subst e
      exact (List.pairwise_append.mp h.nd).2.2 _ m q hq c ⟨b, xs, rfl⟩ io
  · rcases z with z | z
    · exact h.trk b z
    · obtain ⟨vs, q⟩ := h.right.lst z
      rw [q]; simp

/-- what a run keeps: all that is tracked but the own lists -/
structure Stp (E : Ent) (H : Hp) (E' : Ent) (H' : Hp) : Prop where
  keep : ∀ b o, H b = some o → ¬ Own E b → H' b = some o
  own : ∀ b, H b ≠ none → Own E' b → Own E b
  trk : ∀ b, H b ≠ none → H' b ≠ none
theorem Stp.refl : Stp E H E H := ⟨fun _ _ h _ => h, fun _ _ h => h, fun _ h => h⟩
theorem Stp.trans {E1 E2 : Ent} {H1 H2 : Hp} (x : Stp E H E1 H1) (y : Stp E1 H1 E2 H2) : Stp E H E2 H2 where
  keep := fun b o h n => y.keep b o (x.keep b o h n) fun z => n (x.own b (by rw [h]; simp) z)
  own := fun b h z => x.own b h (y.own b (x.trk b h) z)
  trk := fun b h => y.trk b (x.trk b h)
theorem Stp.same (h : Same H H') : Stp E H E H' := ⟨fun b o q _ => h b o q, fun _ _ q => q, fun b q => by
  cases e : H b with
  | none => exact absurd e q
  | some o => rw [h b o e]; simp⟩
/-- a value under a step -/
theorem Rep.step {d : D} {v : V} (h : Rep K H (AO B E) d v) (er : ER K H B E) (s : Stp E H E' H') : Rep K H' (AO B E') d v :=
  h.stp (W := Own E) s.keep (fun b z => ⟨.inr z, er.lst z⟩) fun b t z => z.elim .inl fun z => .inr (s.own b t z)
theorem RepA.step {ds : List D} {vs : List V} (h : RepA K H (AO B E) ds vs) (er : ER K H B E) (s : Stp E H E' H') : RepA K H' (AO B E') ds vs :=
  h.stp (W := Own E) s.keep (fun b z => ⟨.inr z, er.lst z⟩) fun b t z => z.elim .inl fun z => .inr (s.own b t z)
/-- .. and the temporaries taken back: F is what the run has brought besides -/
theorem ER.back (h : ER K H B (E ++ T)) (s : Stp E H E' H') (h' : ER K H' (AO B T) (E' ++ F)) (fr : ∀ a, Own F a → H a = none) : ER K H' B (E' ++ (T ++ F)) := by
  have ha := h.aside
  have hm : ∀ b, AO B (E' ++ (T ++ F)) b → AO (AO B T) (E' ++ F) b := fun b z => by
    rcases z with z | z
    · exact .inl (.inl z)
    · rcases own_app.mp z with z | z
      · exact .inr (own_app.mpr (.inl z))
      · rcases own_app.mp z with z | z
        · exact .inl (.inr z)
        · exact .inr (own_app.mpr (.inr z))
  -- how the temporaries' own values go over
  have hW : ∀ b, Own E b → AO B (E ++ T) b ∧ ∃ xs, H b = some (.lst xs) := fun b z => ⟨.inr (own_app.mpr (.inl z)), ha.lst z⟩
  have hA : ∀ b, H b ≠ none → AO B (E' ++ (T ++ F)) b → AO B (E ++ T) b := fun b t z => by
    rcases z with z | z
    · exact .inl z
    · rcases own_app.mp z with z | z
      · exact .inr (own_app.mpr (.inl (s.own b t z)))
      · rcases own_app.mp z with z | z
        · exact .inr (own_app.mpr (.inr z))
        · exact absurd (fr b z) t
  have hsplit : ∀ {x}, x ∈ E' ++ (T ++ F) → x ∈ E' ++ F ∨ x ∈ T := fun {x} m => by
    rcases List.mem_append.mp m with m | m
    · exact .inl (List.mem_append_left _ m)
    · rcases List.mem_append.mp m with m | m
      · exact .inr m
      · exact .inl (List.mem_append_right _ m)
  refine ⟨fun d v m => ?_, fun p xs v m => ?_, ?_, fun b z => ?_⟩
  · rcases hsplit m with m | m
    · obtain ⟨u, e, r⟩ := h'.val d v m
      exact ⟨u, e, r.mono hm⟩
    · obtain ⟨u, e, r⟩ := h.val d v (List.mem_append_right _ m)
      exact ⟨u, e, r.stp s.keep hW hA⟩
  · rcases hsplit m with m | m
    · obtain ⟨c, vs, e, hl, r, nb⟩ := h'.own p xs v m
      exact ⟨c, vs, e, hl, r.mono hm, fun z => nb (.inl z)⟩
    · obtain ⟨c, vs, e, hl, r, nb⟩ := h.own p xs v (List.mem_append_right _ m)
      refine ⟨c, vs, e, s.keep c _ hl fun z => ?_, r.stp s.keep hW hA, nb⟩
      subst e
      exact ha.notB z (.inr ⟨p, xs, m⟩)
  · have n1 := List.pairwise_append.mp h'.nd
    refine List.pairwise_append.mpr ⟨n1.1, List.pairwise_append.mpr ⟨(List.pairwise_append.mp h.nd).2.1, n1.2.1, fun x hx y hy a ix iy => ?_⟩, fun x hx y hy a ix iy => ?_⟩
    · exact h'.notB (a := a) (own_app.mpr (.inr (own_iff.mpr ⟨y, hy, iy⟩))) (.inr (own_iff.mpr ⟨x, hx, ix⟩))
    · rcases List.mem_append.mp hy with hy | hy
      · exact h'.notB (a := a) (own_app.mpr (.inl (own_iff.mpr ⟨x, hx, ix⟩))) (.inr (own_iff.mpr ⟨y, hy, iy⟩))
      · exact n1.2.2 x hx y hy a ix iy
  · exact h'.trk b (.inl z)
theorem stp_app (h : ER K H B (E ++ T)) (s : Stp E H E' H') (h' : ER K H' (AO B T) (E' ++ F)) (fr : ∀ a, Own F a → H a = none) : Stp (E ++ T) H (E' ++ (T ++ F)) H' where
  keep := fun b o q n => s.keep b o q fun z => n (own_app.mpr (.inl z))
  own := fun b t z => by
    rcases own_app.mp z with z | z
    · exact own_app.mpr (.inl (s.own b t z))
    · rcases own_app.mp z with z | z
      · exact own_app.mpr (.inr z)
      · exact absurd (fr b z) t
  trk := s.trk
end
end Dn

set_option Elab.async false
set_option linter.all false
set_option maxRecDepth 100000
set_option maxHeartbeats 2000000
namespace Dn
open PySem PySem.Spec PyProof.Rows L2

abbrev St := L2.St
abbrev Z (ρ : Rho) (σ : St) : Ent := ρ.zip σ
def sl : R → Option Slot
  | .v d => some (.val d)
  | .o xs => some (.own false xs)
  | .b _ => none
/-- what a result is worth now -/
def look (ρ : Rho) : R → Option D
  | .v d => some d
  | .o xs => some (.list xs)
  | .b i => match ρ[i]? with
    | some (some (.own _ xs)) => some (.list xs)
    | some (some (.val d)) => some d
    | _ => none
def looks (ρ : Rho) : List R → Option (List D)
  | [] => some []
  | r :: rs => match look ρ r with
    | some d => match looks ρ rs with
      | some ds => some (d :: ds)
      | none => none
    | none => none
abbrev tz (rs : List R) (vs : List V) : Ent := (rs.map sl).zip (vs.map some)
structure RSs (K : PySem.W.Frag) (H H' : Hp) (B : Addr → Prop) (ρ : Rho) (σ : St) (rs : List R) (vs : List V) : Prop where
  len : rs.length = vs.length
  er : ER K H' B (Z ρ σ ++ tz rs vs)
  fr : ∀ a, Own (tz rs vs) a → H a = none
  bo : ∀ (k i : Nat), rs[k]? = some (.b i) → ∃ v, vs[k]? = some v ∧ σ[i]? = some (some v)
/-- the same slots; lent lists stay lent -/
structure Lk (ρ ρ' : Rho) : Prop where
  len : ρ'.length = ρ.length
  pin : ∀ (i : Nat) (xs : List D), ρ[i]? = some (some (.own true xs)) → ∃ xs', ρ'[i]? = some (some (.own true xs'))
theorem Lk.refl (ρ : Rho) : Lk ρ ρ := ⟨rfl, fun _ xs h => ⟨xs, h⟩⟩
theorem Lk.trans {a b c : Rho} (x : Lk a b) (y : Lk b c) : Lk a c := ⟨y.len.trans x.len, fun i xs h => let ⟨_, h'⟩ := x.pin i xs h; y.pin i _ h'⟩

abbrev TD := Rho → Option (R × Rho)
abbrev TDs := Rho → Option (List R × Rho)
def rd (K : PySem.W.Frag) (t : TD) : TE := fun σ H Q => ∃ B ρ r ρ', ρ.length = σ.length ∧ ER K H B (Z ρ σ) ∧ t ρ = some (r, ρ') ∧
  ∀ v H', Lk ρ ρ' → Stp (Z ρ σ) H (Z ρ' σ) H' → RSs K H H' B ρ' σ [r] [v] → Q v H'
def rds (K : PySem.W.Frag) (t : TDs) : TA := fun σ H Q => ∃ B ρ rs ρ', ρ.length = σ.length ∧ ER K H B (Z ρ σ) ∧ t ρ = some (rs, ρ') ∧
  ∀ vs H', Lk ρ ρ' → Stp (Z ρ σ) H (Z ρ' σ) H' → RSs K H H' B ρ' σ rs vs → Q vs H'
def DE (X : Cx) (e : Expr) (t : TD) : Prop := PE X e (rd X.K t)
def DA (X : Cx) (es : List Expr) (t : TDs) : Prop := PA X es (rds X.K t)
theorem pe_weak {X : Cx} {e : Expr} {t t' : TE} (h : PE X e t) (w : ∀ σ H Q, t' σ H Q → t σ H Q) : PE X e t' := ⟨fun pins s σ H Q I q => h.run pins s σ H Q I (w σ H Q q)⟩
theorem pa_weak {X : Cx} {e : List Expr} {t t' : TA} (h : PA X e t) (w : ∀ σ H Q, t' σ H Q → t σ H Q) : PA X e t' := ⟨fun pos pins s σ H Q I q => h.run pos pins s σ H Q I (w σ H Q q)⟩
theorem pt_weak {X : Cx} {e : Expr} {t t' : TT} (h : PT X e t) (w : ∀ σ H Q, t' σ H Q → t σ H Q) : PT X e t' := ⟨fun pins s σ H Q I q => h.run pins s σ H Q I (w σ H Q q)⟩

/-! ### nothing -/
def dNo : TD := fun _ => none
theorem de_no {X : Cx} {e : Expr} : DE X e dNo := ⟨fun _ _ _ _ _ _ ⟨_, _, _, _, _, _, h, _⟩ => by cases h⟩
def dNos : TDs := fun _ => none
theorem da_no {X : Cx} {e : List Expr} : DA X e dNos := ⟨fun _ _ _ _ _ _ _ ⟨_, _, _, _, _, _, h, _⟩ => by cases h⟩

/-! ### several expressions -/
def dNil : TDs := fun ρ => some ([], ρ)
def dCons (t : TD) (ts : TDs) : TDs := fun ρ => match t ρ with
  | some (r, ρ1) => match ts ρ1 with
    | some (rs, ρ2) => some (r :: rs, ρ2)
    | none => none
  | none => none
theorem dCons_some {t : TD} {ts : TDs} {ρ : Rho} {q : List R × Rho} (h : dCons t ts ρ = some q) : ∃ r ρ1 rs ρ2, t ρ = some (r, ρ1) ∧ ts ρ1 = some (rs, ρ2) ∧ q = (r :: rs, ρ2) := by
  unfold dCons at h
  split at h
  · rename_i r ρ1 e
    split at h
    · rename_i rs ρ2 e2
      cases h
      exact ⟨r, ρ1, rs, ρ2, e, e2, rfl⟩
    · cases h
  · cases h
theorem nil_read {K : PySem.W.Frag} {σ : St} {H : Hp} {Q : List V → Hp → Prop} (h : rds K dNil σ H Q) : Q [] H := by
  obtain ⟨B, ρ, rs, ρ', hl, er, e, k⟩ := h
  unfold dNil at e
  cases e
  exact k [] H (.refl _) .refl ⟨rfl, by simpa [tz] using er, fun a z => absurd z (by simp [tz]; exact own_nil), fun k i z => by simp at z⟩
theorem cons_read {K : PySem.W.Frag} {t : TD} {ts : TDs} {σ : St} {H : Hp} {Q : List V → Hp → Prop} (h : rds K (dCons t ts) σ H Q) :
    rd K t σ H fun x H1 => rds K ts σ H1 fun xs H2 => Q (x :: xs) H2 := by
  obtain ⟨B, ρ, rs, ρ', hl, er, e, k⟩ := h
  obtain ⟨r, ρ1, rs, _, e1, e2, e3⟩ := dCons_some e
  cases e3
  refine ⟨B, ρ, r, ρ1, hl, er, e1, fun v H1 lk st rr => ?_⟩
  refine ⟨AO B (tz [r] [v]), ρ1, rs, ρ', lk.len.trans hl, rr.er.aside, e2, fun vs H2 lk2 st2 rr2 => ?_⟩
  have fr2 : ∀ a, Own (tz rs vs) a → H1 a = none := rr2.fr
  have er3 : ER K H2 B (Z ρ' σ ++ (tz [r] [v] ++ tz rs vs)) := rr.er.back st2 rr2.er fr2
  refine k (v :: vs) H2 (lk.trans lk2) (st.trans st2) ⟨by simp [rr2.len], er3, fun a z => ?_, fun j i z => ?_⟩
  · have z : Own (tz [r] [v] ++ tz rs vs) a := z
    rcases own_app.mp z with z | z
    · exact rr.fr a z
    · have := fr2 a z
      cases q : H a with
      | none => rfl
      | some o => exact absurd this (st.trk a (by rw [q]; simp))
  · cases j with
    | zero =>
      have z : [r][0]? = some (.b i) := by simpa using z
      obtain ⟨w, h1, h2⟩ := rr.bo 0 i z
      exact ⟨w, by simpa using h1, h2⟩
    | succ j =>
      obtain ⟨w, h1, h2⟩ := rr2.bo j i (by simpa using z)
      exact ⟨w, by simpa using h1, h2⟩
section
variable {X : Cx}
theorem da_nil : DA X [] dNil := pa_weak pa_nil fun _ _ _ h => nil_read h
theorem da_cons {e : Expr} {es : List Expr} {t : TD} {ts : TDs} (h : DE X e t) (hs : DA X es ts) (he : starEach (e :: es) X.env = (false, eval e X.env) :: starEach es X.env := by rfl) : DA X (e :: es) (dCons t ts) :=
  pa_weak (pa_cons h hs he) fun _ _ _ h => cons_read h
/-- one expression as a list of one -/
theorem one_read {K : PySem.W.Frag} {t : TD} {σ : St} {H : Hp} {Q : List V → Hp → Prop} (h : rds K (dCons t dNil) σ H Q) : rd K t σ H fun x H1 => Q [x] H1 := by
  obtain ⟨B, ρ, r, ρ1, hl, er, e, k⟩ := cons_read h
  exact ⟨B, ρ, r, ρ1, hl, er, e, fun v H1 lk st rr => nil_read (k v H1 lk st rr)⟩
theorem two_read {K : PySem.W.Frag} {t u : TD} {σ : St} {H : Hp} {Q : List V → Hp → Prop} (h : rds K (dCons t (dCons u dNil)) σ H Q) : rd K t σ H fun x H1 => rd K u σ H1 fun y H2 => Q [x, y] H2 := by
  obtain ⟨B, ρ, r, ρ1, hl, er, e, k⟩ := cons_read h
  exact ⟨B, ρ, r, ρ1, hl, er, e, fun v H1 lk st rr => one_read (k v H1 lk st rr)⟩
end

/-! ### what values are worth -/
/-- a view: the top list may be one that is owned -/
def Vw (K : PySem.W.Frag) (H : Hp) (A : Addr → Prop) : D → V → Prop
  | .list ds, v => ∃ a xs, v = .ref a ∧ LV K H a xs ∧ RepA K H A ds xs
  | d, v => Rep K H A d v
theorem Rep.vw {K : PySem.W.Frag} {H : Hp} {A : Addr → Prop} : ∀ {d : D} {v : V}, Rep K H A d v → Vw K H A d v
  | .none, _, h => h
  | .bool _, _, h => h
  | .int _, _, h => h
  | .str _, _, h => h
  | .list ds, _, h => by unfold Rep at h; unfold Vw; obtain ⟨a, xs, e, h1, h2⟩ := h; exact ⟨a, xs, e, h1.lv, h2⟩
  | .tuple _, _, h => h
  | .dict _, _, h => h
inductive VwA (K : PySem.W.Frag) (H : Hp) (A : Addr → Prop) : List D → List V → Prop where
  | nil : VwA K H A [] []
  | cons {d v ds vs} : Vw K H A d v → VwA K H A ds vs → VwA K H A (d :: ds) (v :: vs)
theorem looks_some {ρ : Rho} : ∀ {rs : List R} {ds : List D}, looks ρ rs = some ds → ds.length = rs.length ∧ ∀ (k : Nat) (r : R), rs[k]? = some r → ∃ d, ds[k]? = some d ∧ look ρ r = some d
  | [], ds, h => by simp only [looks] at h; cases h; exact ⟨rfl, fun k r z => by simp at z⟩
  | r :: rs, ds, h => by
    unfold looks at h
    split at h
    · rename_i d e
      split at h
      · rename_i ds' e2
        cases h
        obtain ⟨h1, h2⟩ := looks_some e2
        refine ⟨by simp [h1], fun k r' z => ?_⟩
        cases k with
        | zero => simp at z; subst z; exact ⟨d, by simp, e⟩
        | succ k =>
          obtain ⟨d', h3, h4⟩ := h2 k r' (by simpa using z)
          exact ⟨d', by simpa using h3, h4⟩
      · cases h
    · cases h
theorem mem_Z {ρ : Rho} {σ : St} {i : Nat} {s : Option Slot} {v : Option V} (h : ρ[i]? = some s) (h2 : σ[i]? = some v) : (s, v) ∈ Z ρ σ := by
  have : (ρ.zip σ)[i]? = some (s, v) := by simp [List.getElem?_zip_eq_some, h, h2]
  exact List.mem_of_getElem? this
theorem vwA_of {K : PySem.W.Frag} {H : Hp} {A : Addr → Prop} : ∀ {ds : List D} {vs : List V}, ds.length = vs.length → (∀ (k : Nat) (d : D) (v : V), ds[k]? = some d → vs[k]? = some v → Vw K H A d v) → VwA K H A ds vs
  | [], [], _, _ => .nil
  | d :: ds, v :: vs, hl, h => .cons (h 0 d v rfl rfl) (vwA_of (by simpa using hl) fun k d v e1 e2 => h (k + 1) d v (by simpa using e1) (by simpa using e2))
section
variable {K : PySem.W.Frag} {H H' : Hp} {B : Addr → Prop} {ρ : Rho} {σ : St} {rs : List R} {vs : List V} {ds : List D}
theorem RSs.vw (h : RSs K H H' B ρ σ rs vs) (e : looks ρ rs = some ds) : VwA K H' (AO B (Z ρ σ)) ds vs := by
  obtain ⟨h1, h2⟩ := looks_some e
  refine vwA_of (by rw [h1, h.len]) fun k d v e1 e2 => ?_
  have hk : k < rs.length := by
    have := (List.getElem?_eq_some_iff.mp e1).1
    omega
  obtain ⟨d', e3, e4⟩ := h2 k rs[k] (List.getElem?_eq_getElem hk)
  rw [e1] at e3; cases e3
  have hm : ∀ b, AO B (Z ρ σ) b → AO B (Z ρ σ ++ tz rs vs) b := fun b z => z.elim .inl fun z => .inr (own_app.mpr (.inl z))
  have mt : (sl rs[k], some v) ∈ Z ρ σ ++ tz rs vs := by
    refine List.mem_append_right _ (List.mem_of_getElem? (i := k) ?_)
    simp [List.getElem?_zip_eq_some, e2, hk]
  cases hr : rs[k] with
  | v d0 =>
    rw [hr] at e4 mt
    obtain rfl : d0 = d := by simpa [look] using e4
    obtain ⟨u, e5, r⟩ := h.er.val d0 _ mt
    cases e5
    exact (r.mono hm).vw
  | o xs =>
    rw [hr] at e4 mt
    obtain rfl : d = .list xs := by simpa [look] using e4.symm
    obtain ⟨a, ys, e5, hl, r, _⟩ := h.er.own false xs _ mt
    cases e5
    exact ⟨a, ys, rfl, .inl (.inl hl), r.mono hm⟩
  | b i =>
    rw [hr] at e4
    obtain ⟨w, e5, e6⟩ := h.bo k i (by rw [← hr]; exact List.getElem?_eq_getElem hk)
    rw [e2] at e5; cases e5
    simp only [look] at e4
    split at e4
    · rename_i p xs e7
      obtain rfl : d = .list xs := by simpa using e4.symm
      obtain ⟨a, ys, e5, hl, r, _⟩ := h.er.own p xs _ (List.mem_append_left _ (mem_Z e7 e6))
      cases e5
      exact ⟨a, ys, rfl, .inl (.inl hl), r.mono hm⟩
    · rename_i d0 e7
      obtain rfl : d0 = d := by simpa using e4
      obtain ⟨u, e5, r⟩ := h.er.val d0 _ (List.mem_append_left _ (mem_Z e7 e6))
      cases e5
      exact (r.mono hm).vw
    · cases e4
end

/-! ### operations on values -/
/-- what an operation gives: a value over what was there, or a new list -/
def RN (K : PySem.W.Frag) (H H' : Hp) (A : Addr → Prop) : R → V → Prop
  | .v d, w => Rep K H' A d w
  | .o xs, w => ∃ p vs, w = .ref p ∧ H p = none ∧ H' p = some (.lst vs) ∧ RepA K H' (fun b => A b ∨ b = p) xs vs
  | .b _, _ => False
def rN (K : PySem.W.Frag) (f : List D → Option R) : List V → Hp → VK → Prop := fun vs H Q => ∃ A ds r, (∀ b, A b → H b ≠ none) ∧ VwA K H A ds vs ∧ f ds = some r ∧
  ∀ w H', Same H H' → RN K H H' A r w → Q w H'
def r2 (K : PySem.W.Frag) (f : List D → Option R) : R2 := fun x y H Q => rN K f [x, y] H Q
def r1 (K : PySem.W.Frag) (f : List D → Option R) : V → Hp → VK → Prop := fun x H Q => rN K f [x] H Q
def dOp (f : List D → Option R) (ts : TDs) : TD := fun ρ => match ts ρ with
  | some (rs, ρ') => match looks ρ' rs with
    | some ds => match f ds with
      | some r => some (r, ρ')
      | none => none
    | none => none
  | none => none
theorem dOp_some {f : List D → Option R} {ts : TDs} {ρ : Rho} {q : R × Rho} (h : dOp f ts ρ = some q) : ∃ rs ρ' ds r, ts ρ = some (rs, ρ') ∧ looks ρ' rs = some ds ∧ f ds = some r ∧ q = (r, ρ') := by
  unfold dOp at h
  split at h
  · rename_i rs ρ' e
    split at h
    · rename_i ds e2
      split at h
      · rename_i r e3
        cases h
        exact ⟨rs, ρ', ds, r, e, e2, e3, rfl⟩
      · cases h
    · cases h
  · cases h
/-- an operation's result as a run's -/
theorem RN.rss {K : PySem.W.Frag} {H0 H H' : Hp} {B : Addr → Prop} {ρ : Rho} {σ : St} {r : R} {w : V} (er : ER K H B (Z ρ σ)) (sm : Same H H') (h0 : ∀ b, H0 b ≠ none → H b ≠ none) (h : RN K H H' (AO B (Z ρ σ)) r w) : RSs K H0 H' B ρ σ [r] [w] := by
  have st : Stp (Z ρ σ) H (Z ρ σ) H' := .same sm
  have er' : ER K H' B (Z ρ σ) := by
    refine ⟨fun d v m => ?_, fun p xs v m => ?_, er.nd, fun b z => st.trk b (er.trk b z)⟩
    · obtain ⟨u, e, q⟩ := er.val d v m
      exact ⟨u, e, q.step er st⟩
    · obtain ⟨a, vs, e, hl, q, nb⟩ := er.own p xs v m
      exact ⟨a, vs, e, sm _ _ hl, q.step er st, nb⟩
  have h0n : ∀ a, H a = none → H0 a = none := fun a z => by
    cases q : H0 a with
    | none => rfl
    | some o => exact absurd z (h0 a (by rw [q]; simp))
  have add : ∀ x : Option Slot × Option V, (∀ d v, x = (some (.val d), v) → ∃ u, v = some u ∧ Rep K H' (AO B (Z ρ σ ++ [x])) d u) →
      (∀ p xs v, x = (some (.own p xs), v) → ∃ a vs, v = some (.ref a) ∧ H a = none ∧ H' a = some (.lst vs) ∧ RepA K H' (AO B (Z ρ σ ++ [x])) xs vs) → ER K H' B (Z ρ σ ++ [x]) := fun x hv ho => by
    have hown : ∀ a, isOwn x a → H a = none := fun a ⟨b, xs, e⟩ => by
      obtain ⟨c, vs, e2, h1, _⟩ := ho b xs _ e
      cases e2; exact h1
    have hA : ∀ b, H b ≠ none → AO B (Z ρ σ ++ [x]) b → AO B (Z ρ σ) b := fun b t z => by
      rcases z with z | z
      · exact .inl z
      · rcases own_app.mp z with z | z
        · exact .inr z
        · rcases own_cons.mp z with z | z
          · exact absurd (hown b z) t
          · exact absurd z own_nil
    refine ⟨fun d v m => ?_, fun p xs v m => ?_, ?_, er'.trk⟩
    · rcases List.mem_append.mp m with m | m
      · obtain ⟨u, e, q⟩ := er.val d v m
        exact ⟨u, e, q.same sm hA⟩
      · exact hv d v (by simpa using (List.mem_singleton.mp m).symm)
    · rcases List.mem_append.mp m with m | m
      · obtain ⟨a, vs, e, hl, q, nb⟩ := er.own p xs v m
        exact ⟨a, vs, e, sm _ _ hl, q.same sm hA, nb⟩
      · obtain ⟨a, vs, e, h1, h2, h3⟩ := ho p xs v (by simpa using (List.mem_singleton.mp m).symm)
        exact ⟨a, vs, e, h2, h3, fun z => er.trk a z h1⟩
    · refine List.pairwise_append.mpr ⟨er.nd, List.pairwise_singleton _ _, fun p hp q hq a ip iq => ?_⟩
      obtain rfl := List.mem_singleton.mp hq
      obtain ⟨vs, hl⟩ := er.lst (own_iff.mpr ⟨p, hp, ip⟩)
      rw [hown a iq] at hl; cases hl
  cases r with
  | v d =>
    have hno : ∀ b, Own [(some (Slot.val d), some w)] b → False := fun b z => by
      rcases own_cons.mp z with ⟨_, _, z⟩ | z
      · cases z
      · exact own_nil z
    refine ⟨rfl, add (some (.val d), some w) (fun d' v e => ?_) (fun p xs v e => by cases e), fun a z => (hno a z).elim, fun k i z => by cases k <;> simp at z⟩
    cases e
    exact ⟨w, rfl, Rep.mono h fun b z => z.elim .inl fun z => (own_app.mp z).elim .inr fun z => (hno b z).elim⟩
  | o xs =>
    obtain ⟨p, vs, rfl, h1, h2, h3⟩ := h
    have hno : ∀ b, Own [(some (Slot.own false xs), some (V.ref p))] b → b = p := fun b z => by
      rcases own_cons.mp z with ⟨_, _, z⟩ | z
      · cases z; rfl
      · exact (own_nil z).elim
    refine ⟨rfl, add (some (.own false xs), some (.ref p)) (fun d' v e => by cases e) (fun q ys v e => ?_), fun a z => by rw [hno a z]; exact h0n p h1, fun k i z => by cases k <;> simp at z⟩
    cases e
    exact ⟨p, vs, rfl, h1, h2, h3.mono fun b z => z.elim (fun z => .inl (.inl z)) fun z => (own_app.mp z).elim (fun z => .inl (.inr z)) fun z => .inr (hno b z)⟩
  | b i => exact h.elim
theorem op_read {K : PySem.W.Frag} {f : List D → Option R} {ts : TDs} {σ : St} {H : Hp} {Q : VK} (h : rd K (dOp f ts) σ H Q) : rds K ts σ H fun vs H1 => rN K f vs H1 Q := by
  obtain ⟨B, ρ, r, ρ', hl, er, e, k⟩ := h
  obtain ⟨rs, ρ', ds, r, e1, e2, e3, e4⟩ := dOp_some e
  cases e4
  refine ⟨B, ρ, rs, ρ', hl, er, e1, fun vs H1 lk st rr => ?_⟩
  have er1 := rr.er.left
  refine ⟨AO B (Z ρ' σ), ds, r, fun b z => ?_, rr.vw e2, e3, fun w H2 sm rn => ?_⟩
  · rcases z with z | z
    · exact er1.trk b z
    · obtain ⟨vs, q⟩ := er1.lst z
      rw [q]; simp
  · exact k w H2 lk (st.trans (.same sm)) (RN.rss er1 sm st.trk rn)
section
variable {X : Cx} {a b e : Expr} {es : List Expr} {ta tb t : TD} {ts : TDs} {f : List D → Option R} {pos p : Pos} {x : Str} {id : String}
theorem de_bin {op : Operator} (ho : OpR X (binaryOp op) (r2 X.K f)) (ha : DE X a ta) (hb : DE X b tb) : DE X (.BinOp a op b pos) (dOp f (dCons ta (dCons tb dNil))) :=
  pe_weak (pe_op ho ha hb) fun _ _ _ h => two_read (op_read h)
theorem de_cmp {op : CmpOp} (ho : OpR X (compareOp op) (r2 X.K f)) (ha : DE X a ta) (hb : DE X b tb) (hm : behindInMarks op b = false) : DE X (.Compare a [op] [b] pos) (dOp f (dCons ta (dCons tb dNil))) :=
  pe_weak (pe_cmpR ho ha hb hm) fun _ _ _ h => two_read (op_read h)
theorem de_un {op : UnaryOp} (ho : UnR X (unaryOp op) (r1 X.K f)) (ha : DE X a ta) : DE X (.UnaryOp op a pos) (dOp f (dCons ta dNil)) :=
  pe_weak (pe_un ho ha) fun _ _ _ h => one_read (op_read h)
theorem de_ix (ho : IxR X (r2 X.K f)) (ha : DE X a ta) (hb : DE X b tb) (hs : PlainIx b) : DE X (.Subscript a b pos) (dOp f (dCons ta (dCons tb dNil))) :=
  pe_weak (pe_ix ho ha hb hs) fun _ _ _ h => two_read (op_read h)
theorem de_callB (hc : CallR X (.builtin id) (rN X.K f)) (hg : Gl X x) (hm : X.mg x = none) (hv : bootBuiltins x = some (.builtin id)) (ha : DA X (e :: es) ts) (hn : x ≠ "__name__") (hdb : (x == ("__debug__" : Str)) = false)
    (he : starEach (e :: es) X.env = (false, eval e X.env) :: starEach es X.env) (hpl : (backTo pos (starEach es X.env)).any (·.1) = false) : DE X (.Call (.Name x p) (e :: es) [] pos) (dOp f ts) :=
  pe_weak (pe_callB hc hg hm hv ha hn hdb he hpl) fun _ _ _ h => op_read h
theorem de_callTy {T : String} (hc : CallR X (.type T) (rN X.K f)) (hg : Gl X x) (hm : X.mg x = none) (hv : bootBuiltins x = some (.type T)) (ha : DA X (e :: es) ts) (hn : x ≠ "__name__") (hdb : (x == ("__debug__" : Str)) = false)
    (he : starEach (e :: es) X.env = (false, eval e X.env) :: starEach es X.env) (hpl : (backTo pos (starEach es X.env)).any (·.1) = false) : DE X (.Call (.Name x p) (e :: es) [] pos) (dOp f ts) :=
  pe_weak (pe_callTy hc hg hm hv ha hn hdb he hpl) fun _ _ _ h => op_read h
theorem de_callF (hc : CallR X (.builtin id) (rN X.K f)) (hg : Gl X x) (hm : X.mg x = some (.builtin id)) (ha : DA X (e :: es) ts) (hdb : (x == ("__debug__" : Str)) = false)
    (he : starEach (e :: es) X.env = (false, eval e X.env) :: starEach es X.env) (hpl : (backTo pos (starEach es X.env)).any (·.1) = false) : DE X (.Call (.Name x p) (e :: es) [] pos) (dOp f ts) :=
  pe_weak (pe_callBfun hc hg hm ha hdb he hpl) fun _ _ _ h => op_read h
end

/-! ### names, constants -/
def dLoc (i : Nat) : TD := fun ρ => match ρ[i]? with
  | some (some (.val d)) => some (.v d, ρ)
  | some (some (.own _ _)) => some (.b i, ρ)
  | _ => none
def dCon (d : D) : TD := fun ρ => some (.v d, ρ)
theorem rss_val {K : PySem.W.Frag} {H H' : Hp} {B : Addr → Prop} {ρ : Rho} {σ : St} {d : D} {w : V} (er : ER K H' B (Z ρ σ)) (r : Rep K H' (AO B (Z ρ σ)) d w) : RSs K H H' B ρ σ [.v d] [w] := by
  have hno : ∀ b, Own [(some (Slot.val d), some w)] b → False := fun b z => by
    rcases own_cons.mp z with ⟨_, _, z⟩ | z
    · cases z
    · exact own_nil z
  have hA : ∀ b, AO B (Z ρ σ ++ [(some (Slot.val d), some w)]) b → AO B (Z ρ σ) b := fun b z => z.elim .inl fun z => (own_app.mp z).elim .inr fun z => (hno b z).elim
  refine ⟨rfl, ⟨fun d' v m => ?_, fun p xs v m => ?_, ?_, er.trk⟩, fun a z => (hno a z).elim, fun k i z => by cases k <;> simp at z⟩
  · rcases List.mem_append.mp m with m | m
    · obtain ⟨u, e, q⟩ := er.val d' v m
      exact ⟨u, e, q.mono hA⟩
    · have m := List.mem_singleton.mp m
      simp only [Prod.mk.injEq, sl] at m
      obtain ⟨m1, m2⟩ := m
      cases m1
      exact ⟨w, m2, r.mono hA⟩
  · rcases List.mem_append.mp m with m | m
    · obtain ⟨a, vs, e, hl, q, nb⟩ := er.own p xs v m
      exact ⟨a, vs, e, hl, q.mono hA, nb⟩
    · have m := List.mem_singleton.mp m
      simp only [Prod.mk.injEq, sl] at m
      cases m.1
  · refine List.pairwise_append.mpr ⟨er.nd, List.pairwise_singleton _ _, fun p hp q hq a ip iq => ?_⟩
    obtain rfl := List.mem_singleton.mp hq
    obtain ⟨_, _, iq⟩ := iq
    cases iq
theorem rss_b {K : PySem.W.Frag} {H H' : Hp} {B : Addr → Prop} {ρ : Rho} {σ : St} {i : Nat} {w : V} (er : ER K H' B (Z ρ σ)) (h : σ[i]? = some (some w)) : RSs K H H' B ρ σ [.b i] [w] := by
  have hno : ∀ b, Own [((none : Option Slot), some w)] b → False := fun b z => by
    rcases own_cons.mp z with ⟨_, _, z⟩ | z
    · cases z
    · exact own_nil z
  have hA : ∀ b, AO B (Z ρ σ ++ [((none : Option Slot), some w)]) b → AO B (Z ρ σ) b := fun b z => z.elim .inl fun z => (own_app.mp z).elim .inr fun z => (hno b z).elim
  refine ⟨rfl, ⟨fun d' v m => ?_, fun p xs v m => ?_, ?_, er.trk⟩, fun a z => (hno a z).elim, fun k j z => ?_⟩
  · rcases List.mem_append.mp m with m | m
    · obtain ⟨u, e, q⟩ := er.val d' v m
      exact ⟨u, e, q.mono hA⟩
    · have m := List.mem_singleton.mp m
      simp only [Prod.mk.injEq, sl] at m
      cases m.1
  · rcases List.mem_append.mp m with m | m
    · obtain ⟨a, vs, e, hl, q, nb⟩ := er.own p xs v m
      exact ⟨a, vs, e, hl, q.mono hA, nb⟩
    · have m := List.mem_singleton.mp m
      simp only [Prod.mk.injEq, sl] at m
      cases m.1
  · refine List.pairwise_append.mpr ⟨er.nd, List.pairwise_singleton _ _, fun p hp q hq a ip iq => ?_⟩
    obtain rfl := List.mem_singleton.mp hq
    obtain ⟨_, _, iq⟩ := iq
    cases iq
  · cases k with
    | zero => simp at z; subst z; exact ⟨w, by simp, h⟩
    | succ k => simp at z
theorem zget {ρ : Rho} {σ : St} {i : Nat} {s : Option Slot} (hl : ρ.length = σ.length) (h : ρ[i]? = some s) : ∃ v, σ[i]? = some v ∧ (s, v) ∈ Z ρ σ := by
  have hi : i < σ.length := by rw [← hl]; exact (List.getElem?_eq_some_iff.mp h).1
  exact ⟨σ[i], List.getElem?_eq_getElem hi, mem_Z h (List.getElem?_eq_getElem hi)⟩
section
variable {X : Cx} {pos : Pos}
theorem de_loc {i : Nat} {x : Str} (hN : X.N[i]? = some x) (hv : Vis X.env.scope x) (hd : (x == ("__debug__" : Str)) = false) (hcd : (x == ("__classdict__" : Str)) = false) : DE X (.Name x pos) (dLoc i) := by
  refine pe_weak (pe_var hN hv hd hcd) fun σ H Q h => ?_
  obtain ⟨B, ρ, r, ρ', hl, er, e, k⟩ := h
  unfold dLoc at e
  split at e
  · rename_i d e1
    cases e
    obtain ⟨v, e2, m⟩ := zget hl e1
    obtain ⟨u, e3, q⟩ := er.val d v m
    subst e3
    exact ⟨u, e2, k u H (.refl _) .refl (rss_val er q)⟩
  · rename_i p xs e1
    cases e
    obtain ⟨v, e2, m⟩ := zget hl e1
    obtain ⟨a, vs, e3, _⟩ := er.own p xs v m
    subst e3
    exact ⟨.ref a, e2, k _ H (.refl _) .refl (rss_b er e2)⟩
  · cases e
theorem con_read {K : PySem.W.Frag} {d : D} {v : V} {σ : St} {H : Hp} {Q : VK} (hr : ∀ H A, Rep K H A d v) (h : rd K (dCon d) σ H Q) : tC v σ H Q := by
  obtain ⟨B, ρ, r, ρ', hl, er, e, k⟩ := h
  unfold dCon at e
  cases e
  exact k v H (.refl _) .refl (rss_val er (hr _ _))
theorem rep_non {K H A} : Rep K H A .none .non := by unfold Rep; rfl
theorem rep_bl {K H A} {b : Bool} : Rep K H A (.bool b) (.bl b) := by unfold Rep; rfl
theorem rep_int {K H A} {i : Int} : Rep K H A (.int i) (.int i) := by unfold Rep; rfl
theorem rep_str {K H A} {i : Str} : Rep K H A (.str i) (.str i) := by unfold Rep; rfl
theorem de_int {i : Int} {j} : DE X (.Constant (.int i) j pos) (dCon (.int i)) := pe_weak pe_int fun _ _ _ h => con_read (fun _ _ => rep_int) h
theorem de_bl {i : Bool} {j} : DE X (.Constant (.bool i) j pos) (dCon (.bool i)) := pe_weak pe_bl fun _ _ _ h => con_read (fun _ _ => rep_bl) h
theorem de_non {j} : DE X (.Constant .none j pos) (dCon .none) := pe_weak pe_non fun _ _ _ h => con_read (fun _ _ => rep_non) h
theorem de_str {i : Str} {j} : DE X (.Constant (.str i) j pos) (dCon (.str i)) := pe_weak pe_str fun _ _ _ h => con_read (fun _ _ => rep_str) h
/-- a module's constant -/
theorem de_glob {x : Str} {d : D} {v : V} {u : Value} (hg : Gl X x) (hm : X.mg x = some u) (r : RelV v u) (hr : ∀ H A, Rep X.K H A d v) (hd : (x == ("__debug__" : Str)) = false) : DE X (.Name x pos) (dCon d) :=
  pe_weak (pe_glob hg hm r hd) fun _ _ _ h => con_read hr h
end
end Dn

set_option Elab.async false
set_option linter.all false
set_option maxRecDepth 100000
set_option maxHeartbeats 2000000
namespace Dn
open PySem PySem.Spec PyProof.Rows L2

/-! ### lists handed away: what was owned stays as it is from now on -/
/-- the results as values; what a slot owned is frozen in the slot -/
def frz : List R → Rho → Option (List D × Rho)
  | [], ρ => some ([], ρ)
  | .v d :: rs, ρ => match frz rs ρ with
    | some (ds, ρ') => some (d :: ds, ρ')
    | none => none
  | .o xs :: rs, ρ => match frz rs ρ with
    | some (ds, ρ') => some (.list xs :: ds, ρ')
    | none => none
  | .b i :: rs, ρ => match ρ[i]? with
    | some (some (.own false xs)) => match frz rs (ρ.set i (some (.val (.list xs)))) with
      | some (ds, ρ') => some (.list xs :: ds, ρ')
      | none => none
    | some (some (.val d)) => match frz rs ρ with
      | some (ds, ρ') => some (d :: ds, ρ')
      | none => none
    | _ => none
theorem set_perm {α : Type} : ∀ {l : List α} {i : Nat} {x y : α}, l[i]? = some x → (l.set i y).Perm (y :: l.eraseIdx i) ∧ l.Perm (x :: l.eraseIdx i)
  | [], _, _, _, h => by simp at h
  | a :: l, 0, x, y, h => by simp at h; subst h; exact ⟨.refl _, .refl _⟩
  | a :: l, i + 1, x, y, h => by
    have h := set_perm (y := y) (l := l) (i := i) (by simpa using h)
    exact ⟨(List.Perm.cons a h.1).trans (.swap _ _ _), (List.Perm.cons a h.2).trans (.swap _ _ _)⟩
theorem Z_set {ρ : Rho} {σ : St} {i : Nat} {s : Option Slot} {v : Option V} (h : σ[i]? = some v) (hl : ρ.length = σ.length) : Z (ρ.set i s) σ = (Z ρ σ).set i (s, v) := by
  apply List.ext_getElem?
  intro j
  by_cases e : i = j
  · subst e
    have hi : i < σ.length := (List.getElem?_eq_some_iff.mp h).1
    have hv : σ[i] = v := by simpa [List.getElem?_eq_getElem hi] using h
    simp [Z, List.getElem?_set, hl, hi, List.getElem?_zip_eq_some, List.zip, hv]
  · simp [Z, List.getElem?_set, e, List.zip, List.getElem?_zipWith]
theorem Z_set2 {ρ : Rho} {σ : St} {i : Nat} {s : Option Slot} {v : Option V} (hi : i < σ.length) (hl : ρ.length = σ.length) : Z (ρ.set i s) (σ.set i v) = (Z ρ σ).set i (s, v) := by
  apply List.ext_getElem?
  intro j
  by_cases e : i = j
  · subst e
    simp [Z, List.getElem?_set, hl, hi, List.zip]
  · simp [Z, List.getElem?_set, e, List.zip, List.getElem?_zipWith]
section
variable {K : PySem.W.Frag} {H H' : Hp} {B : Addr → Prop} {E F : Ent}
/-- an entry that owns a list: the list stays, nobody owns it -/
theorem ER.loose {p : Bool} {xs : List D} {v : Option V} (h : ER K H B ((some (.own p xs), v) :: E)) : ER K H B ((some (.val (.list xs)), v) :: E) := by
  have ho : ∀ a, Own ((some (Slot.val (.list xs)), v) :: E) a → Own ((some (Slot.own p xs), v) :: E) a := fun a z => by
    rcases own_cons.mp z with ⟨_, _, z⟩ | z
    · cases z
    · exact own_cons.mpr (.inr z)
  have hm : ∀ b, AO B ((some (Slot.val (.list xs)), v) :: E) b → AO B ((some (Slot.own p xs), v) :: E) b := fun b z => z.elim .inl fun z => .inr (ho b z)
  have nd := List.pairwise_cons.mp h.nd
  refine ⟨fun d u m => ?_, fun q ys u m => ?_, List.pairwise_cons.mpr ⟨fun q hq a ⟨_, _, z⟩ => (by cases z), nd.2⟩, h.trk⟩
  · rcases List.mem_cons.mp m with m | m
    · cases m
      obtain ⟨a, vs, e, hl, r, nb⟩ := h.own p xs v List.mem_cons_self
      refine ⟨.ref a, e, ?_⟩
      unfold Rep
      refine ⟨a, vs, rfl, .inl ⟨fun z => ?_, .inl hl⟩, r.mono hm⟩
      rcases z with z | z
      · exact nb z
      · rcases own_cons.mp z with ⟨_, _, z⟩ | z
        · cases z
        · obtain ⟨q, hq, iq⟩ := own_iff.mp z
          subst e
          exact nd.1 q hq a ⟨p, xs, rfl⟩ iq
    · obtain ⟨w, e, r⟩ := h.val d u (List.mem_cons_of_mem _ m)
      exact ⟨w, e, r.mono hm⟩
  · have m : (some (Slot.own q ys), u) ∈ E := by
      rcases List.mem_cons.mp m with m | m
      · cases m
      · exact m
    obtain ⟨a, vs, e, hl, r, nb⟩ := h.own q ys u (List.mem_cons_of_mem _ m)
    exact ⟨a, vs, e, hl, r.mono hm, nb⟩
theorem own_loose {p : Bool} {xs : List D} {v : Option V} {a : Addr} (z : Own ((some (Slot.val (.list xs)), v) :: E) a) : Own ((some (Slot.own p xs), v) :: E) a := by
  rcases own_cons.mp z with ⟨_, _, z⟩ | z
  · cases z
  · exact own_cons.mpr (.inr z)
end
theorem own_perm {E F : Ent} {a : Addr} (p : E.Perm F) : Own E a ↔ Own F a :=
  ⟨fun ⟨b, xs, m⟩ => ⟨b, xs, p.mem_iff.mp m⟩, fun ⟨b, xs, m⟩ => ⟨b, xs, p.mem_iff.mpr m⟩⟩
section
variable {K : PySem.W.Frag} {H H0 H' : Hp} {B : Addr → Prop} {ρ : Rho} {σ : St} {rs : List R} {vs : List V}
/-- a slot's list is frozen in the slot -/
theorem freeze_er {i : Nat} {xs : List D} {T : Ent} (hl : ρ.length = σ.length) (e : ρ[i]? = some (some (.own false xs))) (er : ER K H B (Z ρ σ ++ T)) :
    ER K H B (Z (ρ.set i (some (.val (.list xs)))) σ ++ T) ∧ ∀ a, Own (Z (ρ.set i (some (.val (.list xs)))) σ) a → Own (Z ρ σ) a := by
  obtain ⟨v, e2, m⟩ := zget hl e
  have g : (Z ρ σ)[i]? = some (some (.own false xs), v) := by simp [Z, List.getElem?_zip_eq_some, e, e2]
  have p := set_perm (y := (some (Slot.val (.list xs)), v)) g
  rw [Z_set e2 hl]
  refine ⟨?_, fun a z => (own_perm p.2).mpr (own_loose ((own_perm p.1).mp z))⟩
  have er2 := er.perm (List.Perm.append_right T p.2)
  exact (ER.loose er2).perm (List.Perm.append_right T p.1).symm
theorem frz_ok : ∀ {rs : List R} {vs : List V} {ρ ρ' : Rho} {ds : List D}, ρ.length = σ.length → frz rs ρ = some (ds, ρ') → RSs K H0 H B ρ σ rs vs →
    ER K H B (Z ρ' σ) ∧ RepA K H (AO B (Z ρ' σ)) ds vs ∧ Lk ρ ρ' ∧ ∀ a, Own (Z ρ' σ) a → Own (Z ρ σ) a := by
  intro rs
  induction rs with
  | nil =>
    intro vs ρ ρ' ds hl e r
    simp only [frz] at e
    cases e
    have : vs = [] := List.length_eq_zero_iff.mp r.len.symm
    subst this
    exact ⟨r.er.left, .nil, .refl _, fun _ z => z⟩
  | cons r rs ih =>
    intro vs ρ ρ' ds hl e q
    obtain ⟨v, vs, rfl⟩ : ∃ v ws, vs = v :: ws := by
      cases vs with
      | nil => have := q.len; simp at this
      | cons v ws => exact ⟨v, ws, rfl⟩
    have bo' : ∀ (k i : Nat), rs[k]? = some (.b i) → ∃ w, vs[k]? = some w ∧ σ[i]? = some (some w) := fun k i z => by
      obtain ⟨w, h1, h2⟩ := q.bo (k + 1) i (by simpa using z)
      exact ⟨w, by simpa using h1, h2⟩
    have len' : rs.length = vs.length := by have := q.len; simpa using this
    have er0 : ER K H B (Z ρ σ ++ ((sl r, some v) :: tz rs vs)) := q.er
    have tail : ∀ {ρ1 : Rho}, ER K H B (Z ρ1 σ ++ tz rs vs) → RSs K H0 H B ρ1 σ rs vs := fun {ρ1} h => ⟨len', h, fun a z => q.fr a (own_cons.mpr (.inr z)), bo'⟩
    have erT : ER K H B (Z ρ σ ++ tz rs vs) := er0.sub (List.Sublist.append_left (List.sublist_cons_self _ _) _)
    -- what is true of the head before the rest is frozen, with the temporaries put aside
    cases r with
    | v d =>
      simp only [frz] at e
      split at e
      · rename_i ds' ρ1 e1
        cases e
        obtain ⟨h1, h2, h3, h4⟩ := ih hl e1 (tail erT)
        obtain ⟨u, e5, rp⟩ := er0.val d _ (List.mem_append_right _ List.mem_cons_self)
        cases e5
        exact ⟨h1, .cons (rp.mono fun b z => z.elim .inl fun z => .inr (own_app.mpr (.inl (h4 b z)))) h2, h3, h4⟩
      · cases e
    | o xs =>
      simp only [frz] at e
      split at e
      · rename_i ds' ρ1 e1
        cases e
        obtain ⟨h1, h2, h3, h4⟩ := ih hl e1 (tail erT)
        have er1 : ER K H B ((some (.own false xs), some v) :: (Z ρ σ ++ tz rs vs)) := er0.perm List.perm_middle
        have er2 := er1.loose
        obtain ⟨u, e5, rp⟩ := er2.val _ _ List.mem_cons_self
        cases e5
        exact ⟨h1, .cons (rp.mono fun b z => z.elim .inl fun z => .inr (own_cons.mpr (.inr (own_app.mpr (.inl (h4 b z)))))) h2, h3, h4⟩
      · cases e
    | b i =>
      simp only [frz] at e
      obtain ⟨w, ew, ei⟩ := q.bo 0 i (by simp)
      have ew : v = w := by simpa using ew
      subst ew
      split at e
      · rename_i xs e1
        split at e
        · rename_i ds' ρ1 e2
          cases e
          obtain ⟨er3, hO⟩ := freeze_er hl e1 erT
          have hl3 : (ρ.set i (some (.val (.list xs)))).length = σ.length := by simpa using hl
          obtain ⟨h1, h2, h3, h4⟩ := ih hl3 e2 (tail er3)
          have mem : (some (Slot.val (.list xs)), some v) ∈ Z (ρ.set i (some (.val (.list xs)))) σ := by
            refine mem_Z (i := i) ?_ ei
            have hi : i < ρ.length := (List.getElem?_eq_some_iff.mp e1).1
            simp [hi]
          obtain ⟨u, e5, rp⟩ := er3.left.val _ _ mem
          cases e5
          refine ⟨h1, .cons (rp.mono fun b z => z.elim .inl fun z => .inr (h4 b z)) h2, ⟨by rw [h3.len]; simp, fun j ys z => h3.pin j ys ?_⟩, fun a z => hO a (h4 a z)⟩
          have hij : i ≠ j := fun e => by subst e; rw [e1] at z; cases z
          rw [List.getElem?_set_ne hij]; exact z
        · cases e
      · rename_i d e1
        split at e
        · rename_i ds' ρ1 e2
          cases e
          obtain ⟨h1, h2, h3, h4⟩ := ih hl e2 (tail erT)
          obtain ⟨u, e5, rp⟩ := erT.left.val d _ (mem_Z e1 ei)
          cases e5
          exact ⟨h1, .cons (rp.mono fun b z => z.elim .inl fun z => .inr (h4 b z)) h2, h3, h4⟩
        · cases e
      · cases e
end

/-! ### tuples, lists -/
def dTup (ts : TDs) : TD := fun ρ => match ts ρ with
  | some (rs, ρ1) => match frz rs ρ1 with
    | some (ds, ρ2) => if ds.length ≤ 1000 then some (.v (.tuple ds), ρ2) else none
    | none => none
  | none => none
def dLst (ts : TDs) : TD := fun ρ => match ts ρ with
  | some (rs, ρ1) => match frz rs ρ1 with
    | some (ds, ρ2) => if ds.length ≤ 1000 then some (.o ds, ρ2) else none
    | none => none
  | none => none
theorem upd_same_of {H : Hp} {p : Addr} {o : HO} (h : H p = none) : Same H (upd H p o) := fun b x e => by
  rw [upd_ne (ne_of_none e h)]
  exact e
theorem stp_own {E E' : Ent} {H : Hp} (h : ∀ a, Own E' a → Own E a) : Stp E H E' H := ⟨fun _ _ q _ => q, fun b _ z => h b z, fun _ q => q⟩
theorem rep_tup {K : PySem.W.Frag} {H : Hp} {A : Addr → Prop} {p : Addr} {ds : List D} {vs : List V} (np : H p = none) (h : RepA K H A ds vs) : Rep K (upd H p (.tup vs)) A (.tuple ds) (.ref p) := by
  unfold Rep
  exact ⟨p, vs, rfl, .inl (.inl upd_same), h.same (upd_same_of np) fun _ _ z => z⟩
theorem rn_tup {K : PySem.W.Frag} {H : Hp} {A : Addr → Prop} {p : Addr} {ds : List D} {vs : List V} (np : H p = none) (h : RepA K H A ds vs) : RN K H (upd H p (.tup vs)) A (.v (.tuple ds)) (.ref p) := rep_tup np h
theorem rn_lst {K : PySem.W.Frag} {H : Hp} {A : Addr → Prop} {p : Addr} {ds : List D} {vs : List V} (np : H p = none) (h : RepA K H A ds vs) : RN K H (upd H p (.lst vs)) A (.o ds) (.ref p) :=
  ⟨p, vs, rfl, np, upd_same, h.same (upd_same_of np) fun b t z => z.elim id fun z => absurd (by rw [z]; exact np) t⟩
theorem lt1000 {n : Nat} (h : n ≤ 1000) : n ≤ sizeLine := Nat.le_trans h (by decide)
section
variable {X : Cx} {es : List Expr} {ts : TDs} {pos : Pos}
theorem de_tup {k} (h : DA X es ts) : DE X (.Tuple es k pos) (dTup ts) := by
  refine pe_weak (pe_tup h) fun σ H Q q => ?_
  obtain ⟨B, ρ, r, ρ', hl, er, e, k⟩ := q
  unfold dTup at e
  split at e
  · rename_i rs ρ1 e1
    split at e
    · rename_i ds ρ2 e2
      split at e
      · rename_i hlen
        cases e
        refine ⟨B, ρ, rs, ρ1, hl, er, e1, fun vs H1 lk st rr => ?_⟩
        obtain ⟨h1, h2, h3, h4⟩ := frz_ok (lk.len.trans hl) e2 rr
        refine ⟨lt1000 (by rw [h2.len]; exact hlen), fun p np => ?_⟩
        have sm : Same H1 (upd H1 p (.tup vs)) := upd_same_of np
        have st2 : Stp (Z ρ σ) H (Z ρ' σ) H1 := st.trans (stp_own h4)
        exact k _ _ (lk.trans h3) (st2.trans (.same sm)) (RN.rss h1 sm st2.trk (rn_tup np h2))
      · cases e
    · cases e
  · cases e
theorem de_lst (h : DA X es ts) : DE X (.List es pos) (dLst ts) := by
  refine pe_weak (pe_lst h) fun σ H Q q => ?_
  obtain ⟨B, ρ, r, ρ', hl, er, e, k⟩ := q
  unfold dLst at e
  split at e
  · rename_i rs ρ1 e1
    split at e
    · rename_i ds ρ2 e2
      split at e
      · rename_i hlen
        cases e
        refine ⟨B, ρ, rs, ρ1, hl, er, e1, fun vs H1 lk st rr => ?_⟩
        obtain ⟨h1, h2, h3, h4⟩ := frz_ok (lk.len.trans hl) e2 rr
        refine ⟨lt1000 (by rw [h2.len]; exact hlen), fun p np => ?_⟩
        have sm : Same H1 (upd H1 p (.lst vs)) := upd_same_of np
        have st2 : Stp (Z ρ σ) H (Z ρ' σ) H1 := st.trans (stp_own h4)
        exact k _ _ (lk.trans h3) (st2.trans (.same sm)) (RN.rss h1 sm st2.trk (rn_lst np h2))
      · cases e
    · cases e
  · cases e
end

/-! ### truth, tests -/
def tru : D → Option Bool
  | .none => some false
  | .bool b => some b
  | .int i => some (i != 0)
  | .str x => if x.length ≤ 1000 then some ((x.length : Int) != 0) else none
  | .list ds => some (!ds.isEmpty)
  | .tuple ds => some (!ds.isEmpty)
  | .dict _ => none
theorem isEmpty_len {α β : Type} {l : List α} {m : List β} (h : l.length = m.length) : l.isEmpty = m.isEmpty := by
  cases l <;> cases m <;> simp at h <;> rfl
theorem Vw.tru {K : PySem.W.Frag} {H : Hp} {A : Addr → Prop} {d : D} {v : V} {b : Bool} (h : Vw K H A d v) (e : Dn.tru d = some b) : TruV K v H b := by
  cases d with
  | none => unfold Vw Rep at h; subst h; simp [Dn.tru] at e; subst e; rfl
  | bool c => unfold Vw Rep at h; subst h; simp [Dn.tru] at e; subst e; rfl
  | int i => unfold Vw Rep at h; subst h; simp only [Dn.tru, Option.some.injEq] at e; exact e.symm
  | str x =>
    unfold Vw Rep at h; subst h
    simp only [Dn.tru] at e
    split at e
    · rename_i hx
      cases e
      exact ⟨lt1000 hx, rfl⟩
    · cases e
  | list ds =>
    unfold Vw at h
    obtain ⟨a, xs, rfl, hr, hx⟩ := h
    simp only [Dn.tru, Option.some.injEq] at e
    exact .inl ⟨xs, hr.sq, by rw [← e, isEmpty_len hx.len]⟩
  | tuple ds =>
    unfold Vw Rep at h
    obtain ⟨a, xs, rfl, hr, hx⟩ := h
    simp only [Dn.tru, Option.some.injEq] at e
    exact .inr (.inl ⟨xs, hr, by rw [← e, isEmpty_len hx.len]⟩)
  | dict _ => simp [Dn.tru] at e
abbrev TB := Rho → Option (Bool × Rho)
def rdT (K : PySem.W.Frag) (t : TB) : TT := fun σ H Q => ∃ B ρ b ρ', ρ.length = σ.length ∧ ER K H B (Z ρ σ) ∧ t ρ = some (b, ρ') ∧
  ∀ H', Lk ρ ρ' → Stp (Z ρ σ) H (Z ρ' σ) H' → ER K H' B (Z ρ' σ) → Q b H'
def DT (X : Cx) (e : Expr) (t : TB) : Prop := PT X e (rdT X.K t)
def bNo : TB := fun _ => none
theorem dt_no {X : Cx} {e : Expr} : DT X e bNo := ⟨fun _ _ _ _ _ _ ⟨_, _, _, _, _, _, h, _⟩ => by cases h⟩
/-- a result's truth -/
def truR (ρ : Rho) (r : R) : Option Bool := match look ρ r with
  | some d => tru d
  | none => none
def bTru (t : TD) : TB := fun ρ => match t ρ with
  | some (r, ρ1) => match truR ρ1 r with
    | some b => some (b, ρ1)
    | none => none
  | none => none
section
variable {K : PySem.W.Frag} {H H' : Hp} {B : Addr → Prop} {ρ : Rho} {σ : St} {r : R} {v : V} {b : Bool}
theorem truR_ok (rr : RSs K H H' B ρ σ [r] [v]) (e : truR ρ r = some b) : TruV K v H' b := by
  unfold truR at e
  split at e
  · rename_i d e1
    have : looks ρ [r] = some [d] := by simp [looks, e1]
    cases rr.vw this with
    | cons q _ => exact q.tru e
  · cases e
theorem tru_read {t : TD} {Q : Bool → Hp → Prop} (h : rdT K (bTru t) σ H Q) : rd K t σ H fun x H1 => ∃ k, TruV K x H1 k ∧ Q k H1 := by
  obtain ⟨B, ρ, b, ρ', hl, er, e, k⟩ := h
  unfold bTru at e
  split at e
  · rename_i r ρ1 e1
    split at e
    · rename_i b' e2
      cases e
      exact ⟨B, ρ, r, ρ', hl, er, e1, fun v H1 lk st rr => ⟨b, truR_ok rr e2, k H1 lk st rr.er.left⟩⟩
    · cases e
  · cases e
end
/-- a bool -/
def asB : R → Option Bool
  | .v (.bool b) => some b
  | _ => none
def bVal (t : TD) : TB := fun ρ => match t ρ with
  | some (r, ρ1) => match asB r with
    | some b => some (b, ρ1)
    | none => none
  | none => none
theorem asB_some {r : R} {b : Bool} (h : asB r = some b) : r = .v (.bool b) := by
  unfold asB at h
  split at h
  · cases h; rfl
  · cases h
theorem bval_read {K : PySem.W.Frag} {t : TD} {σ : St} {H : Hp} {Q : Bool → Hp → Prop} (h : rdT K (bVal t) σ H Q) : rd K t σ H fun x H1 => ∃ k, x = .bl k ∧ Q k H1 := by
  obtain ⟨B, ρ, b, ρ', hl, er, e, k⟩ := h
  unfold bVal at e
  split at e
  · rename_i r ρ1 e1
    split at e
    · rename_i b' e2
      cases e
      obtain rfl := asB_some e2
      refine ⟨B, ρ, _, ρ', hl, er, e1, fun v H1 lk st rr => ⟨b, ?_, k H1 lk st rr.er.left⟩⟩
      have : looks ρ' [R.v (.bool b)] = some [.bool b] := by simp [looks, look]
      cases rr.vw this with
      | cons q _ => unfold Vw Rep at q; exact q
    · cases e
  · cases e
section
variable {X : Cx} {a b c e : Expr} {t u ta tb tc : TD} {f g : List D → Option R} {pos : Pos} {rest : List Expr}
theorem dt_tru (h : DE X e t) (he : ∀ whole, isTrue e X.env whole = (do let v ← whole; standAt e.pos; holding [v] (truthy v))) : DT X e (bTru t) :=
  pt_weak (pt_truth h he) fun _ _ _ h => tru_read h
theorem dt_cmp {op : CmpOp} (ho : OpR X (compareOp op) (r2 X.K f)) (ha : DE X a ta) (hb : DE X b tb) (hm : behindInMarks op b = false) : DT X (.Compare a [op] [b] pos) (bVal (dOp f (dCons ta (dCons tb dNil)))) :=
  pt_weak (pt_cmpR ho ha hb hm) fun σ H Q h => by
    have := bval_read h
    have h2 := two_read (op_read this)
    exact h2
/-- not -/
def bNot (t : TB) : TB := fun ρ => match t ρ with
  | some (b, ρ1) => some (!b, ρ1)
  | none => none
theorem dt_not {t : TB} (h : DT X a t) : DT X (.UnaryOp .Not a pos) (bNot t) := by
  refine pt_weak (pt_not h) fun σ H Q q => ?_
  obtain ⟨B, ρ, b, ρ', hl, er, e, k⟩ := q
  unfold bNot at e
  split at e
  · rename_i b' ρ1 e1
    cases e
    exact ⟨B, ρ, b', ρ', hl, er, e1, fun H1 lk st er1 => k H1 lk st er1⟩
  · cases e
def bAnd (t u : TB) : TB := fun ρ => match t ρ with
  | some (true, ρ1) => u ρ1
  | some (false, ρ1) => some (false, ρ1)
  | none => none
def bOr (t u : TB) : TB := fun ρ => match t ρ with
  | some (true, ρ1) => some (true, ρ1)
  | some (false, ρ1) => u ρ1
  | none => none
theorem band_read {K : PySem.W.Frag} {t u : TB} {σ : St} {H : Hp} {Q : Bool → Hp → Prop} (h : rdT K (bAnd t u) σ H Q) : tAnd (rdT K t) (rdT K u) σ H Q := by
  obtain ⟨B, ρ, b, ρ', hl, er, e, k⟩ := h
  unfold bAnd at e
  split at e
  · rename_i ρ1 e1
    refine ⟨B, ρ, true, ρ1, hl, er, e1, fun H1 lk st er1 => ?_⟩
    refine iteT ?_
    exact ⟨B, ρ1, b, ρ', lk.len.trans hl, er1, e, fun H2 lk2 st2 er2 => k H2 (lk.trans lk2) (st.trans st2) er2⟩
  · rename_i ρ1 e1
    cases e
    refine ⟨B, ρ, false, ρ', hl, er, e1, fun H1 lk st er1 => ?_⟩
    refine iteF ?_
    exact k H1 lk st er1
  · cases e
theorem bor_read {K : PySem.W.Frag} {t u : TB} {σ : St} {H : Hp} {Q : Bool → Hp → Prop} (h : rdT K (bOr t u) σ H Q) : tOr (rdT K t) (rdT K u) σ H Q := by
  obtain ⟨B, ρ, b, ρ', hl, er, e, k⟩ := h
  unfold bOr at e
  split at e
  · rename_i ρ1 e1
    cases e
    refine ⟨B, ρ, true, ρ', hl, er, e1, fun H1 lk st er1 => ?_⟩
    refine iteT ?_
    exact k H1 lk st er1
  · rename_i ρ1 e1
    refine ⟨B, ρ, false, ρ1, hl, er, e1, fun H1 lk st er1 => ?_⟩
    refine iteF ?_
    exact ⟨B, ρ1, b, ρ', lk.len.trans hl, er1, e, fun H2 lk2 st2 er2 => k H2 (lk.trans lk2) (st.trans st2) er2⟩
  · cases e
def DW (X : Cx) (e : Expr) (t : TB) : Prop := PW X e (rdT X.K t)
theorem DW.dt {t : TB} (h : DW X e t) : DT X e t := PW.pt h
theorem pw_weak {t t' : TT} (h : PW X e t) (w : ∀ σ H Q, t' σ H Q → t σ H Q) : PW X e t' := ⟨fun wh pins s σ H Q I q => h.run wh pins s σ H Q I (w σ H Q q)⟩
theorem dw_and1 {t : TB} (h : DT X a t) : DW X (.BoolOp .And [a] pos) t := pw_and1 h
theorem dw_or1 {t : TB} (h : DT X a t) : DW X (.BoolOp .Or [a] pos) t := pw_or1 h
theorem dw_and {t u : TB} (ha : DT X a t) (hb : DW X (.BoolOp .And (b :: rest) pos) u) : DW X (.BoolOp .And (a :: b :: rest) pos) (bAnd t u) := pw_weak (pw_and ha hb) fun _ _ _ h => band_read h
theorem dw_or {t u : TB} (ha : DT X a t) (hb : DW X (.BoolOp .Or (b :: rest) pos) u) : DW X (.BoolOp .Or (a :: b :: rest) pos) (bOr t u) := pw_weak (pw_or ha hb) fun _ _ _ h => bor_read h
/-! .. as values -/
def dAnd (t u : TD) : TD := fun ρ => match t ρ with
  | some (r, ρ1) => match truR ρ1 r with
    | some true => u ρ1
    | some false => some (r, ρ1)
    | none => none
  | none => none
def dOr (t u : TD) : TD := fun ρ => match t ρ with
  | some (r, ρ1) => match truR ρ1 r with
    | some true => some (r, ρ1)
    | some false => u ρ1
    | none => none
  | none => none
def dNot (t : TD) : TD := fun ρ => match t ρ with
  | some (r, ρ1) => match truR ρ1 r with
    | some b => some (.v (.bool (!b)), ρ1)
    | none => none
  | none => none
theorem rd_go {K : PySem.W.Frag} {u : TD} {σ : St} {H H1 : Hp} {Q : VK} {B : Addr → Prop} {ρ ρ1 ρ' : Rho} {r : R} (hl : ρ1.length = σ.length) (er1 : ER K H1 B (Z ρ1 σ)) (e : u ρ1 = some (r, ρ')) (lk : Lk ρ ρ1) (st : Stp (Z ρ σ) H (Z ρ1 σ) H1)
    (k : ∀ v H', Lk ρ ρ' → Stp (Z ρ σ) H (Z ρ' σ) H' → RSs K H H' B ρ' σ [r] [v] → Q v H') : rd K u σ H1 Q :=
  ⟨B, ρ1, r, ρ', hl, er1, e, fun v H2 lk2 st2 rr => k v H2 (lk.trans lk2) (st.trans st2) ⟨rr.len, rr.er, fun a z => by
    have := rr.fr a z
    cases q : H a with
    | none => rfl
    | some o => exact absurd this (st.trk a (by rw [q]; simp)), rr.bo⟩⟩
theorem de_one {op} (h : DE X a t) : DE X (.BoolOp op [a] pos) t := pe_one h
theorem de_and (ha : DE X a t) (hb : DE X (.BoolOp .And (b :: rest) pos) u) : DE X (.BoolOp .And (a :: b :: rest) pos) (dAnd t u) := by
  refine pe_weak (pe_andT ha hb) fun σ H Q q => ?_
  obtain ⟨B, ρ, r, ρ', hl, er, e, k⟩ := q
  unfold dAnd at e
  split at e
  · rename_i r1 ρ1 e1
    refine ⟨B, ρ, r1, ρ1, hl, er, e1, fun v H1 lk st rr => ?_⟩
    split at e
    · rename_i e2
      refine ⟨true, truR_ok rr e2, ?_⟩
      refine iteT ?_
      exact rd_go (lk.len.trans hl) rr.er.left e lk st k
    · rename_i e2
      cases e
      refine ⟨false, truR_ok rr e2, ?_⟩
      refine iteF ?_
      exact k v H1 lk st rr
    · cases e
  · cases e
theorem de_or (ha : DE X a t) (hb : DE X (.BoolOp .Or (b :: rest) pos) u) : DE X (.BoolOp .Or (a :: b :: rest) pos) (dOr t u) := by
  refine pe_weak (pe_orT ha hb) fun σ H Q q => ?_
  obtain ⟨B, ρ, r, ρ', hl, er, e, k⟩ := q
  unfold dOr at e
  split at e
  · rename_i r1 ρ1 e1
    refine ⟨B, ρ, r1, ρ1, hl, er, e1, fun v H1 lk st rr => ?_⟩
    split at e
    · rename_i e2
      cases e
      refine ⟨true, truR_ok rr e2, ?_⟩
      refine iteT ?_
      exact k v H1 lk st rr
    · rename_i e2
      refine ⟨false, truR_ok rr e2, ?_⟩
      refine iteF ?_
      exact rd_go (lk.len.trans hl) rr.er.left e lk st k
    · cases e
  · cases e
theorem de_not (ha : DE X a t) : DE X (.UnaryOp .Not a pos) (dNot t) := by
  refine pe_weak (pe_notT ha) fun σ H Q q => ?_
  obtain ⟨B, ρ, r, ρ', hl, er, e, k⟩ := q
  unfold dNot at e
  split at e
  · rename_i r1 ρ1 e1
    split at e
    · rename_i c e2
      cases e
      refine ⟨B, ρ, r1, ρ', hl, er, e1, fun v H1 lk st rr => ⟨c, truR_ok rr e2, k _ H1 lk st (rss_val rr.er.left rep_bl)⟩⟩
    · cases e
  · cases e
/-- a if c else b -/
def dIf (t : TB) (u w : TD) : TD := fun ρ => match t ρ with
  | some (true, ρ1) => u ρ1
  | some (false, ρ1) => w ρ1
  | none => none
theorem de_if {tt : TB} (hc : DT X c tt) (ha : DE X a t) (hb : DE X b u) : DE X (.IfExp c a b pos) (dIf tt t u) := by
  refine pe_weak (pe_ifExp hc ha hb) fun σ H Q q => ?_
  obtain ⟨B, ρ, r, ρ', hl, er, e, k⟩ := q
  unfold dIf at e
  split at e
  · rename_i ρ1 e1
    refine ⟨B, ρ, true, ρ1, hl, er, e1, fun H1 lk st er1 => ?_⟩
    refine iteT ?_
    exact rd_go (lk.len.trans hl) er1 e lk st k
  · rename_i ρ1 e1
    refine ⟨B, ρ, false, ρ1, hl, er, e1, fun H1 lk st er1 => ?_⟩
    refine iteF ?_
    exact rd_go (lk.len.trans hl) er1 e lk st k
  · cases e
end
end Dn

set_option Elab.async false
set_option linter.all false
set_option maxRecDepth 100000
set_option maxHeartbeats 2000000
namespace Dn
open PySem PySem.Spec PyProof.Rows L2

/-! ### values as the library's data -/
section
variable {K : PySem.W.Frag} {H : Hp} {A : Addr → Prop}
theorem dpBoth : ∀ n, (∀ d v, sizeOf d ≤ n → d.canLay0 = true → Rep K H A d v → Dp K H v d) ∧ (∀ ds vs, sizeOf ds ≤ n → PyData.canLayAll0 ds = true → RepA K H A ds vs → DpAll K H vs ds) := by
  intro n
  induction n with
  | zero =>
    refine ⟨fun d v hs => ?_, fun ds vs hs => ?_⟩
    · cases d <;> simp at hs <;> omega
    · cases ds <;> simp at hs <;> omega
  | succ n ih =>
    refine ⟨fun d v hs hc h => ?_, fun ds vs hs hc h => ?_⟩
    · cases d with
      | none => unfold Rep at h; subst h; exact .non
      | bool b => unfold Rep at h; subst h; exact .bl b
      | int i => unfold Rep at h; subst h; exact .int i
      | str x => unfold Rep at h; subst h; exact .str x
      | list ds =>
        unfold Rep at h
        obtain ⟨a, xs, rfl, hr, hx⟩ := h
        exact .lst hr.lv.sq (ih.2 ds xs (by simp at hs; omega) (by simpa [PyData.canLay0] using hc) hx)
      | tuple ds =>
        unfold Rep at h
        obtain ⟨a, xs, rfl, hr, hx⟩ := h
        exact .tup hr (ih.2 ds xs (by simp at hs; omega) (by simpa [PyData.canLay0] using hc) hx)
      | dict kvs => simp [PyData.canLay0] at hc
    · cases ds with
      | nil => unfold RepA at h; subst h; exact .nil
      | cons d ds =>
        unfold RepA at h
        obtain ⟨x, r, rfl, h1, h2⟩ := h
        simp only [PyData.canLayAll0, Bool.and_eq_true] at hc
        exact .cons (ih.1 d x (by simp at hs; omega) hc.1 h1) (ih.2 ds r (by simp at hs; omega) hc.2 h2)
theorem Vw.dp {d : D} {v : V} (h : Vw K H A d v) (hc : d.canLay0 = true) : Dp K H v d := by
  cases d with
  | list ds =>
    unfold Vw at h
    obtain ⟨a, xs, rfl, hr, hx⟩ := h
    exact .lst hr.sq ((dpBoth (sizeOf ds)).2 ds xs (Nat.le_refl _) (by simpa [PyData.canLay0] using hc) hx)
  | _ => exact (dpBoth (K := K) (H := H) (A := A) _).1 _ v (Nat.le_refl _) hc h
theorem vw1 {ds : List D} {v : V} (h : VwA K H A ds [v]) : ∃ d, ds = [d] ∧ Vw K H A d v := by
  cases h with
  | cons h t => cases t; exact ⟨_, rfl, h⟩
theorem vw2 {ds : List D} {v u : V} (h : VwA K H A ds [v, u]) : ∃ d e, ds = [d, e] ∧ Vw K H A d v ∧ Vw K H A e u := by
  cases h with
  | cons h t =>
    obtain ⟨e, rfl, h2⟩ := vw1 t
    exact ⟨_, _, rfl, h, h2⟩
theorem VwA.of1 {d : D} {vs : List V} (h : VwA K H A [d] vs) : ∃ v, vs = [v] ∧ Vw K H A d v := by
  cases h with
  | cons h t => cases t; exact ⟨_, rfl, h⟩
theorem VwA.of2 {d e : D} {vs : List V} (h : VwA K H A [d, e] vs) : ∃ v u, vs = [v, u] ∧ Vw K H A d v ∧ Vw K H A e u := by
  cases h with
  | cons h t =>
    obtain ⟨e, rfl, h2⟩ := t.of1
    exact ⟨_, _, rfl, h, h2⟩
theorem Vw.int {i : Int} {v : V} (h : Vw K H A (.int i) v) : v = .int i := by unfold Vw Rep at h; exact h
theorem Vw.bl {i : Bool} {v : V} (h : Vw K H A (.bool i) v) : v = .bl i := by unfold Vw Rep at h; exact h
theorem Vw.str {i : Str} {v : V} (h : Vw K H A (.str i) v) : v = .str i := by unfold Vw Rep at h; exact h
theorem Vw.non {v : V} (h : Vw K H A .none v) : v = .non := by unfold Vw Rep at h; exact h
theorem Vw.lst {ds : List D} {v : V} (h : Vw K H A (.list ds) v) : ∃ a xs, v = .ref a ∧ LV K H a xs ∧ RepA K H A ds xs := by unfold Vw at h; exact h
theorem Vw.tupRep {ds : List D} {v : V} (h : Vw K H A (.tuple ds) v) : Rep K H A (.tuple ds) v := by unfold Vw at h; exact h
theorem Vw.tup {ds : List D} {v : V} (h : Vw K H A (.tuple ds) v) : ∃ a xs, v = .ref a ∧ SqT K H a xs ∧ RepA K H A ds xs := by unfold Vw Rep at h; exact h
end

/-- two operands, by their views -/
theorem opR2 {X : Cx} {op : Value → Value → Sem Value} {f : List D → Option R}
    (h : ∀ (pins : List (Addr × Obj)) (s : Shared) (σ : St) (H : Hp) (v u : Value) (Q : VK) (A : Addr → Prop) (d e : D) (x y : V) (r : R), Inv X pins σ H s → RelV x v → RelV y u → (∀ b, A b → H b ≠ none) → Vw X.K H A d x → Vw X.K H A e y → f [d, e] = some r →
      (∀ w H', Same H H' → RN X.K H H' A r w → Q w H') → wpAny (model X.prog X.w) X.A (op v u) (EP X pins σ Q) X.xe s) : OpR X op (r2 X.K f) := by
  intro pins s σ H x y v u Q I rx ry ⟨A, ds, r, hA, hv, e, k⟩
  obtain ⟨d, e', rfl, h1, h2⟩ := vw2 hv
  exact h pins s σ H v u Q A d e' x y r I rx ry hA h1 h2 e k

/-! ### arithmetic -/
def mulOk (a b : Int) : Bool := decide (Builtin.Int.intBits a + Builtin.Int.intBits b ≤ 134217728)
def divOk (a b : Int) : Bool := b != 0 && !Builtin.divisionGoesByPylong a b
def pAdd : List D → Option R
  | [.int a, .int b] => some (.v (.int (a + b)))
  | [.tuple xs, .tuple ys] => if xs.length + ys.length ≤ 1000 then some (.v (.tuple (xs ++ ys))) else none
  | [.list xs, .list ys] => if xs.length + ys.length ≤ 1000 then some (.o (xs ++ ys)) else none
  | [.str x, .str y] => if x.length + y.length ≤ 1000 then some (.v (.str (x ++ y))) else none
  | _ => none
def pSub : List D → Option R
  | [.int a, .int b] => some (.v (.int (a - b)))
  | _ => none
def pMul : List D → Option R
  | [.int a, .int b] => if mulOk a b then some (.v (.int (a * b))) else none
  | [.list xs, .int k] => if decide (-1000 ≤ k) && decide (k ≤ 1000) && decide (xs.length * k.toNat ≤ 1000) then some (.o (List.replicate k.toNat xs).flatten) else none
  | [.tuple xs, .int k] => if k == 1 then some (.v (.tuple xs)) else if decide (2 ≤ k) && decide (k ≤ 1000) && decide (xs.length ≤ 1000) && !xs.isEmpty && decide (xs.length * k.toNat ≤ 1000) then some (.v (.tuple (List.replicate k.toNat xs).flatten)) else none
  | _ => none
def pDiv : List D → Option R
  | [.int a, .int b] => if divOk a b then some (.v (.int (a.fdiv b))) else none
  | _ => none
def pMod : List D → Option R
  | [.int a, .int b] => if b != 0 then some (.v (.int (a.fmod b))) else none
  | _ => none
def pPow : List D → Option R
  | [.int a, .int b] => if decide (0 ≤ b) && decide (b ≤ 1000) && decide (a.natAbs < 2 ^ 64) then some (.v (.int (a ^ b.toNat))) else none
  | _ => none
def pNeg : List D → Option R
  | [.int a] => some (.v (.int (-a)))
  | _ => none
section
variable {X : Cx}
theorem rn_int {K : PySem.W.Frag} {H H' : Hp} {A : Addr → Prop} {i : Int} : RN K H H' A (.v (.int i)) (.int i) := rep_int (K := K) (H := H') (A := A)
theorem rn_bl {K : PySem.W.Frag} {H H' : Hp} {A : Addr → Prop} {i : Bool} : RN K H H' A (.v (.bool i)) (.bl i) := rep_bl (K := K) (H := H') (A := A)
theorem rn_str {K : PySem.W.Frag} {H H' : Hp} {A : Addr → Prop} {i : Str} : RN K H H' A (.v (.str i)) (.str i) := rep_str (K := K) (H := H') (A := A)
/-- a list that is read, as its object -/
theorem lst_obj {pins : List (Addr × Obj)} {s : Shared} {σ : St} {H : Hp} {l : Addr} {xs : List V} (I : Inv X pins σ H s) (h : LV X.K H l xs) :
    ∃ (its : List Value) (n : Nat), Vals xs its ∧ xs.length = its.length ∧ xs.length ≤ sizeLine ∧ s.heap.get? l = some { cls := .type "list", data := .seq its.toArray n } := by
  rcases h with h | ⟨its, n, e, z, r⟩
  · have o : ObjOk X.prog X.w H s.heap l (.lst xs) := h.ok I.hok
    obtain ⟨z, its, n, r, e⟩ := o
    exact ⟨its, n, r, r.length, z, e⟩
  · exact ⟨its, n, r, r.length, z, I.kIn l _ e⟩
theorem o_add : OpR X (binaryOp .Add) (r2 X.K pAdd) := by
  refine opR2 fun pins s σ H v u Q A d e x y r I rx ry hA h1 h2 er k => ?_
  unfold pAdd at er
  split at er
  · rename_i a b z; cases z; cases er
    exact op_add pins s σ H x y v u Q I rx ry ⟨a, b, h1.int, h2.int, k _ H (.refl _) rn_int⟩
  · rename_i xs ys z; cases z
    split at er
    · rename_i hl
      cases er
      obtain ⟨p, vs, e1, hp, rp⟩ := h1.tup
      obtain ⟨q, us, e2, hq, rq⟩ := h2.tup
      have l1 := rp.len
      have l2 := rq.len
      refine op_catA pins s σ H x y v u Q I rx ry ⟨p, q, vs, us, e1, e2, hp, hq, lt1000 (by omega), fun z => ?_, fun z1 z2 => ?_, fun _ _ c nc => ?_⟩
      · have : xs = [] := by subst z; simpa using l1.symm
        subst this
        subst e2
        exact k _ H (.refl _) (by rw [List.nil_append]; exact h2.tupRep)
      · have : ys = [] := by subst z2; simpa using l2.symm
        subst this
        subst e1
        exact k _ H (.refl _) (by rw [List.append_nil]; exact h1.tupRep)
      · exact k _ _ (upd_same_of nc) (rn_tup nc (rp.app rq))
    · cases er
  · rename_i xs ys z; cases z
    split at er
    · rename_i hl
      cases er
      obtain ⟨p, vs, e1, hp, rp⟩ := h1.lst
      obtain ⟨q, us, e2, hq, rq⟩ := h2.lst
      have l1 := rp.len
      have l2 := rq.len
      subst e1 e2
      cases rx
      cases ry
      obtain ⟨its, n, r1, a1, z1, g1⟩ := lst_obj I hp
      obtain ⟨its2, n2, r2', a2, z2, g2⟩ := lst_obj I hq
      have hz : (vs ++ us).length ≤ sizeLine := by rw [List.length_append]; exact lt1000 (by omega)
      have ea : its.toArray ++ its2.toArray = (its ++ its2).toArray := by simp
      refine PySem.P.add_list g1 g2 ?_ (by rw [List.size_toArray, List.size_toArray, ← a1, ← a2]; exact lt1000 (by omega))
      rw [ea]
      exact ⟨.ref _, _, I.lnew (t' := s.toks) (r1.append r2') hz, rfl, k _ _ (upd_same_of I.fresh) (rn_lst I.fresh (rp.app rq))⟩
    · cases er
  · rename_i a b z; cases z
    split at er
    · rename_i hl
      cases er
      exact op_add_str pins s σ H x y v u Q I rx ry ⟨a, b, h1.str, h2.str, lt1000 hl, k _ H (.refl _) rn_str⟩
    · cases er
  · cases er
theorem o_sub : OpR X (binaryOp .Sub) (r2 X.K pSub) := by
  refine opR2 fun pins s σ H v u Q A d e x y r I rx ry hA h1 h2 er k => ?_
  unfold pSub at er
  split at er
  · rename_i a b z; cases z; cases er
    exact op_sub pins s σ H x y v u Q I rx ry ⟨a, b, h1.int, h2.int, k _ H (.refl _) rn_int⟩
  · cases er
open AutoSeq1 (wpAny_loadPart') in
theorem tuple_once (l : Addr) (items : Array Value) (n : Nat) (dd : Option Addr) (sl : Array (Option Value)) (u : Tok) :
    Meets (Builtin.«tuple.__mul__» ⟨[.ref l, .int 1 u], []⟩) (fun _ R s => s.heap.get? l = some { cls := .type "tuple", dict := dd, data := .seq items n, slots := sl } ∧ R (.ok (.ret (.ref l))) s) := by
  refine .of_wp fun prog w A R s ⟨hl, h⟩ => ?_
  obtain ⟨hp, g, d, tk, os⟩ := s
  have f1 := AutoSeq1.idx_int
  have c0 : (decide ((1 : Int) < -(2 ^ 63)) || decide ((1 : Int) ≥ 2 ^ 63)) = false := by decide
  have c1 : (items.isEmpty || (1 : Int) == 1) = true := by simp
  wp_walk using wpAny_loadPart' hl
  repeat (first
    | (refine wpAny_ite_false (decide_eq_false (by rw [c0]; exact Bool.false_ne_true)) ?_; wp_walk using wpAny_loadPart' hl)
    | (refine wpAny_ite_true (decide_eq_true c1) ?_; wp_walk using wpAny_loadPart' hl))
  exact ⟨_, rfl, h⟩
theorem o_mul : OpR X (binaryOp .Mult) (r2 X.K pMul) := by
  refine opR2 fun pins s σ H v u Q A d e x y r I rx ry hA h1 h2 er k => ?_
  unfold pMul at er
  split at er
  · rename_i a b z; cases z
    split at er
    · rename_i hm
      cases er
      refine op_mulX pins s σ H x y v u Q I rx ry ⟨a, b, h1.int, h2.int, ?_, k _ H (.refl _) rn_int⟩
      have := of_decide_eq_true hm
      unfold CMulX
      omega
    · cases er
  · rename_i xs j z; cases z
    split at er
    · rename_i hm
      cases er
      simp only [Bool.and_eq_true, decide_eq_true_eq] at hm
      obtain ⟨⟨m1, m2⟩, m3⟩ := hm
      obtain ⟨p, vs, e1, hp, rp⟩ := h1.lst
      have l1 := rp.len
      obtain ⟨its, n, r1, a1, z, g1⟩ := lst_obj I hp
      subst e1
      cases rx
      obtain ⟨t, rfl⟩ : ∃ t, u = Value.int j t := by have := h2.int; subst this; exact ry
      have hlen : its.toArray.size * j.toNat ≤ sizeLine := by rw [List.size_toArray, ← r1.length, l1]; exact lt1000 m3
      have hcap : ¬ its.toArray.size * j.toNat > (2 ^ 63 - 1) / 8 := by
        have : (sizeLine : Nat) ≤ (2 ^ 63 - 1) / 8 := by decide
        omega
      have hfit : ¬ (!Builtin.List.listFitsIndex j) = true := by
        rw [fitsIndex_both (by omega) (by omega)]; exact Bool.false_ne_true
      have hlong : ¬ Builtin.List.listTooLong (its.toArray.size * j.toNat) = true := by
        rw [notLongL hlen]; exact Bool.false_ne_true
      have hnew : List.foldl (fun x1 x2 => x1 ++ x2) #[] (List.replicate (if its.toArray.isEmpty = true then 0 else j.toNat) its.toArray) = (List.replicate j.toNat its).flatten.toArray := by
        rw [size_rep]
        cases its with
        | nil => simp
        | cons a r' => rw [if_neg (by simp)]
      refine wpAny_binaryOp_repeat_ref (T := "list") (U := "int") (by decide) ⟨_, g1, rfl⟩ (fun s' => typeIs_int s' j t) noFill_list_mul PySem.F.fills_int_mul PySem.F.slot_int_rmul repeat_list PySem.F.slot_int_index.lookup
        (call_meets PySem.F.slot_int_rmul (typeIs_int s j t) PySem.F.entry_int_rmul (PySem.F.args_int_rmul_2 _ _) (int___rmul___int_list j t p its.toArray n)
          ⟨g1, rfl, ⟨_, g1, rfl⟩, call_meets PySem.F.slot_list_mul ⟨_, g1, rfl⟩ PySem.F.entry_list_mul (PySem.F.args_list_mul_2 _ _) (AutoListH.list___mul___list_int_3 p its.toArray n j t hfit hcap hlong) ⟨g1, ?_⟩⟩)
      rw [hnew]
      have hz : (List.replicate j.toNat vs).flatten.length ≤ sizeLine := by rw [PyProof.Rows.lm_len_rep_flat, Nat.mul_comm, l1]; exact lt1000 m3
      exact ⟨.ref _, _, I.lnew (t' := s.toks) (r1.rep j.toNat) hz, rfl, k _ _ (upd_same_of I.fresh) (rn_lst I.fresh (rp.rep _))⟩
    · cases er
  · rename_i xs j z; cases z
    split at er
    · rename_i hj
      cases er
      obtain rfl : j = 1 := by simpa using hj
      obtain ⟨p, vs, rfl, hp, rp⟩ := h1.tup
      obtain rfl : v = Value.ref p := rx
      obtain ⟨t, rfl⟩ : ∃ t, u = Value.int 1 t := by have := h2.int; subst this; exact ry
      obtain ⟨its, r1, ⟨⟨cls, dd, data, sl⟩, ho, hc, n, hd⟩, _⟩ := I.tuple hp
      simp only at hc hd
      subst hc hd
      exact wpAny_binaryOp_repeat_ref (T := "tuple") (U := "int") (by decide) ⟨_, ho, rfl⟩ (fun s' => typeIs_int s' 1 t) noFill_tuple_mul F.fills_int_mul F.slot_int_rmul repeat_tuple F.slot_int_index.lookup
        (call_meets F.slot_int_rmul (typeIs_int s 1 t) F.entry_int_rmul (F.args_int_rmul_2 _ _) (int_rmul_tuple 1 t p its.toArray n dd sl)
          ⟨ho, rfl, ⟨_, ho, rfl⟩, call_meets F.slot_tuple_mul ⟨_, ho, rfl⟩ F.entry_tuple_mul (F.args_tuple_mul_2 _ _) (tuple_once p its.toArray n dd sl t) ⟨ho, .ref p, H, I, rfl, k _ H (.refl _) h1.tupRep⟩⟩)
    split at er
    · rename_i hm
      cases er
      simp only [Bool.and_eq_true, decide_eq_true_eq] at hm
      obtain ⟨⟨⟨⟨m1, m2⟩, m3⟩, m4⟩, m5⟩ := hm
      obtain ⟨p, vs, e1, hp, rp⟩ := h1.tup
      have l1 := rp.len
      refine op_repT pins s σ H x y v u Q I rx ry ⟨p, j, vs, e1, h2.int, hp, fun z => ?_, m1, m2, by omega, fun c nc => k _ _ (upd_same_of nc) (rn_tup nc (rp.rep _))⟩
      subst z
      have : xs = [] := by simpa using l1.symm
      subst this
      simp at m4
    · cases er
  · cases er
theorem o_div : OpR X (binaryOp .FloorDiv) (r2 X.K pDiv) := by
  refine opR2 fun pins s σ H v u Q A d e x y r I rx ry hA h1 h2 er k => ?_
  unfold pDiv at er
  split at er
  · rename_i a b z; cases z
    split at er
    · rename_i hm
      cases er
      simp only [divOk, Bool.and_eq_true, bne_iff_ne, ne_eq, Bool.not_eq_true'] at hm
      have e1 := h1.int
      have e2 := h2.int
      subst e1 e2
      obtain ⟨t, rfl⟩ := rx
      obtain ⟨t', rfl⟩ := ry
      exact floordiv_int hm.1 ⟨.int _, H, I.tok _, ⟨_, rfl⟩, k _ H (.refl _) rn_int⟩ (.inl hm.2)
    · cases er
  · cases er
theorem o_mod : OpR X (binaryOp .Mod) (r2 X.K pMod) := by
  refine opR2 fun pins s σ H v u Q A d e x y r I rx ry hA h1 h2 er k => ?_
  unfold pMod at er
  split at er
  · rename_i a b z; cases z
    split at er
    · rename_i hm
      cases er
      exact op_modN pins s σ H x y v u Q I rx ry ⟨a, b, h1.int, h2.int, by simpa using hm, k _ H (.refl _) rn_int⟩
    · cases er
  · cases er
theorem o_pow : OpR X (binaryOp .Pow) (r2 X.K pPow) := by
  refine opR2 fun pins s σ H v u Q A d e x y r I rx ry hA h1 h2 er k => ?_
  unfold pPow at er
  split at er
  · rename_i a b z; cases z
    split at er
    · rename_i hm
      cases er
      simp only [Bool.and_eq_true, decide_eq_true_eq] at hm
      exact op_pow pins s σ H x y v u Q I rx ry ⟨a, b, h1.int, h2.int, ⟨hm.1.1, by omega, hm.2⟩, k _ H (.refl _) rn_int⟩
    · cases er
  · cases er
theorem o_neg : UnR X (unaryOp .USub) (r1 X.K pNeg) := by
  intro pins s σ H x v Q I rx ⟨A, ds, r, hA, hv, er, k⟩
  unfold pNeg at er
  split at er
  · rename_i a
    cases er
    obtain ⟨w, ew, h1⟩ := hv.of1
    cases ew
    exact un_neg pins s σ H x v Q I rx ⟨a, h1.int, k _ H (.refl _) rn_int⟩
  · cases er

/-! ### comparisons -/
/-- a sequence beside an empty one -/
def emp2 : D → D → Bool
  | .tuple _, .tuple [] => true
  | .list _, .list [] => true
  | _, _ => false
def pEq : List D → Option R
  | [d, e] => if emp2 d e || SeqAt.shaped d && SeqAt.shaped e then some (.v (.bool (PyData.eqv d e))) else none
  | _ => none
def pNe : List D → Option R
  | [d, e] => if emp2 d e || SeqAt.shaped d && SeqAt.shaped e then some (.v (.bool (!PyData.eqv d e))) else none
  | _ => none
def pCmp (p : Int → Int → Bool) : List D → Option R
  | [.int a, .int b] => some (.v (.bool (p a b)))
  | _ => none
abbrev pLt := pCmp fun i j => decide (i < j)
abbrev pLe := pCmp fun i j => decide (i ≤ j)
abbrev pGt := pCmp fun i j => decide (j < i)
abbrev pGe := pCmp fun i j => decide (j ≤ i)
def isNone : D → Bool
  | .none => true
  | _ => false
def pIs : List D → Option R
  | [d, .none] => some (.v (.bool (isNone d)))
  | _ => none
def pIsNot : List D → Option R
  | [d, .none] => some (.v (.bool (!isNone d)))
  | _ => none
def pIn : List D → Option R
  | [d, .list ds] => if SeqAt.shaped d && SeqAt.shaped (.list ds) then some (.v (.bool (ds.any fun z => PyData.eqv z d))) else none
  | [d, .tuple ds] => if SeqAt.shaped d && SeqAt.shaped (.tuple ds) then some (.v (.bool (ds.any fun z => PyData.eqv z d))) else none
  | _ => none
def pNotIn : List D → Option R
  | [d, .list ds] => if SeqAt.shaped d && SeqAt.shaped (.list ds) then some (.v (.bool (!ds.any fun z => PyData.eqv z d))) else none
  | [d, .tuple ds] => if SeqAt.shaped d && SeqAt.shaped (.tuple ds) then some (.v (.bool (!ds.any fun z => PyData.eqv z d))) else none
  | _ => none
theorem Vw.reads {pins : List (Addr × Obj)} {s : Shared} {σ : St} {H : Hp} {A : Addr → Prop} {d : D} {x : V} {v : Value} (I : Inv X pins σ H s) (h : Vw X.K H A d x) (r : RelV x v) (hs : SeqAt.shaped d = true) : ∃ as, Reads s.heap v d as :=
  Dp.reads I d x v (h.dp (SeqAt.canLay_of_shaped hs)) r
theorem eqv_t0 (ds : List D) : PyData.eqv (.tuple ds) (.tuple []) = ds.isEmpty := by cases ds <;> simp [PyData.eqv, PyData.eqvAll]
theorem eqv_l0 (ds : List D) : PyData.eqv (.list ds) (.list []) = ds.isEmpty := by cases ds <;> simp [PyData.eqv, PyData.eqvAll]
theorem emp2_run {pins : List (Addr × Obj)} {s : Shared} {σ : St} {H : Hp} {A : Addr → Prop} {d e : D} {x y : V} {v u : Value} (hu : X.A.units < cLine) (I : Inv X pins σ H s) (rx : RelV x v) (ry : RelV y u) (h1 : Vw X.K H A d x) (h2 : Vw X.K H A e y) (he : emp2 d e = true) :
    ∃ a b, v = .ref a ∧ u = .ref b ∧ SeqAt.RcAt X.A s (.ref a) (.ref b) (PyData.eqv d e) ∧ SeqAt.RcNeAt X.A s (.ref a) (.ref b) (!PyData.eqv d e) := by
  cases d with
  | tuple ds => cases e with
    | tuple es => cases es with
      | nil =>
        obtain ⟨a, xs, rfl, h1, r1⟩ := h1.tup
        obtain ⟨b, ys, rfl, h2, r2⟩ := h2.tup
        obtain rfl : v = .ref a := rx
        obtain rfl : u = .ref b := ry
        obtain ⟨i1, v1, t1, _⟩ := I.tuple h1
        obtain ⟨i2, v2, t2, _⟩ := I.tuple h2
        have e2 : ys = [] := by unfold RepA at r2; exact r2
        subst e2
        cases v2
        have e3 : (i1.length == 0) = ds.isEmpty := by
          have := v1.length
          have := r1.len
          cases ds <;> cases i1 <;> simp_all
        refine ⟨a, b, rfl, rfl, ?_, ?_⟩
        · have z := SeqAt.RcAt.tuples (e := fun _ => true) t1 t2 hu (fun j _ q => absurd q (by simp))
          rw [eqv_t0, ← e3]
          simpa using z
        · have z := SeqAt.RcNeAt.tuples (e := fun _ => false) t1 t2 hu (fun j _ q => absurd q (by simp))
          rw [eqv_t0, ← e3]
          simpa using z
      | cons _ _ => cases he
    | _ => cases he
  | list ds => cases e with
    | list es => cases es with
      | nil =>
        obtain ⟨a, xs, rfl, h1, r1⟩ := h1.lst
        obtain ⟨b, ys, rfl, h2, r2⟩ := h2.lst
        obtain rfl : v = .ref a := rx
        obtain rfl : u = .ref b := ry
        obtain ⟨i1, v1, ⟨o1, n1, g1, c1, _, d1⟩, _⟩ := I.list h1.sq
        obtain ⟨i2, v2, ⟨o2, n2, g2, c2, _, d2⟩, _⟩ := I.list h2.sq
        have t1 : s.heap.IsList a i1.toArray := ⟨o1, g1, c1, n1, d1⟩
        have t2 : s.heap.IsList b i2.toArray := ⟨o2, g2, c2, n2, d2⟩
        have e2 : ys = [] := by unfold RepA at r2; exact r2
        subst e2
        cases v2
        have e3 : (decide (i1 = [])) = ds.isEmpty := by
          have := v1.length
          have := r1.len
          cases ds <;> cases i1 <;> simp_all
        refine ⟨a, b, rfl, rfl, ?_, ?_⟩
        · rw [eqv_l0, ← e3]
          cases i1 with
          | nil => simpa using SeqAt.RcAt.lists (e := fun _ => true) t1 t2 rfl hu (fun j _ q => absurd q (by simp))
          | cons w ws => exact SeqAt.RcAt.lists_lengths t1 t2 (by simp) hu
        · rw [eqv_l0, ← e3]
          cases i1 with
          | nil => simpa using SeqAt.RcNeAt.lists (e := fun _ => false) t1 t2 rfl hu (fun j _ q => absurd q (by simp))
          | cons w ws => exact SeqAt.RcNeAt.lists_lengths t1 t2 (by simp) hu
      | cons _ _ => cases he
    | _ => cases he
  | _ => cases e <;> cases he
theorem o_eq (hu : X.A.units + 65 < cLine) : OpR X (compareOp .Eq) (r2 X.K pEq) := by
  refine opR2 fun pins s σ H v u Q A d e x y r I rx ry hA h1 h2 er k => ?_
  simp only [pEq] at er
  split at er
  · rename_i hm
    cases er
    simp only [Bool.or_eq_true, Bool.and_eq_true] at hm
    rcases hm with hm | hm
    · obtain ⟨a, b, rfl, rfl, z, _⟩ := emp2_run (by omega) I rx ry h1 h2 hm
      exact z X.prog X.w _ _ ⟨.bl _, H, I, rfl, k _ H (.refl _) rn_bl⟩
    obtain ⟨as, r1⟩ := h1.reads I rx hm.1
    obtain ⟨bs, r2⟩ := h2.reads I ry hm.2
    exact SeqAt.compareEq_shaped r1 r2 hm.1 hm.2 (by omega) ⟨.bl _, H, I, rfl, k _ H (.refl _) rn_bl⟩
  · cases er
theorem o_ne (hu : X.A.units + 65 < cLine) : OpR X (compareOp .NotEq) (r2 X.K pNe) := by
  refine opR2 fun pins s σ H v u Q A d e x y r I rx ry hA h1 h2 er k => ?_
  simp only [pNe] at er
  split at er
  · rename_i hm
    cases er
    simp only [Bool.or_eq_true, Bool.and_eq_true] at hm
    rcases hm with hm | hm
    · obtain ⟨a, b, rfl, rfl, _, z⟩ := emp2_run (by omega) I rx ry h1 h2 hm
      exact z X.prog X.w _ _ ⟨.bl _, H, I, rfl, k _ H (.refl _) rn_bl⟩
    obtain ⟨as, r1⟩ := h1.reads I rx hm.1
    obtain ⟨bs, r2⟩ := h2.reads I ry hm.2
    exact SeqAt.compareNe_shaped r1 r2 hm.1 hm.2 (by omega) ⟨.bl _, H, I, rfl, k _ H (.refl _) rn_bl⟩
  · cases er
theorem o_cmp {op : CmpOp} {p : Int → Int → Bool} (rule : OpR X (compareOp op) (rI0 fun i j => .bl (p i j))) : OpR X (compareOp op) (r2 X.K (pCmp p)) := by
  refine opR2 fun pins s σ H v u Q A d e x y r I rx ry hA h1 h2 er k => ?_
  unfold pCmp at er
  split at er
  · rename_i a b z; cases z; cases er
    exact rule pins s σ H x y v u Q I rx ry ⟨a, b, h1.int, h2.int, k _ H (.refl _) rn_bl⟩
  · cases er
theorem o_lt : OpR X (compareOp .Lt) (r2 X.K pLt) := o_cmp op_lt
theorem o_le : OpR X (compareOp .LtE) (r2 X.K pLe) := o_cmp op_le
theorem o_gt : OpR X (compareOp .Gt) (r2 X.K pGt) := o_cmp op_gt
theorem o_ge : OpR X (compareOp .GtE) (r2 X.K pGe) := o_cmp op_ge
theorem vw_none {K : PySem.W.Frag} {H : Hp} {A : Addr → Prop} {d : D} {x : V} (h : Vw K H A d x) : decide (x = .non) = isNone d := by
  cases d with
  | none => rw [h.non]; rfl
  | bool b => rw [h.bl]; rfl
  | int b => rw [h.int]; rfl
  | str b => rw [h.str]; rfl
  | list b => obtain ⟨a, _, e, _⟩ := h.lst; rw [e]; rfl
  | tuple b => obtain ⟨a, _, e, _⟩ := h.tup; rw [e]; rfl
  | dict b => unfold Vw Rep at h; obtain ⟨a, _, e, _⟩ := h; rw [e]; rfl
theorem o_is : OpR X (compareOp .Is) (r2 X.K pIs) := by
  refine opR2 fun pins s σ H v u Q A d e x y r I rx ry hA h1 h2 er k => ?_
  unfold pIs at er
  split at er
  · rename_i d z; cases z; cases er
    exact op_isN pins s σ H x y v u Q I rx ry ⟨h2.non, by rw [vw_none h1]; exact k _ H (.refl _) rn_bl⟩
  · cases er
theorem o_isnot : OpR X (compareOp .IsNot) (r2 X.K pIsNot) := by
  refine opR2 fun pins s σ H v u Q A d e x y r I rx ry hA h1 h2 er k => ?_
  unfold pIsNot at er
  split at er
  · rename_i d z; cases z; cases er
    exact op_notN pins s σ H x y v u Q I rx ry ⟨h2.non, by rw [vw_none h1]; exact k _ H (.refl _) rn_bl⟩
  · cases er
theorem lay_list {ds : List D} (h : SeqAt.shaped (.list ds) = true) : PyData.canLayAll0 ds = true := by
  have := SeqAt.canLay_of_shaped h
  simpa [PyData.canLay0] using this
theorem lay_tuple {ds : List D} (h : SeqAt.shaped (.tuple ds) = true) : PyData.canLayAll0 ds = true := by
  have := SeqAt.canLay_of_shaped h
  simpa [PyData.canLay0] using this
theorem in_room {ds : List D} {d : D} (h : SeqAt.shaped d = true) (hu : X.A.units + 65 < cLine) : X.A.units + 1 + min (PyData.depthAll ds) d.depth < cLine := by
  have h1 := SeqAt.depth_of_shaped h
  have h2 : min (PyData.depthAll ds) d.depth ≤ d.depth := Nat.min_le_right _ _
  omega
theorem o_in (hu : X.A.units + 65 < cLine) : OpR X (compareOp .In) (r2 X.K pIn) := by
  refine opR2 fun pins s σ H v u Q A d e x y r I rx ry hA h1 h2 er k => ?_
  unfold pIn at er
  split at er
  · rename_i d ds z; cases z
    split at er
    · rename_i hm
      cases er
      simp only [Bool.and_eq_true] at hm
      obtain ⟨as, r1⟩ := h1.reads I rx hm.1
      obtain ⟨bs, r2⟩ := h2.reads I ry hm.2
      exact SeqAt.in_list_reads r2 r1 (lay_list hm.2) (SeqAt.canLay_of_shaped hm.1) (in_room hm.1 hu) ⟨.bl _, H, I, rfl, k _ H (.refl _) rn_bl⟩
    · cases er
  · rename_i d ds z; cases z
    split at er
    · rename_i hm
      cases er
      simp only [Bool.and_eq_true] at hm
      obtain ⟨as, r1⟩ := h1.reads I rx hm.1
      obtain ⟨bs, r2⟩ := h2.reads I ry hm.2
      exact SeqAt.in_tuple_reads r2 r1 (lay_tuple hm.2) (SeqAt.canLay_of_shaped hm.1) (in_room hm.1 hu) ⟨.bl _, H, I, rfl, k _ H (.refl _) rn_bl⟩
    · cases er
  · cases er
theorem o_notin (hu : X.A.units + 65 < cLine) : OpR X (compareOp .NotIn) (r2 X.K pNotIn) := by
  refine opR2 fun pins s σ H v u Q A d e x y r I rx ry hA h1 h2 er k => ?_
  unfold pNotIn at er
  split at er
  · rename_i d ds z; cases z
    split at er
    · rename_i hm
      cases er
      simp only [Bool.and_eq_true] at hm
      obtain ⟨as, r1⟩ := h1.reads I rx hm.1
      obtain ⟨bs, r2⟩ := h2.reads I ry hm.2
      exact SeqAt.notIn_list_reads r2 r1 (lay_list hm.2) (SeqAt.canLay_of_shaped hm.1) (in_room hm.1 hu) ⟨.bl _, H, I, rfl, k _ H (.refl _) rn_bl⟩
    · cases er
  · rename_i d ds z; cases z
    split at er
    · rename_i hm
      cases er
      simp only [Bool.and_eq_true] at hm
      obtain ⟨as, r1⟩ := h1.reads I rx hm.1
      obtain ⟨bs, r2⟩ := h2.reads I ry hm.2
      exact SeqAt.notIn_tuple_reads r2 r1 (lay_tuple hm.2) (SeqAt.canLay_of_shaped hm.1) (in_room hm.1 hu) ⟨.bl _, H, I, rfl, k _ H (.refl _) rn_bl⟩
    · cases er
  · cases er

/-! ### items, slices -/
def pIx : List D → Option R
  | [.list ds, .int i] => (atI ds i).map .v
  | [.tuple ds, .int i] => (atI ds i).map .v
  | _ => none
theorem atI_rep {K : PySem.W.Frag} {H : Hp} {A : Addr → Prop} {ds : List D} {vs : List V} {i : Int} {d : D} (r : RepA K H A ds vs) (e : atI ds i = some d) : ∃ v, atI vs i = some v ∧ Rep K H A d v := by
  unfold atI at e ⊢
  rw [← r.len] at e
  cases q : ixN vs.length i with
  | none => rw [q] at e; cases e
  | some j =>
    rw [q] at e
    exact r.get e
theorem o_ix : IxR X (r2 X.K pIx) := by
  intro value slice pins s σ H x y v u Q I rx ry ⟨A, ds, r, hA, hv, er, k⟩ hsub
  unfold pIx at er
  split at er
  · rename_i ds i
    obtain ⟨w1, w2, ew, h1, h2⟩ := hv.of2
    cases ew
    obtain ⟨d, e1, e2⟩ := Option.map_eq_some_iff.mp er
    subst e2
    obtain ⟨p, vs, e3, hp, rp⟩ := h1.lst
    obtain ⟨w, e4, rw'⟩ := atI_rep rp e1
    exact ix_list value slice pins s σ H x y v u Q I rx ry ⟨p, vs, i, w, e3, h2.int, hp.sq, e4, k _ H (.refl _) rw'⟩ hsub
  · rename_i ds i
    obtain ⟨w1, w2, ew, h1, h2⟩ := hv.of2
    cases ew
    obtain ⟨d, e1, e2⟩ := Option.map_eq_some_iff.mp er
    subst e2
    obtain ⟨p, vs, e3, hp, rp⟩ := h1.tup
    obtain ⟨w, e4, rw'⟩ := atI_rep rp e1
    exact ix_tup value slice pins s σ H x y v u Q I rx ry ⟨p, vs, i, w, e3, h2.int, hp, e4, k _ H (.refl _) rw'⟩ hsub
  · cases er
/-- the items from lo up to hi -/
def cutD {α : Type} (xs : List α) (lo hi : Option Int) : List α := (xs.drop (HT.sIx xs.length 0 lo)).take (HT.sIx xs.length xs.length hi - HT.sIx xs.length 0 lo)
def pCut (d : D) (lo hi : Option Int) : Option R := match d with
  | .list ds => some (.o (cutD ds lo hi))
  | .tuple ds => some (.v (.tuple (cutD ds lo hi)))
  | _ => none
theorem cutD_rep {K : PySem.W.Frag} {H : Hp} {A : Addr → Prop} {ds : List D} {vs : List V} {lo hi : Option Int} (r : RepA K H A ds vs) : RepA K H A (cutD ds lo hi) (cutV vs lo hi) := by
  unfold cutD cutV
  rw [r.len]
  exact (r.drop _).take _
theorem cutD_whole {α : Type} {xs : List α} {lo hi : Option Int} (h : HT.sIx xs.length 0 lo = 0 ∧ HT.sIx xs.length xs.length hi = xs.length) : cutD xs lo hi = xs := by
  unfold cutD
  rw [h.1, h.2]
  simp
def rCut (K : PySem.W.Frag) : V → Option Int → Option Int → Hp → VK → Prop := fun x lo hi H Q => ∃ A d r, (∀ b, A b → H b ≠ none) ∧ Vw K H A d x ∧ pCut d lo hi = some r ∧ ∀ w H', Same H H' → RN K H H' A r w → Q w H'
theorem o_cut : SlR X (rCut X.K) := by
  intro pins s σ H x v vl vu lo hi sl Q I rx hs pl pu ⟨A, d, r, hA, h1, er, k⟩
  unfold pCut at er
  split at er
  · rename_i ds
    cases er
    obtain ⟨p, vs, e3, hp, rp⟩ := h1.lst
    exact sl_list pins s σ H x v vl vu lo hi sl Q I rx hs pl pu ⟨p, vs, e3, hp.sq, fun c nc => k _ _ (upd_same_of nc) (rn_lst nc (cutD_rep rp))⟩
  · rename_i ds
    cases er
    obtain ⟨p, vs, e3, hp, rp⟩ := h1.tup
    refine sl_tupA pins s σ H x v vl vu lo hi sl Q I rx hs pl pu ⟨p, vs, e3, hp, fun hw => ?_, fun _ c nc => k _ _ (upd_same_of nc) (rn_tup nc (cutD_rep rp))⟩
    subst e3
    rw [rp.len] at hw
    refine k _ H (.refl _) ?_
    rw [cutD_whole hw]
    exact h1
  · cases er

/-! ### functions -/
def intsOf : List D → Option (List Int)
  | [] => some []
  | .int i :: ds => match intsOf ds with
    | some is => some (i :: is)
    | none => none
  | _ => none
theorem ints_some : ∀ {ds : List D} {is : List Int}, intsOf ds = some is → ds = is.map PyData.int
  | [], is, h => by simp only [intsOf] at h; cases h; rfl
  | .int i :: ds, is, h => by
    simp only [intsOf] at h
    split at h
    · rename_i js e
      cases h
      rw [ints_some e]; rfl
    · cases h
  | .none :: _, _, h => by simp [intsOf] at h
  | .bool _ :: _, _, h => by simp [intsOf] at h
  | .str _ :: _, _, h => by simp [intsOf] at h
  | .list _ :: _, _, h => by simp [intsOf] at h
  | .tuple _ :: _, _, h => by simp [intsOf] at h
  | .dict _ :: _, _, h => by simp [intsOf] at h
def boolsOf : List D → Option (List Bool)
  | [] => some []
  | .bool i :: ds => match boolsOf ds with
    | some is => some (i :: is)
    | none => none
  | _ => none
theorem bools_some : ∀ {ds : List D} {is : List Bool}, boolsOf ds = some is → ds = is.map PyData.bool
  | [], is, h => by simp only [boolsOf] at h; cases h; rfl
  | .bool i :: ds, is, h => by
    simp only [boolsOf] at h
    split at h
    · rename_i js e
      cases h
      rw [bools_some e]; rfl
    · cases h
  | .none :: _, _, h => by simp [boolsOf] at h
  | .int _ :: _, _, h => by simp [boolsOf] at h
  | .str _ :: _, _, h => by simp [boolsOf] at h
  | .list _ :: _, _, h => by simp [boolsOf] at h
  | .tuple _ :: _, _, h => by simp [boolsOf] at h
  | .dict _ :: _, _, h => by simp [boolsOf] at h
def pLen : List D → Option R
  | [.list ds] => some (.v (.int ds.length))
  | [.tuple ds] => some (.v (.int ds.length))
  | [.str x] => if x.length ≤ 1000 then some (.v (.int x.length)) else none
  | _ => none
theorem c_len : CallR X (.builtin "len") (rN X.K pLen) := by
  intro pins s σ H xs us Q I rx ⟨A, ds, r, hA, hv, er, k⟩
  unfold pLen at er
  split at er
  · cases er
    obtain ⟨w, rfl, h⟩ := hv.of1
    obtain ⟨p, vs, rfl, hp, rp⟩ := h.lst
    exact call_len pins s σ H _ us Q I rx ⟨_, vs.length, rfl, .inl ⟨vs, hp.sq, rfl⟩, by rw [rp.len]; exact k _ H (.refl _) rn_int⟩
  · cases er
    obtain ⟨w, rfl, h⟩ := hv.of1
    obtain ⟨p, vs, rfl, hp, rp⟩ := h.tup
    exact call_len pins s σ H _ us Q I rx ⟨_, vs.length, rfl, .inr ⟨vs, hp, rfl⟩, by rw [rp.len]; exact k _ H (.refl _) rn_int⟩
  · split at er
    · rename_i hx
      cases er
      obtain ⟨w, rfl, h⟩ := hv.of1
      have e := h.str
      subst e
      exact call_len pins s σ H _ us Q I rx ⟨_, _, rfl, ⟨lt1000 hx, rfl⟩, k _ H (.refl _) rn_int⟩
    · cases er
  · cases er
def pTuple : List D → Option R
  | [.list ds] => some (.v (.tuple ds))
  | [.tuple ds] => some (.v (.tuple ds))
  | _ => none
theorem c_tuple : CallR X (.type "tuple") (rN X.K pTuple) := by
  intro pins s σ H xs us Q I rx ⟨A, ds, r, hA, hv, er, k⟩
  unfold pTuple at er
  split at er
  · cases er
    obtain ⟨w, rfl, h⟩ := hv.of1
    obtain ⟨p, vs, rfl, hp, rp⟩ := h.lst
    exact call_tuple_of pins s σ H _ us Q I rx ⟨p, vs, rfl, .inl ⟨hp.sq, fun c nc => k _ _ (upd_same_of nc) (rn_tup nc rp)⟩⟩
  · cases er
    obtain ⟨w, rfl, h⟩ := hv.of1
    obtain ⟨p, vs, e, hp, rp⟩ := h.tup
    subst e
    exact call_tuple_of pins s σ H _ us Q I rx ⟨p, vs, rfl, .inr ⟨hp, k _ H (.refl _) h⟩⟩
  · cases er
def pList : List D → Option R
  | [.list ds] => some (.o ds)
  | [.tuple ds] => some (.o ds)
  | _ => none
theorem c_list : CallR X (.type "list") (rN X.K pList) := by
  intro pins s σ H xs us Q I rx ⟨A, ds, r, hA, hv, er, k⟩
  unfold pList at er
  split at er
  · cases er
    obtain ⟨w, rfl, h⟩ := hv.of1
    obtain ⟨p, vs, rfl, hp, rp⟩ := h.lst
    exact call_list_of pins s σ H _ us Q I rx ⟨p, vs, rfl, .inl hp.sq, fun c nc => k _ _ (upd_same_of nc) (rn_lst nc rp)⟩
  · cases er
    obtain ⟨w, rfl, h⟩ := hv.of1
    obtain ⟨p, vs, e, hp, rp⟩ := h.tup
    subst e
    exact call_list_of pins s σ H _ us Q I rx ⟨p, vs, rfl, .inr hp, fun c nc => k _ _ (upd_same_of nc) (rn_lst nc rp)⟩
  · cases er
def pInt : List D → Option R
  | [.int i] => some (.v (.int i))
  | [.bool b] => some (.v (.int (if b then 1 else 0)))
  | _ => none
theorem c_int : CallR X (.type "int") (rN X.K pInt) := by
  intro pins s σ H xs us Q I rx ⟨A, ds, r, hA, hv, er, k⟩
  unfold pInt at er
  split at er
  · cases er
    obtain ⟨w, rfl, h⟩ := hv.of1
    rw [h.int] at rx
    exact call_int1 pins s σ H _ us Q I rx (.inl ⟨_, rfl, k _ H (.refl _) rn_int⟩)
  · cases er
    obtain ⟨w, rfl, h⟩ := hv.of1
    rw [h.bl] at rx
    exact call_int1 pins s σ H _ us Q I rx (.inr ⟨_, rfl, k _ H (.refl _) rn_int⟩)
  · cases er
def pAbs : List D → Option R
  | [.int i] => some (.v (.int (if i < 0 then -i else i)))
  | _ => none
theorem c_abs : CallR X (.builtin "abs") (rN X.K pAbs) := by
  intro pins s σ H xs us Q I rx ⟨A, ds, r, hA, hv, er, k⟩
  unfold pAbs at er
  split at er
  · cases er
    obtain ⟨w, rfl, h⟩ := hv.of1
    rw [h.int] at rx
    exact call_abs pins s σ H _ us Q I rx ⟨_, rfl, k _ H (.refl _) rn_int⟩
  · cases er
def pSum : List D → Option R
  | [.list ds] => match intsOf ds with
    | some is => some (.v (.int is.sum))
    | none => none
  | _ => none
theorem c_sum (hc : X.calm = true) : CallR X (.builtin "sum") (rN X.K pSum) := by
  intro pins s σ H xs us Q I rx ⟨A, ds, r, hA, hv, er, k⟩
  unfold pSum at er
  split at er
  · split at er
    · rename_i ds is e
      cases er
      have e := ints_some e
      subst e
      obtain ⟨w, rfl, h⟩ := hv.of1
      obtain ⟨p, vs, rfl, hp, rp⟩ := h.lst
      have e := rp.ints
      subst e
      exact cr_sum hc pins s σ H _ us Q I rx ⟨p, is, rfl, hp.sq, k _ H (.refl _) rn_int⟩
    · cases er
  · cases er
def pDivmod : List D → Option R
  | [.int a, .int b] => if decide (0 < b) && !Builtin.divisionGoesByPylong a b then some (.v (.tuple [.int (a / b), .int (a % b)])) else none
  | _ => none
theorem c_divmod : CallR X (.builtin "divmod") (rN X.K pDivmod) := by
  intro pins s σ H xs us Q I rx ⟨A, ds, r, hA, hv, er, k⟩
  unfold pDivmod at er
  split at er
  · split at er
    · rename_i a b hm
      cases er
      simp only [Bool.and_eq_true, decide_eq_true_eq, Bool.not_eq_true'] at hm
      obtain ⟨w, w2, rfl, h, h2⟩ := hv.of2
      rw [h.int, h2.int] at rx
      exact call_divmodW pins s σ H _ us Q I rx ⟨a, b, rfl, hm, fun c nc => k _ _ (upd_same_of nc) (rn_tup nc (.cons rep_int (.cons rep_int .nil)))⟩
    · cases er
  · cases er
def pGcd : List D → Option R
  | [.int a, .int b] => some (.v (.int (Nat.gcd a.natAbs b.natAbs : Nat)))
  | _ => none
theorem c_gcd : CallR X (.builtin "math.gcd") (rN X.K pGcd) := by
  intro pins s σ H xs us Q I rx ⟨A, ds, r, hA, hv, er, k⟩
  unfold pGcd at er
  split at er
  · cases er
    obtain ⟨w, w2, rfl, h, h2⟩ := hv.of2
    rw [h.int, h2.int] at rx
    exact cr_gcd pins s σ H _ us Q I rx ⟨_, _, rfl, k _ H (.refl _) rn_int⟩
  · cases er
def pMax : List D → Option R
  | [.int a, .int b] => some (.v (.int (if b > a then b else a)))
  | _ => none
theorem c_max (hc : X.calm = true) : CallR X (.builtin "max") (rN X.K pMax) := by
  intro pins s σ H xs us Q I rx ⟨A, ds, r, hA, hv, er, k⟩
  unfold pMax at er
  split at er
  · cases er
    obtain ⟨w, w2, rfl, h, h2⟩ := hv.of2
    rw [h.int, h2.int] at rx
    exact call_max2 hc pins s σ H _ us Q I rx ⟨_, _, rfl, k _ H (.refl _) rn_int⟩
  · cases er
def pMin : List D → Option R
  | [.int a, .int b] => some (.v (.int (if b < a then b else a)))
  | _ => none
theorem c_min (hc : X.calm = true) : CallR X (.builtin "min") (rN X.K pMin) := by
  intro pins s σ H xs us Q I rx ⟨A, ds, r, hA, hv, er, k⟩
  unfold pMin at er
  split at er
  · cases er
    obtain ⟨w, w2, rfl, h, h2⟩ := hv.of2
    rw [h.int, h2.int] at rx
    exact call_min2 hc pins s σ H _ us Q I rx ⟨_, _, rfl, k _ H (.refl _) rn_int⟩
  · cases er
def pAll : List D → Option R
  | [.list ds] => match boolsOf ds with
    | some bs => some (.v (.bool (bs.all id)))
    | none => none
  | _ => none
def pAny : List D → Option R
  | [.list ds] => match boolsOf ds with
    | some bs => some (.v (.bool (bs.any id)))
    | none => none
  | _ => none
theorem c_all (hc : X.calm = true) : CallR X (.builtin "all") (rN X.K pAll) := by
  intro pins s σ H xs us Q I rx ⟨A, ds, r, hA, hv, er, k⟩
  unfold pAll at er
  split at er
  · split at er
    · rename_i ds is e
      cases er
      have e := bools_some e
      subst e
      obtain ⟨w, rfl, h⟩ := hv.of1
      obtain ⟨p, vs, rfl, hp, rp⟩ := h.lst
      have e := rp.bools
      subst e
      exact cr_all hc pins s σ H _ us Q I rx ⟨p, is, rfl, hp.sq, k _ H (.refl _) rn_bl⟩
    · cases er
  · cases er
theorem c_any (hc : X.calm = true) : CallR X (.builtin "any") (rN X.K pAny) := by
  intro pins s σ H xs us Q I rx ⟨A, ds, r, hA, hv, er, k⟩
  unfold pAny at er
  split at er
  · split at er
    · rename_i ds is e
      cases er
      have e := bools_some e
      subst e
      obtain ⟨w, rfl, h⟩ := hv.of1
      obtain ⟨p, vs, rfl, hp, rp⟩ := h.lst
      have e := rp.bools
      subst e
      exact cr_any hc pins s σ H _ us Q I rx ⟨p, is, rfl, hp.sq, k _ H (.refl _) rn_bl⟩
    · cases er
  · cases er
/-- sorted, of intsOf -/
def sortI (is : List Int) : List Int := is.mergeSort fun a b => decide (a ≤ b)
theorem sortI_uniq {is ns : List Int} (p : ns.Perm is) (s : ns.Pairwise (· ≤ ·)) : ns = sortI is := by
  have h1 : (sortI is).Perm is := List.mergeSort_perm _ _
  have h2 : (sortI is).Pairwise (· ≤ ·) := by
    have := List.pairwise_mergeSort (le := fun a b : Int => decide (a ≤ b)) (fun a b c => by simp; omega) (fun a b => by simp; omega) is
    exact this.imp fun h => by simpa using h
  exact (p.trans h1.symm).eq_of_pairwise (fun a b _ _ h h' => by omega) s h2
def pSorted : List D → Option R
  | [.list ds] => match intsOf ds with
    | some is => some (.o ((sortI is).map PyData.int))
    | none => none
  | _ => none
theorem c_sorted : CallR X (.builtin "sorted") (rN X.K pSorted) := by
  intro pins s σ H xs us Q I rx ⟨A, ds, r, hA, hv, er, k⟩
  unfold pSorted at er
  split at er
  · split at er
    · rename_i ds is e
      cases er
      have e := ints_some e
      subst e
      obtain ⟨w, rfl, h⟩ := hv.of1
      obtain ⟨p, vs, rfl, hp, rp⟩ := h.lst
      have e := rp.ints
      subst e
      refine cr_sortedI pins s σ H _ us Q I rx ⟨p, is, rfl, hp.sq, fun ns q pm pw nq => ?_⟩
      rw [sortI_uniq pm pw]
      exact k _ _ (upd_same_of nq) (rn_lst nq (.of_ints _))
    · cases er
  · cases er
/-- repr -/
def showOk (d : D) : Bool := d.showable && SeqAt.shaped d && decide (d.shown.length ≤ 100000) && !d.hasDict
def pRepr : List D → Option R
  | [d] => if showOk d then some (.v (.str d.shown)) else none
  | _ => none
theorem c_repr (hg : X.A.guards = some []) (hu : X.A.units + 70 < cLine) : CallR X (.builtin "repr") (rN X.K pRepr) := by
  intro pins s σ H xs us Q I rx ⟨A, ds, r, hA, hv, er, k⟩
  unfold pRepr at er
  split at er
  · rename_i d
    split at er
    · rename_i hm
      cases er
      simp only [showOk, Bool.and_eq_true, decide_eq_true_eq, Bool.not_eq_true'] at hm
      obtain ⟨⟨⟨m1, m2⟩, m3⟩, m4⟩ := hm
      obtain ⟨w, rfl, h⟩ := hv.of1
      obtain ⟨u, rfl, ru⟩ := vals1 rx
      have sz : d.shown.length ≤ sizeLine := Nat.le_trans m3 (by decide)
      cases d with
      | none =>
        have e := h.non
        subst e
        cases (show u = Value.none from ru)
        exact PySem.P.repr_of_none ⟨.str _, H, I.tok _, ⟨_, rfl⟩, k _ H (.refl _) rn_str⟩
      | bool b =>
        have e := h.bl
        subst e
        cases (show u = Value.bool b from ru)
        exact PySem.P.repr_of_bool ⟨.str _, H, I.tok _, ⟨_, rfl⟩, k _ H (.refl _) (by cases b <;> exact rn_str)⟩
      | int i =>
        have e := h.int
        subst e
        obtain ⟨t, rfl⟩ := (show ∃ t, u = Value.int i t from ru)
        exact PySem.P.repr_of_int (by simpa [PyData.showable] using m1) ⟨.str _, H, I.tok _, ⟨_, rfl⟩, k _ H (.refl _) (by simp only [PyData.shown]; exact rn_str)⟩
      | str x =>
        have e := h.str
        subst e
        obtain ⟨t, rfl⟩ := (show ∃ t, u = Value.str x t from ru)
        exact PySem.P.repr_of_str ⟨.str _, H, I.tok _, ⟨_, rfl⟩, k _ H (.refl _) (by simp only [PyData.shown]; exact rn_str)⟩ (by simpa [PyData.shown] using sz)
      | list ds =>
        obtain ⟨as, rr⟩ := h.reads I ru m2
        obtain ⟨p, vs, e, _⟩ := h.lst
        subst e
        cases ru
        refine repr_of_reads' rr m1 (fun z => by rw [m4] at z; cases z) hg (by have := SeqAt.depth_of_shaped m2; omega) (fun _ _ q => q) (fun h' u tk hk => ?_) sz
        exact ⟨.str _, H, I.kept (t' := tk) hk, ⟨_, rfl⟩, k _ H (.refl _) rn_str⟩
      | tuple ds =>
        obtain ⟨as, rr⟩ := h.reads I ru m2
        obtain ⟨p, vs, e, _⟩ := h.tup
        subst e
        cases ru
        refine repr_of_reads' rr m1 (fun z => by rw [m4] at z; cases z) hg (by have := SeqAt.depth_of_shaped m2; omega) (fun _ _ q => q) (fun h' u tk hk => ?_) sz
        exact ⟨.str _, H, I.kept (t' := tk) hk, ⟨_, rfl⟩, k _ H (.refl _) rn_str⟩
      | dict kvs => simp [PyData.hasDict] at m4
    · cases er
  · cases er
/-- str, of an int or a text -/
def pStr : List D → Option R
  | [.int i] => if i.natAbs.log2 < 1920 then some (.v (.str (toString i))) else none
  | _ => none
theorem c_str : CallR X (.type "str") (rN X.K pStr) := by
  intro pins s σ H xs us Q I rx ⟨A, ds, r, hA, hv, er, k⟩
  unfold pStr at er
  split at er
  · split at er
    · rename_i i hm
      cases er
      obtain ⟨w, rfl, h⟩ := hv.of1
      rw [h.int] at rx
      exact call_str_int pins s σ H _ us Q I rx ⟨i, rfl, hm, k _ H (.refl _) rn_str⟩
    · cases er
  · cases er
end
end Dn

set_option Elab.async false
set_option linter.all false
set_option maxRecDepth 100000
set_option maxHeartbeats 2000000
namespace Dn
open PySem PySem.Spec PyProof.Rows L2

/-! ### slices, chains, isinstance -/
section
variable {X : Cx} {a b c e : Expr} {t ta tb tc tl th : TD} {pos p2 p1 p0 : Pos}
/-- a slice's bound: an int -/
def asI : R → Option Int
  | .v (.int i) => some i
  | _ => none
theorem asI_some {r : R} {i : Int} (h : asI r = some i) : r = .v (.int i) := by
  unfold asI at h
  split at h
  · cases h; rfl
  · cases h
abbrev TI1 := Rho → Option (Option Int × Rho)
def iNo : TI1 := fun ρ => some (none, ρ)
def iOf (t : TD) : TI1 := fun ρ => match t ρ with
  | some (r, ρ1) => match asI r with
    | some i => some (some i, ρ1)
    | none => none
  | none => none
def rdO (K : PySem.W.Frag) (t : TI1) : TO := fun σ H Q => ∃ B ρ o ρ', ρ.length = σ.length ∧ ER K H B (Z ρ σ) ∧ t ρ = some (o, ρ') ∧
  ∀ H', Lk ρ ρ' → Stp (Z ρ σ) H (Z ρ' σ) H' → ER K H' B (Z ρ' σ) → Q o H'
def DO (X : Cx) (e : Option Expr) (t : TI1) : Prop := PO X e (rdO X.K t)
theorem po_weak {e : Option Expr} {t t' : TO} (h : PO X e t) (w : ∀ σ H Q, t' σ H Q → t σ H Q) : PO X e t' := ⟨fun pins s σ H Q I q => h.run pins s σ H Q I (w σ H Q q)⟩
theorem do_none : DO X none iNo := po_weak po_none fun σ H Q q => by
  obtain ⟨B, ρ, o, ρ', hl, er, e, k⟩ := q
  cases e
  exact k H (.refl _) .refl er
theorem do_some (h : DE X e t) : DO X (some e) (iOf t) := po_weak (po_some h) fun σ H Q q => by
  obtain ⟨B, ρ, o, ρ', hl, er, e, k⟩ := q
  unfold iOf at e
  split at e
  · rename_i r ρ1 e1
    split at e
    · rename_i i e2
      cases e
      obtain rfl := asI_some e2
      refine ⟨B, ρ, _, ρ', hl, er, e1, fun v H1 lk st rr => ⟨i, ?_, k H1 lk st rr.er.left⟩⟩
      have : looks ρ' [R.v (.int i)] = some [.int i] := by simp [looks, look]
      cases rr.vw this with
      | cons q _ => exact q.int
    · cases e
  · cases e
/-- t[lo:hi] -/
def dCut (t : TD) (lo hi : TI1) : TD := fun ρ => match t ρ with
  | some (r, ρ1) => match lo ρ1 with
    | some (l, ρ2) => match hi ρ2 with
      | some (u, ρ3) => match look ρ3 r with
        | some d => match pCut d l u with
          | some q => some (q, ρ3)
          | none => none
        | none => none
      | none => none
    | none => none
  | none => none
theorem de_cut {lo hi : Option Expr} {l u : TI1} (h : DE X e t) (hl : DO X lo l) (hu : DO X hi u) : DE X (.Subscript e (.Slice lo hi none p2) pos) (dCut t l u) := by
  refine pe_weak (pe_slice o_cut h hl hu) fun σ H Q q => ?_
  obtain ⟨B, ρ, r, ρ', hlen, er, e, k⟩ := q
  unfold dCut at e
  split at e
  · rename_i r1 ρ1 e1
    split at e
    · rename_i l' ρ2 e2
      split at e
      · rename_i u' ρ3 e3
        split at e
        · rename_i d e4
          split at e
          · rename_i q' e5
            cases e
            refine ⟨B, ρ, r1, ρ1, hlen, er, e1, fun v H1 lk st rr => ?_⟩
            refine ⟨AO B (tz [r1] [v]), ρ1, l', ρ2, lk.len.trans hlen, rr.er.aside, e2, fun H2 lk2 st2 er2 => ?_⟩
            refine ⟨AO B (tz [r1] [v]), ρ2, u', ρ', (lk2.len.trans lk.len).trans hlen, er2, e3, fun H3 lk3 st3 er3 => ?_⟩
            have st23 := st2.trans st3
            have er4 : ER X.K H3 B (Z ρ' σ ++ (tz [r1] [v] ++ [])) := rr.er.back st23 (by simpa using er3) (fun a z => absurd z own_nil)
            rw [List.append_nil] at er4
            have rr4 : RSs X.K H H3 B ρ' σ [r1] [v] := ⟨rr.len, er4, rr.fr, rr.bo⟩
            have hv := rr4.vw (ds := [d]) (by simp [looks, e4])
            obtain ⟨w, ew, hw⟩ := hv.of1
            cases ew
            have st4 := st.trans st23
            have er5 := er4.left
            refine ⟨AO B (Z ρ' σ), d, r, fun b z => ?_, hw, e5, fun w H4 sm rn => k w H4 ((lk.trans lk2).trans lk3) (st4.trans (.same sm)) (RN.rss er5 sm st4.trk rn)⟩
            rcases z with z | z
            · exact er5.trk b z
            · obtain ⟨vs, q⟩ := er5.lst z
              rw [q]; simp
          · cases e
        · cases e
      · cases e
    · cases e
  · cases e
/-! ### xs[::-1] of a list or a tuple -/
theorem back_places (n : Nat) : Builtin.Slice.slicePlaces ((n : Int) - 1) (-1) (-1) = n := by
  unfold Builtin.Slice.slicePlaces
  rw [if_neg (by omega)]
  by_cases hn : (n : Int) - 1 > -1
  · rw [if_pos hn]
    have : ((n : Int) - 1 - -1 - 1) / (- -1) = (n : Int) - 1 := by
      have e : (- -1 : Int) = 1 := by decide
      rw [e, Int.ediv_one]; omega
    rw [this]; omega
  · rw [if_neg hn]; omega
theorem fm_congr {f g : Nat → Option Value} : ∀ {l : List Nat}, (∀ m ∈ l, f m = g m) → l.filterMap f = l.filterMap g
  | [], _ => rfl
  | a :: l, h => by rw [List.filterMap_cons, List.filterMap_cons, h a List.mem_cons_self, fm_congr fun m q => h m (List.mem_cons_of_mem _ q)]
theorem back_pick (xs : Array Value) : ((List.range xs.size).filterMap fun (m : Nat) => xs[((xs.size : Int) - 1 + (m : Int) * (-1)).toNat]?).toArray = xs.toList.reverse.toArray := by
  refine congrArg List.toArray ?_
  have e1 : ∀ ys : List Value, ((List.range ys.length).filterMap fun (m : Nat) => ys[((ys.length : Int) - 1 + (m : Int) * (-1)).toNat]?) = ys.reverse := by
    intro ys
    have e2 : ((List.range ys.length).filterMap fun (m : Nat) => ys[((ys.length : Int) - 1 + (m : Int) * (-1)).toNat]?) = (List.range ys.length).filterMap fun m => ys.reverse[m]? := by
      refine fm_congr fun m hm => ?_
      have hm' := List.mem_range.mp hm
      have e3 : ((ys.length : Int) - 1 + (m : Int) * (-1)).toNat = ys.length - 1 - m := by omega
      rw [e3, List.getElem?_reverse hm']
    rw [e2]
    have e4 : ∀ zs : List Value, ((List.range zs.length).filterMap fun m => zs[m]?) = zs := by
      intro zs
      apply List.ext_getElem?
      intro i
      induction zs generalizing i with
      | nil => simp
      | cons z zs ih =>
        rw [List.length_cons, List.range_succ_eq_map, List.filterMap_cons]
        simp only [List.getElem?_cons_zero, List.filterMap_map]
        cases i with
        | zero => simp
        | succ i =>
          have := ih i
          rw [List.getElem?_cons_succ, List.getElem?_cons_succ, ← this]
          rfl
    have := e4 ys.reverse
    rw [List.length_reverse] at this
    exact this
  have := e1 xs.toList
  simpa using this
theorem back_parts {prog : Program} {w : World} {A : Around} {E : Value → Shared → Prop} {s : Shared} {sl : Addr} {vl vu vs : Value} {n : Nat} {Q : Int × Int × Nat → Shared → Prop} (hs : s.heap.IsSliceOf sl vl vu vs)
    (pl : IsPart vl none) (pu : IsPart vu none) (ps : IsPart vs (some (-1))) (h : Q ((n : Int) - 1, -1, n) s) : wpAny (model prog w) A (Builtin.Slice.sliceApplied (.ref sl) (pure (n : Int))) Q E s := by
  obtain ⟨o, ho, hc, hd⟩ := id hs
  unfold Builtin.Slice.sliceApplied Builtin.Slice.sliceFields
  refine wpAny_bind (wpAny_bind (wpAny_field ho hd (x := vl) rfl (wpAny_bind (wpAny_field ho hd (x := vu) rfl (wpAny_bind (wpAny_field ho hd (x := vs) rfl (wpAny_pure ?_)))))))
  refine wpAny_bind (HT.slicePart_ ps ?_)
  show wpAny _ _ (if ((-1 : Int) == 0) = true then _ else _) _ _ s
  rw [if_neg (by decide)]
  refine wpAny_bind (HT.slicePart_ pl (wpAny_bind (HT.slicePart_ pu (wpAny_bind (wpAny_pure ?_)))))
  have e : Builtin.Slice.sliceAdjust none none (-1) (n : Int) = ((n : Int) - 1, -1) := rfl
  show wpAny _ _ (match Builtin.Slice.sliceAdjust none none (-1) (n : Int) with | (lo, hi) => pure (lo, (-1 : Int), Builtin.Slice.slicePlaces lo hi (-1))) _ _ s
  rw [e]
  show wpAny _ _ (pure ((n : Int) - 1, (-1 : Int), Builtin.Slice.slicePlaces ((n : Int) - 1) (-1) (-1))) _ _ s
  rw [back_places]
  exact wpAny_pure h
theorem back_tuple {prog : Program} {w : World} {A : Around} {E : Value → Shared → Prop} {s : Shared} {t sl : Addr} {items : Array Value} {vl vu vs : Value} {Q : Value → Shared → Prop} (ht : IsTup s.heap t items) (hs : s.heap.IsSliceOf sl vl vu vs)
    (pl : IsPart vl none) (pu : IsPart vu none) (ps : IsPart vs (some (-1)))
    (h : Q (.ref s.heap.objs.size) { s with heap := s.heap.push { cls := .type "tuple", data := .seq items.toList.reverse.toArray } })
    (hsz : items.size ≤ sizeLine) : wpAny (model prog w) A (getItem (.ref t) (.ref sl)) Q E s := by
  have room : sizeOk (.seq items.toList.reverse.toArray) := by
    show items.toList.reverse.toArray.size ≤ sizeLine
    simpa using hsz
  obtain ⟨o, ho, hc, hd⟩ := id hs
  have kind : s.TypeIs (.ref sl) "slice" := ⟨o, ho, hc⟩
  unfold getItem
  try with_reducible refine wpAny_holding ?_
  first | refine wpAny_bind (wpAny_pure ?_) | skip
  refine wpAny_bind (wpAny_sequenceKey ht.typeIs (by decide) ?_)
  refine wpAny_bind (wpAny_callSpecial?_slot (name := Str.ofString "__getitem__") ht.typeIs PyProof.Rows.slot_tuple_getitem (wpAny_call_entry PyProof.Rows.slot_tuple_getitem ht.typeIs entry_tuple_getitem ?_ (args_tuple_getitem _ _)))
  show wpAny _ _ (Builtin.Tuple.tupleItemsOf (.ref t) >>= _) _ _ s
  refine wpAny_bind (tupleItemsOf_ ht (wpAny_bind (wpAny_typeOf kind ?_)))
  rw [if_pos (by decide)]
  refine wpAny_bind (back_parts hs pl pu ps ?_)
  show wpAny _ _ (if (((items.size : Int) - 1 == 0 && (-1 : Int) == 1 && items.size == items.size) = true) then _ else _) _ _ s
  rw [if_neg (by simp), back_pick]
  first
    | exact wpAny_bind (m := Builtin.Tuple.tupleExact _) (wpAny_newObj_type (wpAny_pure ⟨_, rfl, wpAny_pure h⟩) room)
    | exact wpAny_bind (m := Builtin.Tuple.tupleExact _) (wpAny_newObj_type (wpAny_bind (wpAny_pure (wpAny_pure ⟨_, rfl, wpAny_pure h⟩))) room)
    | exact wpAny_bind (wpAny_bind (m := Builtin.Tuple.tupleExact _) (wpAny_newObj_type (wpAny_pure (wpAny_pure ⟨_, rfl, wpAny_pure h⟩)) room))
    | exact wpAny_bind (wpAny_bind (m := Builtin.Tuple.tupleExact _) (wpAny_newObj_type (wpAny_pure ⟨_, rfl, wpAny_pure h⟩) room))
def tBack (K : PySem.W.Frag) (te : TE) : TE := fun σ H Q => te σ H fun x H1 => ∃ a xs, x = .ref a ∧ ((SqL K H1 a xs ∧ ∀ p, H1 p = none → Q (.ref p) (upd H1 p (.lst xs.reverse))) ∨ (SqT K H1 a xs ∧ ∀ p, H1 p = none → Q (.ref p) (upd H1 p (.tup xs.reverse))))
theorem pe_back {X : Cx} {e : Expr} {te : TE} {k : Nat} {p1 p2 p3 pos : Pos} (he : PE X e te) : PE X (.Subscript e (.Slice none none (some (.UnaryOp .USub (.Constant (.int 1) k p1) p2)) p3) pos) (tBack X.K te) := by
  refine ⟨fun pins s σ H Q I h => ?_⟩
  refine Subscript_ (thn (he.run pins s σ H _ I h) fun v s1 ⟨x, H1, I1, r1, q1⟩ => ?_)
  obtain ⟨a, xs, rfl, q⟩ := q1
  cases r1
  have step : PO X (some (.UnaryOp .USub (.Constant (.int 1) k p1) p2)) (tPart (tUn (rU fun i => .int (-i)) (tC (.int 1)))) := po_some (pe_un un_neg pe_int)
  refine wpAny_Slice (thn (po_none.run pins s1 σ H1 (fun o H' => o = none ∧ H' = H1) I1 ⟨rfl, rfl⟩) fun vl s2 ⟨l, H2, I2, pl, el, e2⟩ => ?_)
  subst el e2
  refine thn (po_none.run pins s2 σ H2 (fun o H' => o = none ∧ H' = H2) I2 ⟨rfl, rfl⟩) fun vu s3 ⟨u, H3, I3, pu, eu, e3⟩ => ?_
  subst eu e3
  refine thn (step.run pins s3 σ H3 (fun o H' => o = some (-1) ∧ H' = H3) I3 ⟨1, rfl, -1, rfl, rfl, rfl⟩) fun vs s4 ⟨o, H4, I4, ps, eo, e4⟩ => ?_
  subst eo e4
  have I5 : Inv X pins σ H4 { s4 with heap := s4.heap.push { cls := .type "slice", data := .fields #[vl, vu, vs] } } := I4.kept (t' := s4.toks) fun b ob q => Heap.get?_push_of_some _ q
  show wpAny (model X.prog X.w) X.A (subscriptTail e (.Slice none none (some (.UnaryOp .USub (.Constant (.int 1) k p1) p2)) p3) (.ref a) (.ref s4.heap.objs.size)) (EP X pins σ Q) X.xe { s4 with heap := s4.heap.push { cls := .type "slice", data := .fields #[vl, vu, vs] } }
  rcases q with ⟨hx, q⟩ | ⟨hx, q⟩
  · obtain ⟨its, r, ht, hz⟩ := I5.list hx
    have hlen := r.length
    refine tail_any (ops := [.ref a, .ref s4.heap.objs.size]) ht.isList.typeIs (PySem.slot_list_getitem.lookup) ?_ (by with_unfolding_all rfl)
    refine wpAny_getItem_list_slice ht.isList (Heap.IsSliceOf.new _ vl vu vs) pl pu ps (by decide) ?_ (by rw [List.size_toArray]; omega)
    rw [PySem.W.krv_pick]
    refine ⟨.ref _, _, I5.laid (t' := s4.toks) (o := .lst xs.reverse) (fun b ob q => Heap.get?_push_of_some _ q) (Nat.le_refl _) ⟨by rw [List.length_reverse]; exact hz, _, 0, r.reverse, Heap.get?_push_size _ rfl⟩, rfl, q _ (I5.hok.fresh (Nat.le_refl _))⟩
  · obtain ⟨its, r, ht, hz⟩ := I5.tuple hx
    have hlen := r.length
    refine tail_any (ops := [.ref a, .ref s4.heap.objs.size]) ht.typeIs (PyProof.Rows.slot_tuple_getitem.lookup) ?_ (by with_unfolding_all rfl)
    refine back_tuple ht (Heap.IsSliceOf.new _ vl vu vs) pl pu ps ?_ (by rw [List.size_toArray]; omega)
    refine ⟨.ref _, _, I5.laid (t' := s4.toks) (o := .tup xs.reverse) (fun b ob q => Heap.get?_push_of_some _ q) (Nat.le_refl _) ⟨by rw [List.length_reverse]; exact hz, _, r.reverse, _, Heap.get?_push_size _ rfl, rfl, _, rfl⟩, rfl, q _ (I5.hok.fresh (Nat.le_refl _))⟩
def pRev : List D → Option R
  | [.list ds] => some (.o ds.reverse)
  | [.tuple ds] => some (.v (.tuple ds.reverse))
  | _ => none
theorem de_rev {k : Nat} (h : DE X e t) : DE X (.Subscript e (.Slice none none (some (.UnaryOp .USub (.Constant (.int 1) k p1) p2)) p0) pos) (dOp pRev (dCons t dNil)) := by
  refine pe_weak (pe_back h) fun σ H Q q => ?_
  have q1 := one_read (op_read q)
  obtain ⟨B, ρ, r, ρ', hlen, er, e, k⟩ := q1
  refine ⟨B, ρ, r, ρ', hlen, er, e, fun v H1 lk st rr => ?_⟩
  obtain ⟨A, ds, r', hA, hv, er', k'⟩ := k v H1 lk st rr
  unfold pRev at er'
  split at er'
  · cases er'
    obtain ⟨w, ew, h1⟩ := hv.of1
    cases ew
    obtain ⟨a, xs, ea, hr, hx⟩ := h1.lst
    exact ⟨a, xs, ea, .inl ⟨hr.sq, fun c nc => k' _ _ (upd_same_of nc) (rn_lst nc hx.rev)⟩⟩
  · cases er'
    obtain ⟨w, ew, h1⟩ := hv.of1
    cases ew
    obtain ⟨a, xs, ea, hr, hx⟩ := h1.tup
    exact ⟨a, xs, ea, .inr ⟨hr, fun c nc => k' _ _ (upd_same_of nc) (rn_tup nc hx.rev)⟩⟩
  · cases er'

/-- a < b < c, of ints -/
def dChain (p q : Int → Int → Bool) (ta tb tc : TD) : TD := fun ρ => match ta ρ with
  | some (ra, ρ1) => match asI ra with
    | some i => match tb ρ1 with
      | some (rb, ρ2) => match asI rb with
        | some j => match p i j with
          | true => match tc ρ2 with
            | some (rc, ρ3) => match asI rc with
              | some l => some (.v (.bool (q j l)), ρ3)
              | none => none
            | none => none
          | false => some (.v (.bool false), ρ2)
        | none => none
      | none => none
    | none => none
  | none => none
theorem RSs.int {K : PySem.W.Frag} {H H' : Hp} {B : Addr → Prop} {ρ : Rho} {σ : St} {i : Int} {v : V} (rr : RSs K H H' B ρ σ [.v (.int i)] [v]) : v = .int i := by
  have : looks ρ [R.v (.int i)] = some [.int i] := by simp [looks, look]
  cases rr.vw this with
  | cons q _ => exact q.int
theorem chain_read {K : PySem.W.Frag} {p q : Int → Int → Bool} {σ : St} {H : Hp} {Q : VK} (h : rd K (dChain p q ta tb tc) σ H Q) :
    tChain (rI0 fun i j => .bl (p i j)) (rI0 fun i j => .bl (q i j)) (rd K ta) (rd K tb) (rd K tc) σ H Q := by
  obtain ⟨B, ρ, r, ρ', hlen, er, e, k⟩ := h
  unfold dChain at e
  split at e
  · rename_i ra ρ1 e1
    split at e
    · rename_i i ei
      obtain rfl := asI_some ei
      split at e
      · rename_i rb ρ2 e2
        split at e
        · rename_i j ej
          obtain rfl := asI_some ej
          refine ⟨B, ρ, _, ρ1, hlen, er, e1, fun v H1 lk st rr => ?_⟩
          refine ⟨B, ρ1, _, ρ2, lk.len.trans hlen, rr.er.left, e2, fun u H2 lk2 st2 rr2 => ?_⟩
          have lk12 := lk.trans lk2
          have st12 := st.trans st2
          refine ⟨i, j, rr.int, rr2.int, p i j, rfl, ?_⟩
          split at e
          · rename_i hp
            refine (if_pos hp).mpr ?_
            split at e
            · rename_i rc ρ3 e3
              split at e
              · rename_i l el
                obtain rfl := asI_some el
                cases e
                refine ⟨B, ρ2, _, ρ', (lk2.len.trans lk.len).trans hlen, rr2.er.left, e3, fun w H3 lk3 st3 rr3 => ?_⟩
                exact ⟨j, l, rr2.int, rr3.int, k _ H3 (lk12.trans lk3) (st12.trans st3) (rss_val rr3.er.left rep_bl)⟩
              · cases e
            · cases e
          · rename_i hp
            cases e
            refine (if_neg (by rw [hp]; exact Bool.false_ne_true)).mpr ?_
            exact k _ H2 lk12 st12 (rss_val rr2.er.left rep_bl)
        · cases e
      · cases e
    · cases e
  · cases e
theorem de_chain {op op' : CmpOp} {p q : Int → Int → Bool} (ho : OpR X (compareOp op) (rI0 fun i j => .bl (p i j))) (ho' : OpR X (compareOp op') (rI0 fun i j => .bl (q i j))) (ha : DE X a ta) (hb : DE X b tb) (hc : DE X c tc) (hm : lastMarks [op, op'] [b, c] = false) :
    DE X (.Compare a [op, op'] [b, c] pos) (dChain p q ta tb tc) := pe_weak (pe_chain ho ho' ha hb hc hm) fun _ _ _ h => chain_read h
theorem dt_chain {op op' : CmpOp} {p q : Int → Int → Bool} (ho : OpR X (compareOp op) (rI0 fun i j => .bl (p i j))) (ho' : OpR X (compareOp op') (rI0 fun i j => .bl (q i j))) (ha : DE X a ta) (hb : DE X b tb) (hc : DE X c tc) (hm : lastMarks [op, op'] [b, c] = false) :
    DT X (.Compare a [op, op'] [b, c] pos) (bVal (dChain p q ta tb tc)) := pt_weak (pt_chain ho ho' ha hb hc hm) fun _ _ _ h => by
    have h1 := chain_read (bval_read h)
    exact h1

/-- what isinstance says of a value and a built-in type -/
def tyName : D → String
  | .none => "NoneType"
  | .bool _ => "bool"
  | .int _ => "int"
  | .str _ => "str"
  | .list _ => "list"
  | .tuple _ => "tuple"
  | .dict _ => "dict"
def isTyN (T n : String) : Bool := n == T || (T == "int" && n == "bool")
def isTy (T : String) (d : D) : Bool := isTyN T (tyName d)
def tyNames : List String := ["NoneType", "bool", "int", "str", "list", "tuple", "dict"]
theorem ty_mem (d : D) : tyName d ∈ tyNames := by cases d <;> simp [tyName, tyNames]
def okTy (T : String) : Bool := T == "int" || T == "bool" || T == "str" || T == "list" || T == "tuple" || T == "dict"
def pIsi (T : String) : List D → Option R
  | [d] => some (.v (.bool (isTy T d)))
  | _ => none
theorem kit_all {K : PySem.W.Frag} {T : String} (h : okTy T = true) (d : D) : PySem.W.kitOne K (.type (tyName d)) (.type T) = some (isTy T d) := by
  have hT : T = "int" ∨ T = "bool" ∨ T = "str" ∨ T = "list" ∨ T = "tuple" ∨ T = "dict" := by simpa [okTy, or_assoc] using h
  refine kit_ty ?_
  have key : ∀ n ∈ tyNames, kitB n T = some (isTyN T n) := by
    rcases hT with rfl | rfl | rfl | rfl | rfl | rfl <;> decide +kernel
  exact key _ (ty_mem d)
theorem Vw.ty {K : PySem.W.Frag} {H : Hp} {A : Addr → Prop} {d : D} {v : V} (h : Vw K H A d v) : TyX K H v (.type (tyName d)) := by
  cases d with
  | none => rw [h.non]; exact .base .non
  | bool b => rw [h.bl]; exact .base (.bl b)
  | int i => rw [h.int]; exact .base (.int i)
  | str i => rw [h.str]; exact .base (.str i)
  | list ds =>
    obtain ⟨a, xs, rfl, hr, _⟩ := h.lst
    rcases hr with (hr | ⟨o, hr⟩) | ⟨its, n, hk, _⟩
    · exact .base (.lst hr)
    · exact .base (.frz hr)
    · exact .kList hk rfl
  | tuple ds =>
    obtain ⟨a, xs, rfl, hr, _⟩ := h.tup
    rcases hr with (hr | ⟨o, hr⟩) | ⟨o, its, n, hk, hc, _⟩
    · exact .base (.tup hr)
    · exact .fTuple hr
    · exact .kTuple hk hc
  | dict ds =>
    unfold Vw Rep at h
    obtain ⟨a, kvs, rfl, _, hr⟩ := h
    exact .base (.dK hr)
theorem bltn_ty {x : Str} {T : String} {q : Pos} (hg : Gl X x) (hm : X.mg x = none) (hv : bootBuiltins x = some (.type T)) (hn : x ≠ "__name__") (hd : (x == ("__debug__" : Str)) = false) : PE X (.Name x q) (tC (.ty T)) :=
  pe_bltn hg hm hv rfl hn hd
theorem de_isi {x : Str} {T : String} {q : Pos} (hT : okTy T = true) (hgi : Gl X "isinstance") (hmi : X.mg "isinstance" = none) (hg : Gl X x) (hm : X.mg x = none) (hv : bootBuiltins x = some (.type T)) (hn : x ≠ "__name__") (hd : (x == ("__debug__" : Str)) = false)
    (h : DE X e t) (he : starEach (e :: [.Name x q]) X.env = (false, eval e X.env) :: starEach [.Name x q] X.env) : DE X (.Call (.Name "isinstance" p1) [e, .Name x q] [] pos) (dOp (pIsi T) (dCons t dNil)) := by
  have hvi : bootBuiltins "isinstance" = some (.builtin "isinstance") := by decide +kernel
  refine pe_weak (pe_callB call_isi hgi hmi hvi (pa_cons h (pa_cons (bltn_ty hg hm hv hn hd) pa_nil) he) (by decide) (by decide) he rfl) fun σ H Q z => ?_
  have q1 := one_read (op_read z)
  obtain ⟨B, ρ, r, ρ', hlen, er, e, k⟩ := q1
  refine ⟨B, ρ, r, ρ', hlen, er, e, fun v H1 lk st rr => ?_⟩
  obtain ⟨A, ds, r', hA, hv', er', k'⟩ := k v H1 lk st rr
  unfold pIsi at er'
  split at er'
  · rename_i d
    cases er'
    obtain ⟨w, ew, h1⟩ := hv'.of1
    cases ew
    exact ⟨v, .ty T, _, .type T, isTy T d, rfl, .ty T, h1.ty, kit_all hT d, k' _ H1 (.refl _) rn_bl⟩
  · cases er'
/-- list(range(..)), tuple(range(..)) -/
def rgD (a b : Int) : List D := (List.range (b - a).toNat).map fun i => PyData.int (a + (i : Nat))
theorem rg_rep {K : PySem.W.Frag} {H : Hp} {A : Addr → Prop} (a b : Int) : RepA K H A (rgD a b) (rgV a b) := by
  have h1 : rgD a b = ((List.range (b - a).toNat).map fun i => (a + (i : Nat) : Int)).map PyData.int := by unfold rgD; rw [List.map_map]; rfl
  have h2 : rgV a b = ((List.range (b - a).toNat).map fun i => (a + (i : Nat) : Int)).map V.int := by unfold rgV; rw [List.map_map]; rfl
  rw [h1, h2]
  exact .of_ints _
def rgOk (a b : Int) : Bool := decide (-1000000 ≤ a) && decide (a ≤ 1000000) && decide (-1000000 ≤ b) && decide (b ≤ 1000000) && decide ((b - a).toNat ≤ 1000)
theorem rgOk_ok {a b : Int} (h : rgOk a b = true) : RgOk a b := by
  simp only [rgOk, Bool.and_eq_true, decide_eq_true_eq] at h
  refine ⟨by omega, by omega, by omega, by omega, ?_⟩
  have := h.2
  omega
def pListRg1 : List D → Option R
  | [.int b] => if rgOk 0 b then some (.o (rgD 0 b)) else none
  | _ => none
theorem de_listRg1 {q q2 : Pos} (hc : X.calm = true) (hgl : Gl X "list") (hml : X.mg "list" = none) (hgr : Gl X "range") (hmr : X.mg "range" = none) (h : DE X e t)
    (he : starEach [e] X.env = (false, eval e X.env) :: starEach [] X.env) : DE X (.Call (.Name "list" q) [.Call (.Name "range" p1) [e] [] q2] [] pos) (dOp pListRg1 (dCons t dNil)) := by
  refine pe_weak (pe_listRg hc hgl hml (prg_1 hgr hmr h he)) fun σ H Q z => ?_
  have q1 := one_read (op_read z)
  obtain ⟨B, ρ, r, ρ', hlen, er, e, k⟩ := q1
  refine ⟨B, ρ, r, ρ', hlen, er, e, fun v H1 lk st rr => ?_⟩
  obtain ⟨A, ds, r', hA, hv', er', k'⟩ := k v H1 lk st rr
  unfold pListRg1 at er'
  split at er'
  · split at er'
    · rename_i b hb
      cases er'
      obtain ⟨w, ew, h1⟩ := hv'.of1
      cases ew
      exact ⟨b, h1.int, rgOk_ok hb, fun c nc => k' _ _ (upd_same_of nc) (rn_lst nc (rg_rep _ _))⟩
    · cases er'
  · cases er'
end

/-! ### defs -/
/-- a def's promise where nothing is under way that prints -/
structure FnG (P : Program) (w : World) (K : PySem.W.Frag) (mg : Str → Option Value) (base : Heap) (CX : CXT) (k : Nat) (f : Addr) (fd : FuncData) (ps : List Str) (sp : Sp) : Prop where
  len : ∀ vs H Q E, sp vs H Q E → vs.length = ps.length
  run : ∀ (A : Around) (outer : List Env) (s : Shared) (H : Hp) (args : Args) (us : List Value) (vs : List V) (Q : VK) (E : XK), Room k A → A.guards = some [] → Env0 P w K mg base A outer s H →
    BindsTo s fd args (ps.zip us) → Vals vs us → sp vs H Q E → codeAny (model P w) A (.call (.ref f) args) (CR CX outer P w H s Q E) s
section
variable {X : Cx} {CX : CXT} {k : Nat} {f : Addr} {fd : FuncData} {ps ks : List Str} {sp : Sp} {E : XK} {x : Str} {p pos : Pos} {e : Expr} {es : List Expr} {kws : List Keyword} {t tk : TA} {ds : List Value}
theorem FnG.mono {P w K mg base} {j : Nat} (F : FnG P w K mg base CX j f fd ps sp) (h : j ≤ k) : FnG P w K mg base CX k f fd ps sp :=
  ⟨F.len, fun A outer s H args us vs Q E hr hg => F.run A outer s H args us vs Q E (hr.mono h) hg⟩
theorem FnG.imp {P w K mg base} {sp' : Sp} (F : FnG P w K mg base CX k f fd ps sp) (h : ∀ vs H Q E, sp' vs H Q E → sp vs H Q E) : FnG P w K mg base CX k f fd ps sp' :=
  ⟨fun vs H Q E q => F.len vs H Q E (h _ _ _ _ q), fun A outer s H args us vs Q E hr hg he hb hv hs => F.run A outer s H args us vs Q E hr hg he hb hv (h _ _ _ _ hs)⟩
/-- behind the callee -/
theorem after_call {pins : List (Addr × Obj)} {σ : St} {H : Hp} {s : Shared} {Q : VK} (hx : Passes CX X E) (I : Inv X pins σ H s) {code : Code} (h : codeAny (model X.prog X.w) X.A code (CR CX X.stack X.prog X.w H s Q E) s) :
    codeAny (model X.prog X.w) X.A code (fun r s' => match r with | .ok (.ret u) => EP X pins σ Q u s' | .ok _ => False | .error e => X.xe e s') s := by
  refine codeAny_mono h fun r s' hq => ?_
  match r, hq with
  | .error e, hq => exact hx pins σ H s e s' I hq
  | .ok (.ret u), hq => exact I.after hq
theorem call_done {pins : List (Addr × Obj)} {σ : St} {Q : VK} {s : Shared} {v : Value} {us : List Value} {kw : List (Str × Value)} (h : codeAny (model X.prog X.w) X.A (.call v ⟨us, kw⟩) (fun r s' => match r with | .ok (.ret u) => EP X pins σ Q u s' | .ok _ => False | .error e => X.xe e s') s) :
    wpAny (model X.prog X.w) X.A (call v us kw) (EP X pins σ Q) X.xe s := by
  refine wpAny_call (codeAny_mono h fun r s' hq => ?_)
  match r, hq with
  | .error e, hq => exact hq
  | .ok (.ret u), hq => exact hq
theorem pe_callG (F : FnG X.prog X.w X.K X.mg X.base CX k f fd ps sp) (hr : Room k X.A) (hG : X.A.guards = some []) (hg : Gl X x) (hm : X.mg x = some (.ref f)) (hk : PySem.W.keepIn X.K (.ref f) = true) (hb : Binds X.K fd ps []) (hx : Passes CX X E)
    (ha : PA X (e :: es) t) (hdb : (x == ("__debug__" : Str)) = false) (he : starEach (e :: es) X.env = (false, eval e X.env) :: starEach es X.env) (hpl : (backTo pos (starEach es X.env)).any (·.1) = false) :
    PE X (.Call (.Name x p) (e :: es) [] pos) (tCall sp [] E t) := by
  refine ⟨fun pins s σ H Q I h => wpAny_Call_Name_kw (ld_glob I hg hm ?_ hdb)⟩
  refine PySem.W.callWith_K (h₀ := X.base) I.ok.mod.kin hk (thn (ha.run pos pins s σ H _ I h) fun us s1 ⟨vs, H1, I1, r, q⟩ => ⟨I1.kIn, ?_⟩) he hpl
  have q : sp vs H1 Q E := by simpa using q
  have hl : us.length = ps.length := r.length.symm.trans (F.len _ _ _ _ q)
  have bt : BindsTo s1 fd ⟨us, []⟩ (ps.zip us) := by simpa using hb s1 us I1.kIn (by simpa using hl)
  exact call_done (after_call hx I1 (F.run X.A X.stack s1 H1 _ us vs Q E hr hG I1.env0 bt r q))
theorem pe_callG0 (F : FnG X.prog X.w X.K X.mg X.base CX k f fd ps sp) (hr : Room k X.A) (hG : X.A.guards = some []) (hg : Gl X x) (hm : X.mg x = some (.ref f)) (hk : PySem.W.keepIn X.K (.ref f) = true) (hb : Binds X.K fd ps []) (hx : Passes CX X E)
    (hdb : (x == ("__debug__" : Str)) = false) : PE X (.Call (.Name x p) [] [] pos) (tCall sp [] E tNil) := by
  refine ⟨fun pins s σ H Q I h => wpAny_Call_Name_kw (ld_glob I hg hm (PySem.W.callWith_K0 I.kIn hk ?_) hdb)⟩
  have q : sp [] H Q E := h
  have hl := F.len _ _ _ _ q
  have bt : BindsTo s fd ⟨[], []⟩ (ps.zip []) := by simpa using hb s [] I.kIn (by simpa using hl)
  exact call_done (after_call hx I (F.run X.A X.stack s H _ [] [] Q E hr hG I.env0 bt .nil q))
/-- keywords alone: f(k = v, ..); g puts their values into the parameters' order -/
structure KOrd (K : PySem.W.Frag) (fd : FuncData) (ps ks : List Str) (ix : List Nat) : Prop where
  to : ∀ (s : Shared) (ws : List Value), K.In s.heap → ws.length = ks.length → BindsTo s fd ⟨[], ks.zip ws⟩ (ps.zip (ix.filterMap fun i => ws[i]?))
def reord {α : Type} (ix : List Nat) (ws : List α) : List α := ix.filterMap fun i => ws[i]?
theorem reord_vals {vs : List V} {us : List Value} (r : Vals vs us) : ∀ ix : List Nat, Vals (reord ix vs) (reord ix us)
  | [] => .nil
  | i :: ix => by
    unfold reord
    rw [List.filterMap_cons, List.filterMap_cons]
    cases e : vs[i]? with
    | none => rw [r.none_of e]; exact reord_vals r ix
    | some v =>
      obtain ⟨u, e2, r2⟩ := r.get e
      rw [e2]
      exact .cons r2 (reord_vals r ix)
def tCallKw (sp : Sp) (ix : List Nat) (n : Nat) (E : XK) (t : TA) : TE := fun σ H Q => t σ H fun vs H1 => vs.length = n ∧ sp (reord ix vs) H1 Q E
theorem pe_callKw {ix : List Nat} (F : FnG X.prog X.w X.K X.mg X.base CX k f fd ps sp) (hr : Room k X.A) (hG : X.A.guards = some []) (hg : Gl X x) (hm : X.mg x = some (.ref f)) (hk : PySem.W.keepIn X.K (.ref f) = true) (hb : KOrd X.K fd ps ks ix) (hx : Passes CX X E)
    (hkw : PK X kws t) (hall : (backToKw pos (keywordEach kws X.env)).all (·.1.isSome) = true) (hks : (backToKw pos (keywordEach kws X.env)).filterMap (·.1) = ks) (hdb : (x == ("__debug__" : Str)) = false)
    (hpl : ((backTo pos (starEach [] X.env)).any (·.1) || (backToKw pos (keywordEach kws X.env)).any (·.1.isNone)) = false) :
    PE X (.Call (.Name x p) [] kws pos) (tCallKw sp ix ks.length E t) := by
  refine ⟨fun pins s σ H Q I h => wpAny_Call_Name_kw (ld_glob I hg hm (PySem.W.callWith_KW0 (h₀ := X.base) I.ok.mod.kin hk hall ?_ hpl) hdb)⟩
  refine thn (hkw.run pos pins s σ H _ I h) fun ws s2 ⟨zs, H2, I2, rz, hn, q⟩ => ⟨I2.kIn, ?_⟩
  rw [hks]
  have hl : ws.length = ks.length := rz.length.symm.trans hn
  have r2 := reord_vals rz ix
  exact call_done (after_call hx I2 (F.run X.A X.stack s2 H2 _ (reord ix ws) (reord ix zs) Q E hr hG I2.env0 (hb.to s2 ws I2.kIn hl) r2 q))
end

/-! ### promises by functions on values -/
/-- a def of n parameters whose value is F of theirs -/
def spP (K : PySem.W.Frag) (n : Nat) (F : List D → Option R) : Sp := fun vs H Q _ => ∃ (B : Addr → Prop) (ds : List D) (r : R), vs.length = n ∧ (∀ b, B b → H b ≠ none) ∧ RepA K H B ds vs ∧ F ds = some r ∧ ∀ w H', Same H H' → RN K H H' B r w → Q w H'
def frO (r : R) (w : V) (b : Addr) : Prop := (∃ xs, r = .o xs) ∧ w = .ref b
/-- .. whose first parameter is a list that it may change -/
def spV (K : PySem.W.Frag) (n : Nat) (F : List D → List D → Option (R × List D)) : Sp := fun vs H Q _ => ∃ (B : Addr → Prop) (a : Addr) (us ws : List V) (xs ds : List D) (r : R) (xs' : List D), vs = .ref a :: ws ∧ ws.length + 1 = n ∧ H a = some (.lst us) ∧ ¬ B a ∧ (∀ b, B b → H b ≠ none) ∧
  RepA K H (fun b => B b ∨ b = a) xs us ∧ RepA K H (fun b => B b ∨ b = a) ds ws ∧ F xs ds = some (r, xs') ∧
  ∀ w H' us', (∀ b o, H b = some o → b ≠ a → H' b = some o) → H' a = some (.lst us') → RepA K H' (fun b => (B b ∨ b = a) ∨ frO r w b) xs' us' → RN K H H' (fun b => B b ∨ b = a) r w → Q w H'
def dCall (F : List D → Option R) (ts : TDs) : TD := fun ρ => match ts ρ with
  | some (rs, ρ1) => match frz rs ρ1 with
    | some (ds, ρ2) => match F ds with
      | some r => some (r, ρ2)
      | none => none
    | none => none
  | none => none
theorem call_read {K : PySem.W.Frag} {F : List D → Option R} {ts : TDs} {n : Nat} {σ : St} {H : Hp} {Q : VK} {E : XK} (hn : ∀ ds r, F ds = some r → ds.length = n) (h : rd K (dCall F ts) σ H Q) : rds K ts σ H fun vs H1 => spP K n F vs H1 Q E := by
  obtain ⟨B, ρ, r, ρ', hl, er, e, k⟩ := h
  unfold dCall at e
  split at e
  · rename_i rs ρ1 e1
    split at e
    · rename_i ds ρ2 e2
      split at e
      · rename_i r' e3
        cases e
        refine ⟨B, ρ, rs, ρ1, hl, er, e1, fun vs H1 lk st rr => ?_⟩
        obtain ⟨h1, h2, h3, h4⟩ := frz_ok (lk.len.trans hl) e2 rr
        have st2 : Stp (Z ρ σ) H (Z ρ' σ) H1 := st.trans (stp_own h4)
        refine ⟨AO B (Z ρ' σ), ds, r, by rw [h2.len]; exact hn _ _ e3, fun b z => ?_, h2, e3, fun w H2 sm rn => k w H2 (lk.trans h3) (st2.trans (.same sm)) (RN.rss h1 sm st2.trk rn)⟩
        rcases z with z | z
        · exact h1.trk b z
        · obtain ⟨xs, q⟩ := h1.lst z
          rw [q]; simp
      · cases e
    · cases e
  · cases e
/-- an own list is changed, and a result comes -/
theorem er_callV {K : PySem.W.Frag} {H H' : Hp} {B : Addr → Prop} {E : Ent} {p : Bool} {xs xs' : List D} {a : Addr} {us' : List V} {r : R} {w : V} (er : ER K H B ((some (.own p xs), some (.ref a)) :: E)) (hH : ∀ b o, H b = some o → b ≠ a → H' b = some o)
    (ha : H' a = some (.lst us')) (hx : RepA K H' (fun b => AO B ((some (.own p xs), some (.ref a)) :: E) b ∨ frO r w b) xs' us') (rn : RN K H H' (AO B ((some (.own p xs), some (.ref a)) :: E)) r w) :
    ER K H' B (((some (.own p xs'), some (.ref a)) :: E) ++ [(sl r, some w)]) ∧ ∀ b, Own [(sl r, some w)] b → H b = none := by
  have hOw : ∀ b, Own [(sl r, some w)] b → frO r w b ∧ H b = none := fun b z => by
    rcases own_cons.mp z with ⟨q, ys, z⟩ | z
    · have z1 := congrArg Prod.fst z
      have z2 := congrArg Prod.snd z
      simp only at z1 z2
      cases r with
      | v d => cases z1
      | o zs =>
        obtain ⟨c, vs, e, h1, _⟩ := rn
        cases z2
        cases e
        exact ⟨⟨⟨zs, rfl⟩, rfl⟩, h1⟩
      | b i => cases z1
    · exact (own_nil z).elim
  have hA : ∀ b, AO B (((some (.own p xs'), some (.ref a)) :: E) ++ [(sl r, some w)]) b → AO B ((some (.own p xs), some (.ref a)) :: E) b ∨ frO r w b := fun b z => by
    rcases z with z | z
    · exact .inl (.inl z)
    · rcases own_app.mp z with z | z
      · rcases own_cons.mp z with ⟨q, ys, z⟩ | z
        · cases z
          exact .inl (.inr (own_cons.mpr (.inl ⟨p, xs, rfl⟩)))
        · exact .inl (.inr (own_cons.mpr (.inr z)))
      · exact .inr (hOw b z).1
  have hfr : ∀ b, frO r w b → H b = none := fun b ⟨⟨zs, e1⟩, e2⟩ => by
    subst e1 e2
    obtain ⟨c, vs, e, h1, _⟩ := rn
    cases e
    exact h1
  have hA2 : ∀ b, H b ≠ none → AO B (((some (.own p xs'), some (.ref a)) :: E) ++ [(sl r, some w)]) b → AO B ((some (.own p xs), some (.ref a)) :: E) b := fun b t z => (hA b z).elim id fun z => absurd (hfr b z) t
  have hl : ∃ vs, H a = some (.lst vs) := er.lst (own_cons.mpr (.inl ⟨p, xs, rfl⟩))
  have hW : ∀ b, b = a → AO B ((some (.own p xs), some (.ref a)) :: E) b ∧ ∃ zs, H b = some (.lst zs) := fun b z => by
    subst z
    exact ⟨.inr (own_cons.mpr (.inl ⟨p, xs, rfl⟩)), hl⟩
  have nd := List.pairwise_cons.mp er.nd
  have rin : ∀ x, (sl r, some w) = x → (∀ d v, x = (some (.val d), v) → ∃ u, v = some u ∧ Rep K H' (AO B (((some (.own p xs'), some (.ref a)) :: E) ++ [(sl r, some w)])) d u) := fun x ex d v e => by
    subst ex
    cases r with
    | v d0 =>
      cases e
      refine ⟨w, rfl, Rep.mono (show Rep K H' _ _ w from rn) fun b z => (hA b z).elim id fun z => ?_⟩
      obtain ⟨⟨_, z⟩, _⟩ := z
      cases z
    | o zs => cases e
    | b i => cases e
  refine ⟨⟨fun d v m => ?_, fun q ys v m => ?_, ?_, fun b z => ?_⟩, fun b z => (hOw b z).2⟩
  · rcases List.mem_append.mp m with m | m
    · rcases List.mem_cons.mp m with m | m
      · cases m
      · obtain ⟨u, e, rp⟩ := er.val d v (List.mem_cons_of_mem _ m)
        exact ⟨u, e, rp.stp (W := fun b => b = a) hH hW hA2⟩
    · exact rin _ (List.mem_singleton.mp m).symm d v rfl
  · rcases List.mem_append.mp m with m | m
    · rcases List.mem_cons.mp m with m | m1
      · cases m
        exact ⟨a, us', rfl, ha, hx.mono hA, er.notB (own_cons.mpr (.inl ⟨p, xs, rfl⟩))⟩
      · obtain ⟨c, vs, e, hc, rp, nb⟩ := er.own q ys v (List.mem_cons_of_mem _ m1)
        refine ⟨c, vs, e, hH c _ hc fun z => ?_, rp.stp (W := fun b => b = a) hH hW hA2, nb⟩
        subst z
        subst e
        exact nd.1 _ m1 c ⟨p, xs, rfl⟩ ⟨q, ys, rfl⟩
    · have m := (List.mem_singleton.mp m).symm
      cases r with
      | v d0 => cases m
      | b i => cases m
      | o zs =>
        cases m
        obtain ⟨c, vs, e, h1, h2, h3⟩ := rn
        subst e
        refine ⟨c, vs, rfl, h2, h3.mono fun b z => (hA b z).elim .inl fun z => .inr (V.ref.inj z.2).symm, fun z => er.trk c z h1⟩
  · refine List.pairwise_append.mpr ⟨List.pairwise_cons.mpr ⟨fun q hq b ⟨_, _, z⟩ iq => ?_, nd.2⟩, List.pairwise_singleton _ _, fun x hx' y hy b ix iy => ?_⟩
    · cases z
      exact nd.1 q hq _ ⟨p, xs, rfl⟩ iq
    · obtain rfl := List.mem_singleton.mp hy
      have hb := (hOw b (own_cons.mpr (.inl iy))).2
      have : Own ((some (.own p xs), some (.ref a)) :: E) b := by
        rcases List.mem_cons.mp hx' with z | z
        · subst z
          obtain ⟨_, _, z⟩ := ix
          cases z
          exact own_cons.mpr (.inl ⟨p, xs, rfl⟩)
        · exact own_cons.mpr (.inr (own_iff.mpr ⟨x, z, ix⟩))
      obtain ⟨vs, q⟩ := er.lst this
      rw [hb] at q; cases q
  · have h1 := er.trk b z
    cases q : H b with
    | none => exact absurd q h1
    | some o =>
      by_cases hb : b = a
      · subst hb; rw [ha]; simp
      · rw [hH b o q hb]; simp
def dCallV (F : List D → List D → Option (R × List D)) (ts : TDs) : TD := fun ρ => match ts ρ with
  | some (.b i :: rs, ρ1) => match frz rs ρ1 with
    | some (ds, ρ2) => match ρ2[i]? with
      | some (some (.own p xs)) => match F xs ds with
        | some (r, xs') => some (r, ρ2.set i (some (.own p xs')))
        | none => none
      | _ => none
    | none => none
  | some (.o xs :: rs, ρ1) => match frz rs ρ1 with
    | some (ds, ρ2) => match F xs ds with
      | some (r, _) => some (r, ρ2)
      | none => none
    | none => none
  | _ => none
theorem RSs.tailB {K : PySem.W.Frag} {H H' : Hp} {B : Addr → Prop} {ρ : Rho} {σ : St} {r : R} {rs : List R} {v : V} {vs : List V} (h : RSs K H H' B ρ σ (r :: rs) (v :: vs)) : RSs K H H' B ρ σ rs vs := by
  have er : ER K H' B (Z ρ σ ++ ((sl r, some v) :: tz rs vs)) := h.er
  refine ⟨by have := h.len; simpa using this, er.sub (List.Sublist.append_left (List.sublist_cons_self _ _) _), fun a z => h.fr a (own_cons.mpr (.inr z)), fun k i z => ?_⟩
  obtain ⟨w, h1, h2⟩ := h.bo (k + 1) i (by simpa using z)
  exact ⟨w, by simpa using h1, h2⟩
theorem callV_read {K : PySem.W.Frag} {F : List D → List D → Option (R × List D)} {ts : TDs} {n : Nat} {σ : St} {H : Hp} {Q : VK} {E : XK} (hn : ∀ xs ds r, F xs ds = some r → ds.length + 1 = n) (h : rd K (dCallV F ts) σ H Q) :
    rds K ts σ H fun vs H1 => spV K n F vs H1 Q E := by
  obtain ⟨B, ρ, r, ρ', hl, er, e, k⟩ := h
  unfold dCallV at e
  split at e
  · rename_i i rs ρ1 e1
    split at e
    · rename_i ds ρ2 e2
      split at e
      · rename_i p xs e3
        split at e
        · rename_i r' xs' e4
          cases e
          refine ⟨B, ρ, _, ρ1, hl, er, e1, fun vs H1 lk st rr => ?_⟩
          obtain ⟨v, ws, rfl⟩ : ∃ v ws, vs = v :: ws := by
            cases vs with
            | nil => have := rr.len; simp at this
            | cons v ws => exact ⟨v, ws, rfl⟩
          obtain ⟨w0, ew, ei⟩ := rr.bo 0 i (by simp)
          have ew : v = w0 := by simpa using ew
          subst ew
          obtain ⟨h1, h2, h3, h4⟩ := frz_ok (lk.len.trans hl) e2 rr.tailB
          have hl2 : ρ2.length = σ.length := h3.len.trans (lk.len.trans hl)
          obtain ⟨a, us, ea, hus, rus, nb⟩ := h1.own p xs _ (mem_Z e3 ei)
          cases ea
          have g : (Z ρ2 σ)[i]? = some (some (.own p xs), some (.ref a)) := by simp [Z, List.getElem?_zip_eq_some, e3, ei]
          have oa : Own (Z ρ2 σ) a := ⟨p, xs, List.mem_of_getElem? g⟩
          have st2 : Stp (Z ρ σ) H (Z ρ2 σ) H1 := st.trans (stp_own h4)
          refine ⟨fun b => B b ∨ (Own (Z ρ2 σ) b ∧ b ≠ a), a, us, ws, xs, ds, r, xs', rfl, by rw [h2.len]; exact hn _ _ _ e4, hus, fun z => ?_, fun b z => ?_, rus.mono fun b z => ?_, h2.mono fun b z => ?_, e4, fun w H2 us' k1 k2 k3 rn => ?_⟩
          · rcases z with z | z
            · exact nb z
            · exact z.2 rfl
          · rcases z with z | z
            · exact h1.trk b z
            · obtain ⟨xs, q⟩ := h1.lst z.1
              rw [q]; simp
          · rcases z with (z | z) | z
            · exact .inl z
            · exact .inr z.1
            · subst z; exact .inr oa
          · rcases z with (z | z) | z
            · exact .inl z
            · exact .inr z.1
            · subst z; exact .inr oa
          · have hset := set_perm (y := (some (Slot.own p xs'), some (V.ref a))) g
            have er1 := h1.perm hset.2
            have hao : ∀ b, AO B ((some (Slot.own p xs), some (V.ref a)) :: (Z ρ2 σ).eraseIdx i) b → (B b ∨ (Own (Z ρ2 σ) b ∧ b ≠ a)) ∨ b = a := fun b z => by
              by_cases hb : b = a
              · exact .inr hb
              · rcases z with z | z
                · exact .inl (.inl z)
                · exact .inl (.inr ⟨(own_perm hset.2).mpr z, hb⟩)
            obtain ⟨er2, fr2⟩ := er_callV er1 k1 k2 (k3.mono fun b z => z.elim (fun z => .inl (hao b z)) .inr) (by
              cases r with
              | v d => exact Rep.mono rn hao
              | o zs =>
                obtain ⟨c, vs, e, q1, q2, q3⟩ := rn
                exact ⟨c, vs, e, q1, q2, q3.mono fun b z => z.elim (fun z => .inl (hao b z)) .inr⟩
              | b i => exact rn.elim)
            have er3 : ER K H2 B (Z (ρ2.set i (some (.own p xs'))) σ ++ [(sl r, some w)]) := by
              rw [Z_set ei hl2]
              exact er2.perm (List.Perm.append_right _ hset.1.symm)
            have hi : i < ρ2.length := (List.getElem?_eq_some_iff.mp e3).1
            have st3 : Stp (Z ρ2 σ) H1 (Z (ρ2.set i (some (.own p xs'))) σ) H2 := by
              rw [Z_set ei hl2]
              refine ⟨fun b o q nb' => k1 b o q fun z => nb' (by subst z; exact oa), fun b t z => ?_, fun b t => ?_⟩
              · rcases own_cons.mp ((own_perm hset.1).mp z) with ⟨_, _, z⟩ | z
                · cases z; exact oa
                · exact (own_perm hset.2).mpr (own_cons.mpr (.inr z))
              · cases q : H1 b with
                | none => exact absurd q t
                | some o =>
                  by_cases hb : b = a
                  · subst hb; rw [k2]; simp
                  · rw [k1 b o q hb]; simp
            refine k w H2 ((lk.trans h3).trans ⟨by simp, fun j ys z => ?_⟩) (st2.trans st3) ⟨rfl, er3, fun b z => ?_, fun m j z => ?_⟩
            · by_cases hj : i = j
              · subst hj
                rw [e3] at z; cases z
                exact ⟨xs', by simp [hi]⟩
              · exact ⟨ys, by rw [List.getElem?_set_ne hj]; exact z⟩
            · have := fr2 b z
              cases q : H b with
              | none => rfl
              | some o => exact absurd this (st2.trk b (by rw [q]; simp))
            · cases m with
              | zero =>
                have z : r = .b j := by simpa using z
                subst z
                exact rn.elim
              | succ m => simp at z
        · cases e
      · cases e
    · cases e
  · rename_i xs rs ρ1 e1
    split at e
    · rename_i ds ρ2 e2
      split at e
      · rename_i r' xs' e4
        cases e
        refine ⟨B, ρ, _, ρ1, hl, er, e1, fun vs H1 lk st rr => ?_⟩
        obtain ⟨v, ws, rfl⟩ : ∃ v ws, vs = v :: ws := by
          cases vs with
          | nil => have := rr.len; simp at this
          | cons v ws => exact ⟨v, ws, rfl⟩
        have hl1 := lk.len.trans hl
        -- the fresh list stands aside, barred
        have ere : ER K H1 B (Z ρ1 σ ++ ((some (.own false xs), some v) :: tz rs ws)) := rr.er
        obtain ⟨a, us, ea, hus, rus, nb⟩ := ere.own false xs _ (List.mem_append_right _ List.mem_cons_self)
        cases ea
        have ha0 : H a = none := rr.fr a (own_cons.mpr (.inl ⟨false, xs, rfl⟩))
        have erp : ER K H1 B ((Z ρ1 σ ++ tz rs ws) ++ [(some (.own false xs), some (.ref a))]) := ere.perm (by
          rw [List.append_assoc]
          exact List.Perm.append_left _ (List.perm_append_comm (l₁ := [(some (Slot.own false xs), some (V.ref a))])))
        have erA := erp.aside
        have rrT : RSs K H H1 (AO B [(some (.own false xs), some (.ref a))]) ρ1 σ rs ws := ⟨rr.tailB.len, erA, rr.tailB.fr, rr.tailB.bo⟩
        obtain ⟨h1, h2, h3, h4⟩ := frz_ok hl1 e2 rrT
        have st2 : Stp (Z ρ σ) H (Z ρ' σ) H1 := st.trans (stp_own h4)
        have hown1 : ∀ b, Own [(some (Slot.own false xs), some (V.ref a))] b → b = a := fun b z => by
          rcases own_cons.mp z with ⟨_, _, z⟩ | z
          · cases z; rfl
          · exact (own_nil z).elim
        have oa1 : Own [(some (Slot.own false xs), some (V.ref a))] a := own_cons.mpr (.inl ⟨false, xs, rfl⟩)
        have naO : ¬ Own (Z ρ' σ) a := fun z => h1.notB z (.inr oa1)
        -- the environment and the fresh list together
        have er1 : ER K H1 B (Z ρ' σ ++ ([(some (.own false xs), some (.ref a))] ++ [])) := by
          have e0 : ER K H1 B (Z ρ1 σ ++ [(some (.own false xs), some (.ref a))]) := erp.sub (by
            rw [List.append_assoc]
            exact List.Sublist.append_left (List.sublist_append_right _ _) _)
          exact e0.back (stp_own h4) (by simpa using h1) (fun b z => absurd z own_nil)
        rw [List.append_nil] at er1
        have er2 : ER K H1 B ((some (.own false xs), some (.ref a)) :: Z ρ' σ) := er1.perm (List.perm_append_comm (l₂ := [(some (Slot.own false xs), some (V.ref a))]))
        obtain ⟨a', us2, ea, hus2, rus2, nb2⟩ := er2.own false xs _ List.mem_cons_self
        cases ea
        rw [hus] at hus2
        cases hus2
        have hao : ∀ b, AO B ((some (Slot.own false xs), some (V.ref a)) :: Z ρ' σ) b → (B b ∨ Own (Z ρ' σ) b) ∨ b = a := fun b z => by
          rcases z with z | z
          · exact .inl (.inl z)
          · rcases own_cons.mp z with ⟨_, _, z⟩ | z
            · cases z; exact .inr rfl
            · exact .inl (.inr z)
        have hoa : ∀ b, (B b ∨ Own (Z ρ' σ) b) ∨ b = a → AO B ((some (Slot.own false xs), some (V.ref a)) :: Z ρ' σ) b := fun b z => by
          rcases z with (z | z) | z
          · exact .inl z
          · exact .inr (own_cons.mpr (.inr z))
          · subst z; exact .inr (own_cons.mpr (.inl ⟨false, xs, rfl⟩))
        refine ⟨fun b => B b ∨ Own (Z ρ' σ) b, a, us, ws, xs, ds, r, xs', rfl, by rw [h2.len]; exact hn _ _ _ e4, hus, fun z => ?_, fun b z => ?_, rus2.mono hoa, h2.mono fun b z => ?_, e4, fun w H2 us' k1 k2 k3 rn => ?_⟩
        · rcases z with z | z
          · exact nb z
          · exact naO z
        · rcases z with z | z
          · exact h1.trk b (.inl z)
          · obtain ⟨xs, q⟩ := h1.lst z
            rw [q]; simp
        · rcases z with (z | z) | z
          · exact .inl (.inl z)
          · exact .inr z
          · subst z; exact .inl (.inr oa1)
        · obtain ⟨er3, fr3⟩ := er_callV er2 k1 k2 (k3.mono fun b z => z.elim (fun z => .inl (hao b z)) .inr) (by
            cases r with
            | v d => exact Rep.mono rn hao
            | o zs =>
              obtain ⟨c, vs, e, q1, q2, q3⟩ := rn
              exact ⟨c, vs, e, q1, q2, q3.mono fun b z => z.elim (fun z => .inl (hao b z)) .inr⟩
            | b i => exact rn.elim)
          have er4 : ER K H2 B (Z ρ' σ ++ [(sl r, some w)]) := er3.sub (List.sublist_cons_self _ _)
          have st3 : Stp (Z ρ' σ) H1 (Z ρ' σ) H2 ∨ True := .inr trivial
          have st4 : Stp (Z ρ σ) H (Z ρ' σ) H2 := by
            refine ⟨fun b o q nb' => k1 b o (st2.keep b o q nb') fun z => ?_, fun b t z => st2.own b t z, fun b t => ?_⟩
            · subst z; rw [ha0] at q; cases q
            · have t1 := st2.trk b t
              cases q : H1 b with
              | none => exact absurd q t1
              | some o =>
                by_cases hb : b = a
                · subst hb; rw [k2]; simp
                · rw [k1 b o q hb]; simp
          refine k w H2 (lk.trans h3) st4 ⟨rfl, er4, fun b z => ?_, fun m j z => ?_⟩
          · have := fr3 b z
            cases q : H b with
            | none => rfl
            | some o => exact absurd this (st2.trk b (by rw [q]; simp))
          · cases m with
            | zero =>
              have z : r = .b j := by simpa using z
              subst z
              exact rn.elim
            | succ m => simp at z
      · cases e
    · cases e
  · cases e
section
variable {X : Cx} {k n : Nat} {f : Addr} {fd : FuncData} {ps ks : List Str} {x : Str} {p pos : Pos} {e : Expr} {es : List Expr} {kws : List Keyword} {ts : TDs} {F : List D → Option R} {G : List D → List D → Option (R × List D)}
theorem de_call (hF : FnG X.prog X.w X.K X.mg X.base CX0 k f fd ps (spP X.K n F)) (hn : ∀ ds r, F ds = some r → ds.length = n) (hr : Room k X.A) (hG : X.A.guards = some []) (hg : Gl X x) (hm : X.mg x = some (.ref f)) (hk : PySem.W.keepIn X.K (.ref f) = true) (hb : Binds X.K fd ps [])
    (ha : DA X (e :: es) ts) (hdb : (x == ("__debug__" : Str)) = false) (he : starEach (e :: es) X.env = (false, eval e X.env) :: starEach es X.env) (hpl : (backTo pos (starEach es X.env)).any (·.1) = false) : DE X (.Call (.Name x p) (e :: es) [] pos) (dCall F ts) :=
  pe_weak (pe_callG (E := E0) hF hr hG hg hm hk hb pass0 ha hdb he hpl) fun σ H Q h => by
    have := call_read (E := E0) hn h
    simpa [tCall] using this
theorem de_callV (hF : FnG X.prog X.w X.K X.mg X.base CX0 k f fd ps (spV X.K n G)) (hn : ∀ xs ds r, G xs ds = some r → ds.length + 1 = n) (hr : Room k X.A) (hG : X.A.guards = some []) (hg : Gl X x) (hm : X.mg x = some (.ref f)) (hk : PySem.W.keepIn X.K (.ref f) = true) (hb : Binds X.K fd ps [])
    (ha : DA X (e :: es) ts) (hdb : (x == ("__debug__" : Str)) = false) (he : starEach (e :: es) X.env = (false, eval e X.env) :: starEach es X.env) (hpl : (backTo pos (starEach es X.env)).any (·.1) = false) : DE X (.Call (.Name x p) (e :: es) [] pos) (dCallV G ts) :=
  pe_weak (pe_callG (E := E0) hF hr hG hg hm hk hb pass0 ha hdb he hpl) fun σ H Q h => by
    have := callV_read (E := E0) hn h
    simpa [tCall] using this
/-- by keywords alone -/
def DK (X : Cx) (kws : List Keyword) (t : TDs) : Prop := PK X kws (rds X.K t)
theorem pk_weak {t t' : TA} (h : PK X kws t) (w : ∀ σ H Q, t' σ H Q → t σ H Q) : PK X kws t' := ⟨fun pos pins s σ H Q I q => h.run pos pins s σ H Q I (w σ H Q q)⟩
theorem dk_nil : DK X [] dNil := pk_weak pk_nil fun _ _ _ h => nil_read h
theorem dk_cons {nm : Option Str} {kpos : Pos} {t : TD} (h : DE X e t) (hs : DK X kws ts) : DK X (⟨nm, e, kpos⟩ :: kws) (dCons t ts) := pk_weak (pk_cons h hs) fun _ _ _ h => cons_read h
def dCallK (F : List D → Option R) (m : Nat) (ix : List Nat) (ts : TDs) : TD := dCall (fun ds => if ds.length = m then F (reord ix ds) else none) ts
theorem reord_rep {K : PySem.W.Frag} {H : Hp} {A : Addr → Prop} {ds : List D} {vs : List V} (r : RepA K H A ds vs) : ∀ ix : List Nat, RepA K H A (reord ix ds) (reord ix vs)
  | [] => .nil
  | i :: ix => by
    unfold reord
    rw [List.filterMap_cons, List.filterMap_cons]
    cases e : ds[i]? with
    | none =>
      have : vs[i]? = none := by rw [List.getElem?_eq_none_iff] at e ⊢; rw [r.len]; exact e
      rw [this]; exact reord_rep r ix
    | some v =>
      obtain ⟨u, e2, r2⟩ := r.get e
      rw [e2]
      exact .cons r2 (reord_rep r ix)
theorem de_callK {ix : List Nat} (hF : FnG X.prog X.w X.K X.mg X.base CX0 k f fd ps (spP X.K n F)) (hn : ∀ ds r, F ds = some r → ds.length = n) (hr : Room k X.A) (hG : X.A.guards = some []) (hg : Gl X x) (hm : X.mg x = some (.ref f)) (hk : PySem.W.keepIn X.K (.ref f) = true) (hb : KOrd X.K fd ps ks ix)
    (ha : DK X kws ts) (hall : (backToKw pos (keywordEach kws X.env)).all (·.1.isSome) = true) (hks : (backToKw pos (keywordEach kws X.env)).filterMap (·.1) = ks) (hdb : (x == ("__debug__" : Str)) = false)
    (hpl : ((backTo pos (starEach [] X.env)).any (·.1) || (backToKw pos (keywordEach kws X.env)).any (·.1.isNone)) = false) : DE X (.Call (.Name x p) [] kws pos) (dCallK F ks.length ix ts) :=
  pe_weak (pe_callKw (E := E0) hF hr hG hg hm hk hb pass0 ha hall hks hdb hpl) fun σ H Q h => by
    have hn' : ∀ ds r, (if ds.length = ks.length then F (reord ix ds) else none) = some r → ds.length = ks.length := fun ds r q => by
      split at q
      · assumption
      · cases q
    have q := call_read (E := E0) hn' h
    obtain ⟨B, ρ, rs, ρ', hl, er, e1, kk⟩ := q
    refine ⟨B, ρ, rs, ρ', hl, er, e1, fun vs H1 lk st rr => ?_⟩
    obtain ⟨B2, ds, r, h1, h2, h3, h4, h5⟩ := kk vs H1 lk st rr
    have hd : ds.length = ks.length := by rw [← h3.len]; exact h1
    have h4 := (if_pos hd).symm.trans h4
    refine ⟨h1, B2, reord ix ds, r, ?_, h2, reord_rep h3 ix, h4, h5⟩
    rw [(reord_rep h3 ix).len]
    exact hn _ _ h4
end
end Dn

set_option Elab.async false
set_option linter.all false
set_option maxRecDepth 100000
set_option maxHeartbeats 2000000
namespace Dn
open PySem PySem.Spec PyProof.Rows L2

/-! ### results made fast: lists of slots frozen, new lists kept -/
def res : List R → Rho → Option (List R × Rho)
  | [], ρ => some ([], ρ)
  | .v d :: rs, ρ => match res rs ρ with
    | some (qs, ρ') => some (.v d :: qs, ρ')
    | none => none
  | .o xs :: rs, ρ => match res rs ρ with
    | some (qs, ρ') => some (.o xs :: qs, ρ')
    | none => none
  | .b i :: rs, ρ => match ρ[i]? with
    | some (some (.own false xs)) => match res rs (ρ.set i (some (.val (.list xs)))) with
      | some (qs, ρ') => some (.v (.list xs) :: qs, ρ')
      | none => none
    | some (some (.val d)) => match res rs ρ with
      | some (qs, ρ') => some (.v d :: qs, ρ')
      | none => none
    | _ => none
def fast : R → Bool
  | .b _ => false
  | _ => true
section
variable {K : PySem.W.Frag} {H H0 H' : Hp} {B : Addr → Prop} {E : Ent}
/-- a value twice -/
theorem ER.dup {d : D} {v : V} (h : ER K H B E) (r : Rep K H (AO B E) d v) : ER K H B ((some (.val d), some v) :: E) := by
  have hm : ∀ b, AO B ((some (Slot.val d), some v) :: E) b → AO B E b := fun b z => z.elim .inl fun z => (own_cons.mp z).elim (fun ⟨_, _, z⟩ => by cases z) .inr
  refine ⟨fun d' u m => ?_, fun p xs u m => ?_, List.pairwise_cons.mpr ⟨fun q _ a ⟨_, _, z⟩ => (by cases z), h.nd⟩, h.trk⟩
  · rcases List.mem_cons.mp m with m | m
    · cases m
      exact ⟨v, rfl, r.mono hm⟩
    · obtain ⟨w, e, q⟩ := h.val d' u m
      exact ⟨w, e, q.mono hm⟩
  · rcases List.mem_cons.mp m with m | m
    · cases m
    · obtain ⟨a, vs, e, hl, q, nb⟩ := h.own p xs u m
      exact ⟨a, vs, e, hl, q.mono hm, nb⟩
/-- an entry that holds nothing -/
theorem ER.blank {v : Option V} (h : ER K H B E) : ER K H B ((none, v) :: E) := by
  have hm : ∀ b, AO B (((none : Option Slot), v) :: E) b → AO B E b := fun b z => z.elim .inl fun z => (own_cons.mp z).elim (fun ⟨_, _, z⟩ => by cases z) .inr
  refine ⟨fun d' u m => ?_, fun p xs u m => ?_, List.pairwise_cons.mpr ⟨fun q _ a ⟨_, _, z⟩ => (by cases z), h.nd⟩, h.trk⟩
  · rcases List.mem_cons.mp m with m | m
    · cases m
    · obtain ⟨w, e, q⟩ := h.val d' u m
      exact ⟨w, e, q.mono hm⟩
  · rcases List.mem_cons.mp m with m | m
    · cases m
    · obtain ⟨a, vs, e, hl, q, nb⟩ := h.own p xs u m
      exact ⟨a, vs, e, hl, q.mono hm, nb⟩
end
theorem own_valcons {d : D} {v : Option V} {E : Ent} {a : Addr} (z : Own ((some (.val d), v) :: E) a) : Own E a := (own_cons.mp z).elim (fun ⟨_, _, z⟩ => by cases z) id
section
variable {K : PySem.W.Frag} {H H0 H' : Hp}
theorem res_ok {σ : St} : ∀ {B : Addr → Prop} {rs qs : List R} {vs : List V} {ρ ρ' : Rho}, ρ.length = σ.length → res rs ρ = some (qs, ρ') → ER K H B (Z ρ σ ++ tz rs vs) → rs.length = vs.length → (∀ (k i : Nat), rs[k]? = some (.b i) → ∃ v, vs[k]? = some v ∧ σ[i]? = some (some v)) →
    ER K H B (Z ρ' σ ++ tz qs vs) ∧ Lk ρ ρ' ∧ (∀ a, Own (Z ρ' σ) a → Own (Z ρ σ) a) ∧ qs.length = vs.length ∧ (qs.all fast = true) ∧ (∀ a, Own (tz qs vs) a → Own (tz rs vs) a) := by
  intro B rs
  induction rs generalizing B with
  | nil =>
    intro qs vs ρ ρ' hl e er hv bo
    simp only [res] at e
    cases e
    exact ⟨er, .refl _, fun _ z => z, hv, rfl, fun _ z => z⟩
  | cons r rs ih =>
    intro qs vs ρ ρ' hl e er hv bo
    obtain ⟨v, vs, rfl⟩ : ∃ v ws, vs = v :: ws := by
      cases vs with
      | nil => simp at hv
      | cons v ws => exact ⟨v, ws, rfl⟩
    have bo' : ∀ (k i : Nat), rs[k]? = some (.b i) → ∃ w, vs[k]? = some w ∧ σ[i]? = some (some w) := fun k i z => by
      obtain ⟨w, h1, h2⟩ := bo (k + 1) i (by simpa using z)
      exact ⟨w, by simpa using h1, h2⟩
    have hv' : rs.length = vs.length := by simpa using hv
    have er0 : ER K H B (Z ρ σ ++ ((sl r, some v) :: tz rs vs)) := er
    have erh : ER K H B (((sl r, some v) :: (Z ρ σ ++ tz rs vs))) := er0.perm List.perm_middle
    have erT : ER K H B (Z ρ σ ++ tz rs vs) := erh.sub (List.sublist_cons_self _ _)
    -- the head's own entry put aside
    have aside : ER K H (AO B [(sl r, some v)]) (Z ρ σ ++ tz rs vs) := (erh.perm (List.perm_append_comm (l₁ := [(sl r, some v)]))).aside
    cases r with
    | v d =>
      simp only [res] at e
      split at e
      · rename_i qs' ρ1 e1
        cases e
        obtain ⟨h1, h2, h3, h4, h5, h6⟩ := ih hl e1 erT hv' bo'
        obtain ⟨u, e5, rp⟩ := er0.val d _ (List.mem_append_right _ List.mem_cons_self)
        cases e5
        refine ⟨(h1.dup (rp.mono fun b z => ?_)).perm List.perm_middle.symm, h2, h3, by simp [h4], by simp [fast, h5], fun a z => ?_⟩
        · rcases z with z | z
          · exact .inl z
          · rcases own_app.mp z with z | z
            · exact .inr (own_app.mpr (.inl (h3 b z)))
            · exact .inr (own_app.mpr (.inr (own_cons.mpr (.inr (h6 b z)))))
        · exact own_cons.mpr (.inr (h6 a (own_valcons z)))
      · cases e
    | o xs =>
      simp only [res] at e
      split at e
      · rename_i qs' ρ1 e1
        cases e
        obtain ⟨h1, h2, h3, h4, h5, h6⟩ := ih (B := AO B [(sl (R.o xs), some v)]) hl e1 aside hv' bo'
        have st : Stp (Z ρ σ ++ tz rs vs) H (Z ρ' σ ++ tz qs' vs) H := stp_own fun a z => (own_app.mp z).elim (fun z => own_app.mpr (.inl (h3 a z))) fun z => own_app.mpr (.inr (h6 a z))
        have back := (erh.perm (List.perm_append_comm (l₁ := [(sl (R.o xs), some v)]))).back (F := []) st (by simpa using h1) (fun a z => absurd z own_nil)
        rw [List.append_nil, List.append_assoc] at back
        refine ⟨back.perm (List.Perm.append_left _ (List.perm_append_comm (l₂ := [(sl (R.o xs), some v)]))), h2, h3, by simp [h4], by simp [fast, h5], fun a z => ?_⟩
        rcases own_cons.mp z with z | z
        · exact own_cons.mpr (.inl z)
        · exact own_cons.mpr (.inr (h6 a z))
      · cases e
    | b i =>
      simp only [res] at e
      obtain ⟨w, ew, ei⟩ := bo 0 i (by simp)
      have ew : v = w := by simpa using ew
      subst ew
      split at e
      · rename_i xs e1
        split at e
        · rename_i qs' ρ1 e2
          cases e
          obtain ⟨er3, hO⟩ := freeze_er hl e1 erT
          have hl3 : (ρ.set i (some (.val (.list xs)))).length = σ.length := by simpa using hl
          obtain ⟨h1, h2, h3, h4, h5, h6⟩ := ih hl3 e2 er3 hv' bo'
          have mem : (some (Slot.val (.list xs)), some v) ∈ Z (ρ.set i (some (.val (.list xs)))) σ ++ tz rs vs := by
            refine List.mem_append_left _ (mem_Z (i := i) ?_ ei)
            have hi : i < ρ.length := (List.getElem?_eq_some_iff.mp e1).1
            simp [hi]
          obtain ⟨u, e5, rp⟩ := er3.val _ _ mem
          cases e5
          refine ⟨(h1.dup (rp.mono fun b z => ?_)).perm List.perm_middle.symm, ⟨by rw [h2.len]; simp, fun j ys z => h2.pin j ys ?_⟩, fun a z => hO a (h3 a z), by simp [h4], by simp [fast, h5], fun a z => own_cons.mpr (.inr (h6 a (own_valcons z)))⟩
          · rcases z with z | z
            · exact .inl z
            · rcases own_app.mp z with z | z
              · exact .inr (own_app.mpr (.inl (h3 b z)))
              · exact .inr (own_app.mpr (.inr (h6 b z)))
          · have hij : i ≠ j := fun e => by subst e; rw [e1] at z; cases z
            rw [List.getElem?_set_ne hij]; exact z
        · cases e
      · rename_i d e1
        split at e
        · rename_i qs' ρ1 e2
          cases e
          obtain ⟨h1, h2, h3, h4, h5, h6⟩ := ih hl e2 erT hv' bo'
          obtain ⟨u, e5, rp⟩ := erT.val d _ (List.mem_append_left _ (mem_Z e1 ei))
          cases e5
          refine ⟨(h1.dup (rp.mono fun b z => ?_)).perm List.perm_middle.symm, h2, h3, by simp [h4], by simp [fast, h5], fun a z => own_cons.mpr (.inr (h6 a (own_valcons z)))⟩
          rcases z with z | z
          · exact .inl z
          · rcases own_app.mp z with z | z
            · exact .inr (own_app.mpr (.inl (h3 b z)))
            · exact .inr (own_app.mpr (.inr (h6 b z)))
        · cases e
      · cases e
end

/-! ### targets -/
structure LkS (ρ ρ' : Rho) (σ σ' : St) : Prop where
  len : ρ'.length = ρ.length
  slen : σ'.length = σ.length
  pin : ∀ (i : Nat) (xs : List D), ρ[i]? = some (some (.own true xs)) → (∃ xs', ρ'[i]? = some (some (.own true xs'))) ∧ σ'[i]? = σ[i]?
theorem LkS.refl (ρ : Rho) (σ : St) : LkS ρ ρ σ σ := ⟨rfl, rfl, fun _ xs h => ⟨⟨xs, h⟩, rfl⟩⟩
theorem LkS.trans {a b c : Rho} {x y z : St} (p : LkS a b x y) (q : LkS b c y z) : LkS a c x z := ⟨q.len.trans p.len, q.slen.trans p.slen, fun i xs h => by
  obtain ⟨⟨ys, h1⟩, h2⟩ := p.pin i xs h
  obtain ⟨h3, h4⟩ := q.pin i ys h1
  exact ⟨h3, h4.trans h2⟩⟩
theorem Lk.s {a b : Rho} (p : Lk a b) (σ : St) : LkS a b σ σ := ⟨p.len, rfl, fun i xs h => ⟨p.pin i xs h, rfl⟩⟩
abbrev TGD := R → Rho → Option Rho
abbrev TGDs := List R → Rho → Option Rho
def Off (js : List Nat) (σ σ' : St) : Prop := ∀ j : Nat, j ∉ js → σ'[j]? = σ[j]?
def rdG (K : PySem.W.Frag) (js : List Nat) (g : TGD) : TG := fun v σ H Q => ∃ B ρ r ρ', ρ.length = σ.length ∧ ER K H B (Z ρ σ ++ tz [r] [v]) ∧ fast r = true ∧ g r ρ = some ρ' ∧
  ∀ σ' H', LkS ρ ρ' σ σ' → Stp (Z ρ σ ++ tz [r] [v]) H (Z ρ' σ') H' → ER K H' B (Z ρ' σ') → Off js σ σ' → Q σ' H'
def rdGs (K : PySem.W.Frag) (js : List Nat) (g : TGDs) : TGs := fun vs σ H Q => ∃ B ρ rs ρ', ρ.length = σ.length ∧ ER K H B (Z ρ σ ++ tz rs vs) ∧ rs.length = vs.length ∧ rs.all fast = true ∧ g rs ρ = some ρ' ∧
  ∀ σ' H', LkS ρ ρ' σ σ' → Stp (Z ρ σ ++ tz rs vs) H (Z ρ' σ') H' → ER K H' B (Z ρ' σ') → Off js σ σ' → Q σ' H'
def DG (X : Cx) (e : Expr) (js : List Nat) (g : TGD) : Prop := PG X e (rdG X.K js g)
def DGs (X : Cx) (es : List Expr) (js : List Nat) (g : TGDs) : Prop := PGs X es (rdGs X.K js g)
theorem pg_weak {X : Cx} {e : Expr} {t t' : TG} (h : PG X e t) (w : ∀ v σ H Q, t' v σ H Q → t v σ H Q) : PG X e t' := ⟨fun pins s σ H v u Q I r q => h.run pins s σ H v u Q I r (w v σ H Q q)⟩
theorem pgs_weak {X : Cx} {e : List Expr} {t t' : TGs} (h : PGs X e t) (w : ∀ v σ H Q, t' v σ H Q → t v σ H Q) : PGs X e t' := ⟨fun pins s σ H v u Q I r q => h.run pins s σ H v u Q I r (w v σ H Q q)⟩
def gNo : TGD := fun _ _ => none
theorem dg_no {X : Cx} {e : Expr} {js : List Nat} : DG X e js gNo := ⟨fun _ _ _ _ _ _ _ _ _ ⟨_, _, _, _, _, _, _, h, _⟩ => by cases h⟩
def isPin : Option (Option Slot) → Bool
  | some (some (.own true _)) => true
  | _ => false
/-- a name -/
def tName (i : Nat) : TGD := fun r ρ => if isPin ρ[i]? || !decide (i < ρ.length) then none else match r with
  | .v d => some (ρ.set i (some (.val d)))
  | .o xs => some (ρ.set i (some (.own false xs)))
  | .b _ => none
theorem tName_some {i : Nat} {r : R} {ρ ρ' : Rho} (h : tName i r ρ = some ρ') : isPin ρ[i]? = false ∧ i < ρ.length ∧ ρ' = ρ.set i (sl r) := by
  unfold tName at h
  split at h
  · cases h
  · rename_i hp
    simp only [Bool.not_eq_true, Bool.or_eq_false_iff, Bool.not_eq_false', decide_eq_true_eq] at hp
    cases r with
    | v d => cases h; exact ⟨hp.1, hp.2, rfl⟩
    | o xs => cases h; exact ⟨hp.1, hp.2, rfl⟩
    | b j => cases h
section
variable {K : PySem.W.Frag} {H : Hp} {B : Addr → Prop}
theorem put_er {ρ : Rho} {σ : St} {i : Nat} {s : Option Slot} {v : V} {T : Ent} (hl : ρ.length = σ.length) (hi : i < ρ.length) (er : ER K H B (Z ρ σ ++ ((s, some v) :: T))) :
    ER K H B (Z (ρ.set i s) (σ.set i (some v)) ++ T) ∧ ∀ a, Own (Z (ρ.set i s) (σ.set i (some v)) ++ T) a → Own (Z ρ σ ++ ((s, some v) :: T)) a := by
  have hi2 : i < σ.length := by omega
  obtain ⟨x, gx⟩ : ∃ x, (Z ρ σ)[i]? = some x := ⟨_, List.getElem?_eq_getElem (by simp [Z, List.length_zip]; omega)⟩
  have p := set_perm (y := (s, some v)) gx
  rw [Z_set2 hi2 hl]
  have sub : ((s, some v) :: (Z ρ σ).eraseIdx i ++ T).Sublist ((s, some v) :: (x :: (Z ρ σ).eraseIdx i) ++ T) := by
    refine List.Sublist.append_right ?_ _
    exact List.Sublist.cons_cons _ (List.sublist_cons_self _ _)
  have perm1 : (Z ρ σ ++ ((s, some v) :: T)).Perm ((s, some v) :: (x :: (Z ρ σ).eraseIdx i) ++ T) := by
    refine List.perm_middle.trans ?_
    exact List.Perm.cons _ (List.Perm.append_right T p.2)
  have perm2 : ((Z ρ σ).set i (s, some v) ++ T).Perm ((s, some v) :: (Z ρ σ).eraseIdx i ++ T) := List.Perm.append_right T p.1
  refine ⟨((er.perm perm1).sub sub).perm perm2.symm, fun a z => ?_⟩
  obtain ⟨b, xs, m⟩ := (own_perm perm2).mp z
  exact (own_perm perm1).mpr ⟨b, xs, sub.mem m⟩
end
theorem lks_put {ρ : Rho} {σ : St} {i : Nat} {s : Option Slot} {v : Option V} (hp : isPin ρ[i]? = false) : LkS ρ (ρ.set i s) σ (σ.set i v) := by
  refine ⟨by simp, by simp, fun j xs h => ?_⟩
  have hij : i ≠ j := fun e => by subst e; rw [h] at hp; cases hp
  exact ⟨⟨xs, by rw [List.getElem?_set_ne hij]; exact h⟩, by rw [List.getElem?_set_ne hij]⟩
section
variable {X : Cx} {pos : Pos}
theorem dg_name {i : Nat} {x : Str} (hN : X.N.Nodup) (hi : X.N[i]? = some x) (hx : Loc X.env.scope x) (hf : X.fn x = true ∨ X.env.scope.names.lookup x = some .local) : DG X (.Name x pos) [i] (tName i) := by
  refine pg_weak (pg_name hN hi hx hf) fun v σ H Q q => ?_
  obtain ⟨B, ρ, r, ρ', hl, er, hfa, e, k⟩ := q
  obtain ⟨h1, h2, h3⟩ := tName_some e
  subst h3
  have er : ER X.K H B (Z ρ σ ++ ((sl r, some v) :: [])) := er
  obtain ⟨e1, e2⟩ := put_er hl h2 er
  rw [List.append_nil] at e1 e2
  exact k _ H (lks_put h1) (stp_own e2) e1 fun j hj => List.getElem?_set_ne fun z => hj (by simp [z])
def gsNil : TGDs := fun rs ρ => match rs with
  | [] => some ρ
  | _ => none
def gsCons (g : TGD) (gs : TGDs) : TGDs := fun rs ρ => match rs with
  | r :: rs => match g r ρ with
    | some ρ1 => gs rs ρ1
    | none => none
  | [] => none
theorem dgs_nil : DGs X [] [] gsNil := by
  refine pgs_weak pgs_nil fun v σ H Q q => ?_
  obtain ⟨B, ρ, rs, ρ', hl, er, hlen, hfa, e, k⟩ := q
  unfold gsNil at e
  split at e
  · cases e
    have : v = [] := List.length_eq_zero_iff.mp hlen.symm
    subst this
    have er : ER X.K H B (Z ρ σ) := er.left
    exact ⟨rfl, k σ H (.refl _ _) (stp_own fun a z => own_app.mpr (.inl z)) er fun _ _ => rfl⟩
  · cases e
theorem gcons_read {K : PySem.W.Frag} {g : TGD} {gs : TGDs} {js ks : List Nat} {vs : List V} {σ : St} {H : Hp} {Q : St → Hp → Prop} (q : rdGs K (js ++ ks) (gsCons g gs) vs σ H Q) : gCons (rdG K js g) (rdGs K ks gs) vs σ H Q := by
  obtain ⟨B, ρ, rs, ρ', hl, er, hlen, hfa, e, k⟩ := q
  unfold gsCons at e
  split at e
  · rename_i r rs
    split at e
    · rename_i ρ1 e1
      obtain ⟨v, vs, rfl⟩ : ∃ v ws, vs = v :: ws := by
        cases vs with
        | nil => simp at hlen
        | cons v ws => exact ⟨v, ws, rfl⟩
      have er0 : ER K H B ((Z ρ σ ++ tz [r] [v]) ++ tz rs vs) := by rw [List.append_assoc]; exact er
      have hfa' : fast r = true ∧ rs.all fast = true := by simpa using hfa
      refine ⟨v, vs, rfl, AO B (tz rs vs), ρ, r, ρ1, hl, er0.aside, hfa'.1, e1, fun σ1 H1 lk st er1 of1 => ?_⟩
      have er2 := er0.back (F := []) st (by simpa using er1) (fun a z => absurd z own_nil)
      rw [List.append_nil] at er2
      have st2 := stp_app (F := []) er0 st (by simpa using er1) (fun a z => absurd z own_nil)
      rw [List.append_nil, List.append_assoc] at st2
      refine ⟨B, ρ1, rs, ρ', (lk.len.trans hl).trans lk.slen.symm, er2, by simpa using hlen, hfa'.2, e, fun σ2 H2 lk2 st3 er3 of2 => ?_⟩
      exact k σ2 H2 (lk.trans lk2) (st2.trans st3) er3 fun j hj => by
        rw [List.mem_append, not_or] at hj
        exact (of2 j hj.2).trans (of1 j hj.1)
    · cases e
  · cases e
theorem dgs_cons {e : Expr} {es : List Expr} {g : TGD} {gs : TGDs} {js ks : List Nat} (h : DG X e js g) (hs : DGs X es ks gs) (he : (assignEach (e :: es) X.env).map (·.2) = assign e X.env :: (assignEach es X.env).map (·.2)) : DGs X (e :: es) (js ++ ks) (gsCons g gs) :=
  pgs_weak (pgs_cons h hs he) fun _ _ _ _ q => gcons_read q
/-- (a, b, ..) = a tuple -/
def gTupD (n : Nat) (gs : TGDs) : TGD := fun r ρ => match r with
  | .v (.tuple ds) => if ds.length = n then gs (ds.map .v) ρ else none
  | _ => none
theorem tz_vals {K : PySem.W.Frag} {H : Hp} {B : Addr → Prop} {E : Ent} : ∀ {ds : List D} {vs : List V}, ER K H B E → RepA K H (AO B E) ds vs → ER K H B (E ++ tz (ds.map .v) vs) ∧ ∀ a, ¬ Own (tz (ds.map R.v) vs) a
  | [], vs, er, r => by
    have : vs = [] := by unfold RepA at r; exact r
    subst this
    exact ⟨by simpa [tz] using er, fun a z => own_nil z⟩
  | d :: ds, vs, er, r => by
    unfold RepA at r
    obtain ⟨v, ws, rfl, h1, h2⟩ := r
    obtain ⟨q1, q2⟩ := tz_vals er h2
    refine ⟨(q1.dup (h1.mono fun b z => z.elim .inl fun z => (own_app.mp z).elim .inr fun z => (q2 b z).elim)).perm List.perm_middle.symm, fun a z => q2 a (own_valcons z)⟩
theorem dg_tup {es : List Expr} {k n : Nat} {gs : TGDs} {js : List Nat} (hc : X.calm = true) (h : DGs X es js gs) (hn : (assignEach es X.env).length = n) (hst : (assignEach es X.env).findIdx? (·.1) = none) : DG X (.Tuple es k pos) js (gTupD n gs) := by
  refine pg_weak (pg_tup hc h hn hst) fun v σ H Q q => ?_
  obtain ⟨B, ρ, r, ρ', hl, er, hfa, e, kk⟩ := q
  unfold gTupD at e
  split at e
  · rename_i ds
    split at e
    · rename_i hlen
      have er0 := er.left
      obtain ⟨u, eu, rp⟩ := er.val (.tuple ds) _ (List.mem_append_right _ List.mem_cons_self)
      cases eu
      unfold Rep at rp
      obtain ⟨a, xs, rfl, hs, rp⟩ := rp
      obtain ⟨q1, q2⟩ := tz_vals er0 (rp.mono fun b z => z.elim .inl fun z => .inr (own_app.mpr (.inl z)))
      refine ⟨a, xs, rfl, hs, by rw [rp.len]; exact hlen, B, ρ, ds.map .v, ρ', hl, q1, by simp [rp.len], ?_, e, fun σ' H' lk st er' off => kk σ' H' lk ?_ er' off⟩
      · simp [List.all_eq_true, fast]
      · refine ⟨fun b o q nb => st.keep b o q fun z => nb ?_, fun b t z => ?_, st.trk⟩
        · exact (own_app.mp z).elim (fun z => own_app.mpr (.inl z)) fun z => (q2 b z).elim
        · exact (own_app.mp (st.own b t z)).elim (fun z => own_app.mpr (.inl z)) fun z => (q2 b z).elim
    · cases e
  · cases e
end
/-! ### a list is changed in its slot -/
section
variable {K : PySem.W.Frag} {H : Hp} {B : Addr → Prop}
theorem er_mut {E : Ent} {p : Bool} {xs xs' : List D} {a : Addr} {us' : List V} (er : ER K H B ((some (.own p xs), some (.ref a)) :: E)) (hx : RepA K H (AO B ((some (.own p xs), some (.ref a)) :: E)) xs' us') :
    ER K (upd H a (.lst us')) B ((some (.own p xs'), some (.ref a)) :: E) := by
  have oa : Own ((some (.own p xs), some (.ref a)) :: E) a := own_cons.mpr (.inl ⟨p, xs, rfl⟩)
  have hH : ∀ b o, H b = some o → b ≠ a → (upd H a (.lst us')) b = some o := fun b o q n => by rw [upd_ne n]; exact q
  have hx' : RepA K (upd H a (.lst us')) (fun b => AO B ((some (.own p xs), some (.ref a)) :: E) b ∨ frO (.v .none) .non b) xs' us' :=
    hx.stp (W := fun b => b = a) hH (fun b z => by subst z; exact ⟨.inr oa, er.lst oa⟩) fun b _ z => z.elim id fun ⟨⟨_, z⟩, _⟩ => by cases z
  have := (er_callV (r := .v .none) (w := .non) er hH upd_same hx' (rep_non (K := K) (H := upd H a (.lst us')) (A := AO B ((some (.own p xs), some (.ref a)) :: E)))).1
  exact this.sub (List.sublist_append_left _ _)
theorem mut_slot {ρ : Rho} {σ : St} {i : Nat} {p : Bool} {xs xs' : List D} {a : Addr} {us' : List V} (hl : ρ.length = σ.length) (e : ρ[i]? = some (some (.own p xs))) (ei : σ[i]? = some (some (.ref a))) (er : ER K H B (Z ρ σ)) (hx : RepA K H (AO B (Z ρ σ)) xs' us') :
    ER K (upd H a (.lst us')) B (Z (ρ.set i (some (.own p xs'))) σ) ∧ Stp (Z ρ σ) H (Z (ρ.set i (some (.own p xs'))) σ) (upd H a (.lst us')) ∧ Lk ρ (ρ.set i (some (.own p xs'))) := by
  have g : (Z ρ σ)[i]? = some (some (.own p xs), some (.ref a)) := by simp [Z, List.getElem?_zip_eq_some, e, ei]
  have hset := set_perm (y := (some (Slot.own p xs'), some (V.ref a))) g
  have hao : ∀ b, AO B ((some (Slot.own p xs), some (V.ref a)) :: (Z ρ σ).eraseIdx i) b → AO B (Z ρ σ) b := fun b z => z.elim .inl fun z => .inr ((own_perm hset.2).mpr z)
  have oa : Own (Z ρ σ) a := ⟨p, xs, List.mem_of_getElem? g⟩
  have hi : i < ρ.length := (List.getElem?_eq_some_iff.mp e).1
  rw [Z_set ei hl]
  refine ⟨(er_mut (er.perm hset.2) (hx.mono hao)).perm hset.1.symm, ⟨fun b o q nb => ?_, fun b t z => ?_, fun b t => ?_⟩, ⟨by simp, fun j ys z => ?_⟩⟩
  · rw [upd_ne (fun z => nb (by subst z; exact oa))]; exact q
  · rcases own_cons.mp ((own_perm hset.1).mp z) with ⟨_, _, z⟩ | z
    · cases z; exact oa
    · exact (own_perm hset.2).mpr (own_cons.mpr (.inr z))
  · by_cases hb : b = a
    · subst hb; rw [upd_same]; simp
    · rw [upd_ne hb]; exact t
  · by_cases hj : i = j
    · subst hj
      rw [e] at z; cases z
      exact ⟨xs', by simp [hi]⟩
    · exact ⟨ys, by rw [List.getElem?_set_ne hj]; exact z⟩
end
/-- the value that r is, frozen -/
def valOf : R → Option D
  | .v d => some d
  | .o xs => some (.list xs)
  | .b _ => none
def ownAt (ρ : Rho) (i : Nat) : Option (Bool × List D) := match ρ[i]? with
  | some (some (.own p xs)) => some (p, xs)
  | _ => none
theorem ownAt_some {ρ : Rho} {i : Nat} {p : Bool} {xs : List D} (h : ownAt ρ i = some (p, xs)) : ρ[i]? = some (some (.own p xs)) := by
  unfold ownAt at h
  split at h
  · rename_i q ys e
    cases h
    exact e
  · cases h
/-- a fast result's temporary as a plain value -/
theorem loose_tmp {K : PySem.W.Frag} {H : Hp} {B : Addr → Prop} {E : Ent} {r : R} {d : D} {v : V} (h : ER K H B (E ++ tz [r] [v])) (e : valOf r = some d) : ER K H B (E ++ [(some (.val d), some v)]) := by
  cases r with
  | v d0 =>
    have : d0 = d := by simpa [valOf] using e
    subst this
    exact h
  | o xs =>
    have : PyData.list xs = d := by simpa [valOf] using e
    subst this
    have h1 : ER K H B ((some (.own false xs), some v) :: E) := h.perm (List.perm_append_comm (l₂ := [(some (Slot.own false xs), some v)]))
    exact h1.loose.perm (List.perm_append_comm (l₁ := [(some (Slot.val (.list xs)), some v)]))
  | b j => cases e
/-- xs[i] = .., xs a name that owns a list -/
def tSub (i : Nat) (t : TD) : TGD := fun r ρ => match valOf r with
  | some d => match ownAt ρ i with
    | some _ => match t ρ with
      | some (ri, ρ1) => match asI ri with
        | some j => match ownAt ρ1 i with
          | some (p, xs) => match ixN xs.length j with
            | some k => some (ρ1.set i (some (.own p (xs.set k d))))
            | none => none
          | none => none
        | none => none
      | none => none
    | none => none
  | none => none
theorem tSub_some {i : Nat} {t : TD} {r : R} {ρ ρ' : Rho} (h : tSub i t r ρ = some ρ') : ∃ d q j ρ1 p xs k, valOf r = some d ∧ ownAt ρ i = some q ∧ t ρ = some (.v (.int j), ρ1) ∧ ownAt ρ1 i = some (p, xs) ∧ ixN xs.length j = some k ∧ ρ' = ρ1.set i (some (.own p (xs.set k d))) := by
  unfold tSub at h
  split at h
  · rename_i d e0
    split at h
    · rename_i q eq
      split at h
      · rename_i ri ρ1 e1
        split at h
        · rename_i j ej
          obtain rfl := asI_some ej
          split at h
          · rename_i p xs e2
            split at h
            · rename_i k ek
              cases h
              exact ⟨d, q, j, ρ1, p, xs, k, e0, eq, e1, e2, ek, rfl⟩
            · cases h
          · cases h
        · cases h
      · cases h
    · cases h
  · cases h
section
variable {X : Cx} {pos : Pos}
theorem dg_sub {o ix : Expr} {i : Nat} {t : TD} (ho : PE X o (tVar i)) (hi : DE X ix t) (ha : ∀ v, assign (.Subscript o ix pos) X.env v = (do
      let ov ← holding [v] (eval o X.env)
      let iv ← holding [v, ov] (eval ix X.env)
      standAt pos
      holding [v, ov, iv] (setItem ov iv v)
      release [v, ov, iv] [])) : DG X (.Subscript o ix pos) [] (tSub i t) := by
  refine pg_weak (pg_sub ho hi set_list ha) fun v σ H Q q => ?_
  obtain ⟨B, ρ, r, ρ', hl, er, hfa, e, k⟩ := q
  obtain ⟨d, q, j, ρ1, p, xs, kk, e0, eq, e1, e2, e3, e4⟩ := tSub_some e
  subst e4
  have eq := ownAt_some eq
  have e2 := ownAt_some e2
  obtain ⟨w, hw, mw⟩ := zget hl eq
  obtain ⟨a, us0, ea, _⟩ := er.own _ _ _ (List.mem_append_left _ mw)
  subst ea
  have hno : ∀ b, ¬ Own [(some (Slot.val d), some v)] b := fun b z => own_nil (own_valcons z)
  have er1 := loose_tmp er e0
  refine ⟨.ref a, hw, AO B [(some (.val d), some v)], ρ, _, ρ1, hl, er1.aside, e1, fun vi H1 lk st rr => ?_⟩
  have hl1 : ρ1.length = σ.length := lk.len.trans hl
  have er2 := er1.back st rr.er rr.fr
  obtain ⟨a2, us, ea, hus, rus, nb⟩ := er2.own _ _ _ (List.mem_append_left _ (mem_Z e2 hw))
  cases ea
  obtain ⟨u, eu, rd'⟩ := er2.val d _ (List.mem_append_right _ List.mem_cons_self)
  cases eu
  have hm : ∀ b, AO B (Z ρ1 σ) b → AO B (Z ρ1 σ ++ ([(some (.val d), some v)] ++ tz [.v (.int j)] [vi])) b := fun b z => z.elim .inl fun z => .inr (own_app.mpr (.inl z))
  obtain ⟨m1, m2, m3⟩ := mut_slot hl1 e2 hw er2.left ((rus.mono hm).setAt kk (rd'.mono hm))
  refine ⟨a, us, j, kk, rfl, rr.int, hus, by rw [rus.len]; exact e3, ?_⟩
  refine k σ _ ((lk.trans m3).s σ) ?_ m1 fun _ _ => rfl
  have st2 : Stp (Z ρ σ) H (Z (ρ1.set i (some (.own p (xs.set kk d)))) σ) (upd H1 a (.lst (us.set kk v))) := st.trans m2
  refine ⟨fun b o q nb' => st2.keep b o q fun z => nb' (own_app.mpr (.inl z)), fun b t z => own_app.mpr (.inl (st2.own b t z)), st2.trk⟩
end
end Dn

set_option Elab.async false
set_option linter.all false
set_option maxRecDepth 100000
set_option maxHeartbeats 2000000
namespace Dn
open PySem PySem.Spec PyProof.Rows L2 RZ

/-! ### what is walked -/
abbrev TSr := Rho → Option (List D × Rho)
/-- all that was tracked and not owned stands -/
def Stay (ρ : Rho) (σ : St) (H : Hp) : Hp → Prop := fun H' => ∀ b o, H b = some o → ¬ Own (Z ρ σ) b → H' b = some o
def SrcOk (K : PySem.W.Frag) (ρ : Rho) (σ : St) (H : Hp) (B : Addr → Prop) (J : It) (its : List D) : Prop := ∃ Y, Walk J its.length (Stay ρ σ H) Y ∧
  ∀ i H1 x H2, i < its.length → Stay ρ σ H H1 → Y i H1 x H2 → Same H1 H2 ∧ ∃ d, its[i]? = some d ∧ ∀ A' : Addr → Prop, (∀ b, H b ≠ none → A' b → AO B (Z ρ σ) b) → Rep K H2 A' d x
def rdI (K : PySem.W.Frag) (ts : TSr) : TI := fun σ H R => ∃ B ρ its ρ', ρ.length = σ.length ∧ ER K H B (Z ρ σ) ∧ ts ρ = some (its, ρ') ∧
  ∀ J H1, Lk ρ ρ' → Stp (Z ρ σ) H (Z ρ' σ) H1 → ER K H1 B (Z ρ' σ) → SrcOk K ρ' σ H1 B J its → R J H1
def DI (X : Cx) (tg e : Expr) (ts : TSr) : Prop := PI X tg e (rdI X.K ts)
theorem pi_weak {X : Cx} {tg e : Expr} {t t' : TI} (h : PI X tg e t) (w : ∀ σ H R, t' σ H R → t σ H R) : PI X tg e t' := ⟨fun pins s σ H R I q => h.run pins s σ H R I (w σ H R q)⟩
def sNo : TSr := fun _ => none
theorem di_no {X : Cx} {tg e : Expr} : DI X tg e sNo := ⟨fun _ _ _ _ _ _ ⟨_, _, _, _, _, _, h, _⟩ => by cases h⟩
/-- a list or a tuple -/
def iSeq (K : PySem.W.Frag) (tl : TE) : TI := fun σ H R => tl σ H fun x H1 => ∃ a, x = .ref a ∧ ((∃ xs, SqL K H1 a xs ∧ R (Itl K a) H1) ∨ ∃ xs, SqT K H1 a xs ∧ R (Itt K a) H1)
section
variable {X : Cx} {tg l : Expr}
theorem pi_seq {tl : TE} (hl : PE X l tl) : PI X tg l (iSeq X.K tl) := by
  constructor
  intro pins s σ H R I h
  refine thn (hl.run pins s σ H _ I h) fun v s1 ⟨x, H1, I1, r1, a, e, q1⟩ => ?_
  subst e
  obtain rfl : v = Value.ref a := r1
  have fp : ∀ b ∈ [s1.heap.objs.size], FpOk X pins H1 b := fun b hb => by
    obtain rfl := List.mem_singleton.mp hb
    exact I1.fpOk (Nat.le_refl _) (I1.hok.fresh (Nat.le_refl _))
  rcases q1 with ⟨xs, hq, q⟩ | ⟨xs, hq, q⟩
  · obtain ⟨its, rv, p, hz⟩ := I1.list hq
    have k : ∀ {o : Obj} b u, s1.heap.get? b = some u → (s1.heap.push o).get? b = some u := fun b u e => Heap.get?_push_of_some _ e
    exact wpAny_pyIter_list p.isList ⟨_, _, _, _, H1, rfl, I1.kept (t' := s1.toks) k, turn_list a _, ⟨_, Heap.get?_push_size _ rfl, rfl, rfl⟩, fp, q⟩
  · obtain ⟨its, rv, p, hz⟩ := I1.tuple hq
    have k : ∀ {o : Obj} b u, s1.heap.get? b = some u → (s1.heap.push o).get? b = some u := fun b u e => Heap.get?_push_of_some _ e
    exact wpAny_pyIter_tuple (show s1.heap.IsTuple a its.toArray from p) ⟨_, _, _, _, H1, rfl, I1.kept (t' := s1.toks) k, turn_tuple a _, ⟨_, Heap.get?_push_size _ rfl, rfl, rfl⟩, fp, q⟩
end
/-- a value's items -/
def itemsOf : D → Option (List D)
  | .list ds => some ds
  | .tuple ds => some ds
  | _ => none
def sSeq (t : TD) : TSr := fun ρ => match t ρ with
  | some (r, ρ1) => match frz [r] ρ1 with
    | some ([d], ρ2) => match itemsOf d with
      | some ds => some (ds, ρ2)
      | none => none
    | _ => none
  | none => none
section
variable {K : PySem.W.Frag} {H H1 H2 : Hp} {B : Addr → Prop} {ρ : Rho} {σ : St}
theorem stay_rep {d : D} {v : V} (er : ER K H B (Z ρ σ)) (r : Rep K H (AO B (Z ρ σ)) d v) (st : Stay ρ σ H H1) (sm : Same H1 H2) : ∀ A' : Addr → Prop, (∀ b, H b ≠ none → A' b → AO B (Z ρ σ) b) → Rep K H2 A' d v := fun A' hA =>
  r.stp (W := Own (Z ρ σ)) (fun b o q n => sm b o (st b o q n)) (fun b z => ⟨.inr z, er.lst z⟩) hA
theorem stay_seqL {a : Addr} {xs : List V} (er : ER K H B (Z ρ σ)) (hr : LA K H (AO B (Z ρ σ)) a xs) (st : Stay ρ σ H H1) : SqL K H1 a xs := by
  rcases hr with ⟨nA, hr | ⟨o, hr⟩⟩ | hr
  · exact .inl (.inl (st _ _ hr fun z => nA (.inr z)))
  · exact .inl (.inr ⟨o, st _ _ hr fun z => nA (.inr z)⟩)
  · exact LV.sq (H := H1) (.inr hr)
theorem stay_seqT {a : Addr} {xs : List V} (er : ER K H B (Z ρ σ)) (hr : SqT K H a xs) (st : Stay ρ σ H H1) : SqT K H1 a xs := by
  have no : ∀ {o : HO}, H a = some o → (∀ ys, o ≠ .lst ys) → ¬ Own (Z ρ σ) a := fun {o} h n z => by
    obtain ⟨ys, q⟩ := er.lst z
    rw [h] at q; cases q
    exact n _ rfl
  rcases hr with (hr | ⟨o, hr⟩) | hr
  · exact .inl (.inl (st _ _ hr (no hr fun _ z => by cases z)))
  · exact .inl (.inr ⟨o, st _ _ hr (no hr fun _ z => by cases z)⟩)
  · exact .inr hr
theorem src_list {a : Addr} {xs : List V} {ds : List D} (er : ER K H B (Z ρ σ)) (hr : LA K H (AO B (Z ρ σ)) a xs) (rp : RepA K H (AO B (Z ρ σ)) ds xs) : SrcOk K ρ σ H B (Itl K a) ds := by
  refine ⟨YAt xs, ?_, fun i H1 x H2 hi st y => ?_⟩
  · rw [← rp.len]
    exact walk_list.mono (fun H1 st => stay_seqL er hr st) fun _ _ _ _ _ _ y => y
  · obtain ⟨rfl, y⟩ := y
    obtain ⟨d, e, r⟩ := rp.get' y
    exact ⟨.refl _, d, e, stay_rep er r st (.refl _)⟩
theorem src_tup {a : Addr} {xs : List V} {ds : List D} (er : ER K H B (Z ρ σ)) (hr : SqT K H a xs) (rp : RepA K H (AO B (Z ρ σ)) ds xs) : SrcOk K ρ σ H B (Itt K a) ds := by
  refine ⟨YAt xs, ?_, fun i H1 x H2 hi st y => ?_⟩
  · rw [← rp.len]
    exact walk_tup.mono (fun H1 st => stay_seqT er hr st) fun _ _ _ _ _ _ y => y
  · obtain ⟨rfl, y⟩ := y
    obtain ⟨d, e, r⟩ := rp.get' y
    exact ⟨.refl _, d, e, stay_rep er r st (.refl _)⟩
end
section
variable {X : Cx} {tg l e e2 : Expr} {t t2 ta tb : TD} {p pos tpos : Pos}
theorem frz1 {r : R} {ρ ρ' : Rho} {ds : List D} (h : frz [r] ρ = some (ds, ρ')) : ∃ d, ds = [d] := by
  cases r with
  | v d => simp only [frz] at h; cases h; exact ⟨_, rfl⟩
  | o xs => simp only [frz] at h; cases h; exact ⟨_, rfl⟩
  | b i =>
    simp only [frz] at h
    split at h <;> first | (cases h; exact ⟨_, rfl⟩) | cases h
theorem RepA.one {K : PySem.W.Frag} {H : Hp} {A : Addr → Prop} {d : D} {v : V} (h : RepA K H A [d] [v]) : Rep K H A d v := by
  unfold RepA at h
  obtain ⟨x, r, e, h1, _⟩ := h
  cases e
  exact h1
theorem di_seq (h : DE X l t) : DI X tg l (sSeq t) := by
  refine pi_weak (pi_seq h) fun σ H R q => ?_
  obtain ⟨B, ρ, its, ρ', hl, er, e, k⟩ := q
  unfold sSeq at e
  split at e
  · rename_i r ρ1 e1
    split at e
    · rename_i d ρ2 e2
      split at e
      · rename_i ds e3
        cases e
        refine ⟨B, ρ, r, ρ1, hl, er, e1, fun v H1 lk st rr => ?_⟩
        obtain ⟨h1, h2, h3, h4⟩ := frz_ok (lk.len.trans hl) e2 rr
        have rp := h2.one
        have st2 : Stp (Z ρ σ) H (Z ρ' σ) H1 := st.trans (stp_own h4)
        cases d with
        | list ds' =>
          simp only [itemsOf] at e3; cases e3
          unfold Rep at rp
          obtain ⟨a, xs, ea, hr, rp⟩ := rp
          exact ⟨a, ea, .inl ⟨xs, hr.lv.sq, k _ H1 (lk.trans h3) st2 h1 (src_list h1 hr rp)⟩⟩
        | tuple ds' =>
          simp only [itemsOf] at e3; cases e3
          unfold Rep at rp
          obtain ⟨a, xs, ea, hr, rp⟩ := rp
          exact ⟨a, ea, .inr ⟨xs, hr, k _ H1 (lk.trans h3) st2 h1 (src_tup h1 hr rp)⟩⟩
        | none => simp [itemsOf] at e3
        | bool _ => simp [itemsOf] at e3
        | int _ => simp [itemsOf] at e3
        | str _ => simp [itemsOf] at e3
        | dict _ => simp [itemsOf] at e3
      · cases e
    · cases e
  · cases e
/-- range -/
def sRg1 (t : TD) : TSr := fun ρ => match t ρ with
  | some (r, ρ1) => match asI r with
    | some j => if rgOk 0 j then some (rgD 0 j, ρ1) else none
    | none => none
  | none => none
theorem rgD_len (a b : Int) : (rgD a b).length = (b - a).toNat := by unfold rgD; rw [List.length_map, List.length_range]
theorem rgD_get {a b : Int} {i : Nat} (h : i < (b - a).toNat) : (rgD a b)[i]? = some (.int (a + (i : Nat))) := by
  unfold rgD
  rw [List.getElem?_map, List.getElem?_range h]; rfl
theorem src_rg {K : PySem.W.Frag} {H : Hp} {B : Addr → Prop} {ρ : Rho} {σ : St} (a b : Int) : SrcOk K ρ σ H B (Itr a (b - a).toNat) (rgD a b) := by
  refine ⟨YFn fun i => .int (a + i), ?_, fun i H1 x H2 hi st y => ?_⟩
  · rw [rgD_len]
    exact walk_range.mono (fun _ _ => trivial) fun _ _ _ _ _ _ y => y
  · obtain ⟨rfl, rfl⟩ := y
    rw [rgD_len] at hi
    exact ⟨.refl _, _, rgD_get hi, fun _ _ => rep_int⟩
theorem di_rg1 (hg : Gl X "range") (hm : X.mg "range" = none) (h : DE X e t) (hs : starEach [e] X.env = [(false, eval e X.env)]) : DI X tg (.Call (.Name "range" p) [e] [] pos) (sRg1 t) := by
  refine pi_weak (pi_range1 hg hm (pa_cons h pa_nil hs) hs) fun σ H R q => ?_
  obtain ⟨B, ρ, its, ρ', hl, er, e, k⟩ := q
  unfold sRg1 at e
  split at e
  · rename_i r ρ1 e1
    split at e
    · rename_i j e2
      obtain rfl := asI_some e2
      split at e
      · rename_i ok
        cases e
        refine ⟨B, ρ, _, ρ', hl, er, e1, fun v H1 lk st rr => ?_⟩
        obtain ⟨o1, o2, o3, o4, o5⟩ := rgOk_ok ok
        refine ⟨j, by rw [rr.int], o3, o4, ?_⟩
        have := k (Itr 0 (j - 0).toNat) H1 lk st rr.er.left (src_rg 0 j)
        simpa using this
      · cases e
    · cases e
  · cases e
def sRg2 (t u : TD) : TSr := fun ρ => match t ρ with
  | some (r, ρ1) => match asI r with
    | some i => match u ρ1 with
      | some (r2, ρ2) => match asI r2 with
        | some j => if rgOk i j then some (rgD i j, ρ2) else none
        | none => none
      | none => none
    | none => none
  | none => none
theorem di_rg2 (hg : Gl X "range") (hm : X.mg "range" = none) (h : DE X e t) (h2 : DE X e2 t2) (hs : starEach [e, e2] X.env = [(false, eval e X.env), (false, eval e2 X.env)]) (hs2 : starEach [e2] X.env = [(false, eval e2 X.env)]) :
    DI X tg (.Call (.Name "range" p) [e, e2] [] pos) (sRg2 t t2) := by
  refine pi_weak (pi_range2 hg hm (pa_cons h (pa_cons h2 pa_nil hs2) (by simp only [hs, hs2])) hs hs2) fun σ H R q => ?_
  obtain ⟨B, ρ, its, ρ', hl, er, e, k⟩ := q
  unfold sRg2 at e
  split at e
  · rename_i r ρ1 e1
    split at e
    · rename_i i ei
      obtain rfl := asI_some ei
      split at e
      · rename_i r2 ρ2 e2
        split at e
        · rename_i j ej
          obtain rfl := asI_some ej
          split at e
          · rename_i ok
            cases e
            refine ⟨B, ρ, _, ρ1, hl, er, e1, fun v H1 lk st rr => ⟨B, ρ1, _, ρ', lk.len.trans hl, rr.er.left, e2, fun u H2 lk2 st2 rr2 => ?_⟩⟩
            obtain ⟨o1, o2, o3, o4, o5⟩ := rgOk_ok ok
            refine ⟨i, j, by rw [rr.int, rr2.int], ⟨o1, o2, o3, o4⟩, ?_⟩
            exact k _ H2 (lk.trans lk2) (st.trans st2) rr2.er.left (src_rg i j)
          · cases e
        · cases e
      · cases e
    · cases e
  · cases e
/-- zip of two lists, or of two tuples -/
def zipD : List D → List D → List D
  | a :: as, b :: bs => .tuple [a, b] :: zipD as bs
  | _, _ => []
theorem zipD_len : ∀ as bs : List D, (zipD as bs).length = min as.length bs.length
  | [], _ => by simp [zipD]
  | _ :: _, [] => by simp [zipD]
  | a :: as, b :: bs => by simp [zipD, zipD_len as bs]
theorem zipD_get : ∀ {as bs : List D} {i : Nat} {a b : D}, as[i]? = some a → bs[i]? = some b → (zipD as bs)[i]? = some (.tuple [a, b])
  | [], _, _, _, _, h, _ => by simp at h
  | _ :: _, [], _, _, _, _, h => by simp at h
  | x :: as, y :: bs, 0, a, b, h1, h2 => by simp at h1 h2; subst h1 h2; simp [zipD]
  | x :: as, y :: bs, i + 1, a, b, h1, h2 => by simpa [zipD] using zipD_get (as := as) (bs := bs) (i := i) (by simpa using h1) (by simpa using h2)
def sZip (t u : TD) : TSr := fun ρ => match t ρ with
  | some (r, ρ1) => match u ρ1 with
    | some (r2, ρ2) => match frz [r, r2] ρ2 with
      | some ([.list as, .list bs], ρ3) => some (zipD as bs, ρ3)
      | some ([.tuple as, .tuple bs], ρ3) => some (zipD as bs, ρ3)
      | _ => none
    | none => none
  | none => none
theorem src_pair {K : PySem.W.Frag} {H : Hp} {B : Addr → Prop} {ρ : Rho} {σ : St} {as bs : List D} {xs ys : List V} {J : It} (er : ER K H B (Z ρ σ)) (rx : RepA K H (AO B (Z ρ σ)) as xs) (ry : RepA K H (AO B (Z ρ σ)) bs ys)
    (w : Walk J (min xs.length ys.length) (Stay ρ σ H) (YPair (fun i => xs[i]?) fun i => ys[i]?)) : SrcOk K ρ σ H B J (zipD as bs) := by
  refine ⟨YPair (fun i => xs[i]?) (fun i => ys[i]?), by rw [zipD_len, ← rx.len, ← ry.len]; exact w, fun i H1 x H2 hi st y => ?_⟩
  obtain ⟨T, x1, y1, rfl, nT, rfl, f1, f2⟩ := y
  obtain ⟨a, ea, ra⟩ := rx.get' f1
  obtain ⟨b, eb, rb⟩ := ry.get' f2
  have sm := upd_same_of (o := .tup [x1, y1]) nT
  exact ⟨sm, _, zipD_get ea eb, fun A' hA => rep_tup nT (.cons (stay_rep er ra st (.refl _) A' hA) (.cons (stay_rep er rb st (.refl _) A' hA) .nil))⟩
theorem walk_zipT {K : PySem.W.Frag} {a b : Addr} {xs ys : List V} : Walk (ItzT K a b) (min xs.length ys.length) (fun H => SqT K H a xs ∧ SqT K H b ys) (YPair (fun i => xs[i]?) (fun i => ys[i]?)) := by
  refine ⟨fun i H hi q => ?_, fun H q => ⟨xs, ys, q.1, q.2, by omega⟩, fun i H v H' _ q y => ?_⟩
  · exact ⟨xs, ys, xs[i]'(by omega), ys[i]'(by omega), q.1, q.2, by simp, by simp⟩
  · obtain ⟨T, x, z, h1, h2, h3, h4, h5⟩ := y
    exact ⟨T, x, z, h1, h2, h3, h4 xs q.1, h5 ys q.2⟩
theorem RepA.two {K : PySem.W.Frag} {H : Hp} {A : Addr → Prop} {d d2 : D} {v v2 : V} (h : RepA K H A [d, d2] [v, v2]) : Rep K H A d v ∧ Rep K H A d2 v2 := by
  unfold RepA at h
  obtain ⟨x, r, e, h1, h2⟩ := h
  cases e
  exact ⟨h1, h2.one⟩
theorem di_zip {elts : List Expr} {kk : Nat} (hg : Gl X "zip") (hm : X.mg "zip" = none) (h : DE X e t) (h2 : DE X e2 t2) (hs : starEach [e, e2] X.env = (false, eval e X.env) :: starEach [e2] X.env) (hs2 : starEach [e2] X.env = (false, eval e2 X.env) :: starEach [] X.env)
    (hpl : (backTo pos (starEach [e2] X.env)).any (·.1) = false) : DI X (.Tuple elts kk tpos) (.Call (.Name "zip" p) [e, e2] [] pos) (sZip t t2) := by
  have pa : DA X [e, e2] (dCons t (dCons t2 dNil)) := da_cons h (da_cons h2 da_nil hs2) hs
  refine pi_weak (pi_zipA hg hm pa hs hpl) fun σ H R q => ?_
  obtain ⟨B, ρ, its, ρ', hl, er, e, k⟩ := q
  unfold sZip at e
  split at e
  · rename_i r ρ1 e1
    split at e
    · rename_i r2 ρ2 e2
      have hts : dCons t (dCons t2 dNil) ρ = some ([r, r2], ρ2) := by simp [dCons, dNil, e1, e2]
      split at e
      · rename_i as bs ρ3 e3
        cases e
        refine ⟨B, ρ, _, ρ2, hl, er, hts, fun vs H1 lk st rr => ?_⟩
        obtain ⟨v, u, rfl⟩ : ∃ v u, vs = [v, u] := by
          have := rr.len
          match vs, this with
          | [v, u], _ => exact ⟨v, u, rfl⟩
        obtain ⟨h1, h2, h3, h4⟩ := frz_ok (lk.len.trans hl) e3 rr
        obtain ⟨q1, q2⟩ := h2.two
        unfold Rep at q1 q2
        obtain ⟨a, xs, rfl, ha, ra⟩ := q1
        obtain ⟨b, ys, rfl, hb, rb⟩ := q2
        refine ⟨a, b, xs, ys, rfl, .inl ⟨ha.lv.sq, hb.lv.sq, k _ H1 (lk.trans h3) (st.trans (stp_own h4)) h1 (src_pair h1 ra rb ?_)⟩⟩
        exact (walk_zip rfl).mono (fun H2 st2 => ⟨stay_seqL h1 ha st2, stay_seqL h1 hb st2⟩) fun _ _ _ _ _ _ y => y
      · rename_i as bs ρ3 e3
        cases e
        refine ⟨B, ρ, _, ρ2, hl, er, hts, fun vs H1 lk st rr => ?_⟩
        obtain ⟨v, u, rfl⟩ : ∃ v u, vs = [v, u] := by
          have := rr.len
          match vs, this with
          | [v, u], _ => exact ⟨v, u, rfl⟩
        obtain ⟨h1, h2, h3, h4⟩ := frz_ok (lk.len.trans hl) e3 rr
        obtain ⟨q1, q2⟩ := h2.two
        unfold Rep at q1 q2
        obtain ⟨a, xs, rfl, ha, ra⟩ := q1
        obtain ⟨b, ys, rfl, hb, rb⟩ := q2
        refine ⟨a, b, xs, ys, rfl, .inr ⟨ha, hb, k _ H1 (lk.trans h3) (st.trans (stp_own h4)) h1 (src_pair h1 ra rb ?_)⟩⟩
        exact walk_zipT.mono (fun H2 st2 => ⟨stay_seqT h1 ha st2, stay_seqT h1 hb st2⟩) fun _ _ _ _ _ _ y => y
      · cases e
    · cases e
  · cases e
/-- enumerate of a list -/
def enumD : Nat → List D → List D
  | _, [] => []
  | n, a :: as => .tuple [.int (n : Nat), a] :: enumD (n + 1) as
theorem enumD_len : ∀ (n : Nat) (as : List D), (enumD n as).length = as.length
  | _, [] => rfl
  | n, a :: as => by simp [enumD, enumD_len (n + 1) as]
theorem enumD_get : ∀ {as : List D} {n i : Nat} {a : D}, as[i]? = some a → (enumD n as)[i]? = some (.tuple [.int ((n + i : Nat) : Int), a])
  | [], _, _, _, h => by simp at h
  | x :: as, n, 0, a, h => by simp at h; subst h; simp [enumD]
  | x :: as, n, i + 1, a, h => by
    have := enumD_get (as := as) (n := n + 1) (i := i) (by simpa using h)
    rw [show n + 1 + i = n + (i + 1) by omega] at this
    simpa [enumD] using this
def sEnum (t : TD) : TSr := fun ρ => match t ρ with
  | some (r, ρ1) => match frz [r] ρ1 with
    | some ([.list as], ρ2) => some (enumD 0 as, ρ2)
    | _ => none
  | none => none
theorem di_enum {elts : List Expr} {kk : Nat} (hg : Gl X "enumerate") (hm : X.mg "enumerate" = none) (h : DE X e t) (hs : starEach [e] X.env = [(false, eval e X.env)]) : DI X (.Tuple elts kk tpos) (.Call (.Name "enumerate" p) [e] [] pos) (sEnum t) := by
  refine pi_weak (pi_enum hg hm (pa_cons h pa_nil hs) hs) fun σ H R q => ?_
  obtain ⟨B, ρ, its, ρ', hl, er, e, k⟩ := q
  unfold sEnum at e
  split at e
  · rename_i r ρ1 e1
    split at e
    · rename_i as ρ2 e2
      cases e
      refine ⟨B, ρ, r, ρ1, hl, er, e1, fun v H1 lk st rr => ?_⟩
      obtain ⟨h1, h2, h3, h4⟩ := frz_ok (lk.len.trans hl) e2 rr
      have rp := h2.one
      unfold Rep at rp
      obtain ⟨a, xs, rfl, ha, ra⟩ := rp
      refine ⟨a, xs, rfl, ha.lv.sq, k _ H1 (lk.trans h3) (st.trans (stp_own h4)) h1 ?_⟩
      refine ⟨YPair (fun i => some (.int (i : Nat))) (fun i => xs[i]?), ?_, fun i H2 x H3 hi st2 y => ?_⟩
      · rw [enumD_len, ← ra.len]
        exact walk_enum.mono (fun H2 st2 => stay_seqL h1 ha st2) fun _ _ _ _ _ _ y => y
      · obtain ⟨T, x1, y1, rfl, nT, rfl, f1, f2⟩ := y
        cases f1
        obtain ⟨b, eb, rb⟩ := ra.get' f2
        refine ⟨upd_same_of nT, _, enumD_get eb, fun A' hA => rep_tup nT (.cons ?_ (.cons (stay_rep h1 rb st2 (.refl _) A' hA) .nil))⟩
        rw [Nat.zero_add]
        exact rep_int
    · cases e
  · cases e
end

/-! ### comprehensions -/
def wipeR (ρ : Rho) : List Nat → Rho
  | [] => ρ
  | v :: vs => (wipeR ρ vs).set v none
theorem wipeR_len (ρ : Rho) : ∀ vs, (wipeR ρ vs).length = ρ.length
  | [] => rfl
  | v :: vs => by unfold wipeR; rw [List.length_set, wipeR_len ρ vs]
theorem wipeR_off (ρ : Rho) : ∀ {vs : List Nat} {j : Nat}, j ∉ vs → (wipeR ρ vs)[j]? = ρ[j]?
  | [], _, _ => rfl
  | v :: vs, j, h => by
    simp only [List.mem_cons, not_or] at h
    unfold wipeR
    rw [List.getElem?_set_ne (Ne.symm h.1)]
    exact wipeR_off ρ h.2
theorem wipeR_in (ρ : Rho) : ∀ {vs : List Nat} {j : Nat} {s : Slot}, j ∈ vs → (wipeR ρ vs)[j]? ≠ some (some s)
  | v :: vs, j, s, h => by
    unfold wipeR
    by_cases e : v = j
    · subst e
      by_cases hl : v < (wipeR ρ vs).length
      · rw [List.getElem?_set_self hl]; simp
      · rw [List.getElem?_eq_none (by rw [List.length_set]; omega)]; simp
    · rw [List.getElem?_set_ne e]
      exact wipeR_in ρ ((List.mem_cons.mp h).resolve_left (Ne.symm e))
theorem wipe_off (σ : St) : ∀ {vs : List Nat} {j : Nat}, j ∉ vs → (wipe σ vs)[j]? = σ[j]?
  | [], _, _ => rfl
  | v :: vs, j, h => by
    simp only [List.mem_cons, not_or] at h
    unfold wipe
    rw [List.getElem?_set_ne (Ne.symm h.1)]
    exact wipe_off σ h.2
theorem wipe_in (σ : St) : ∀ {vs : List Nat} {j : Nat}, j ∈ vs → j < σ.length → (wipe σ vs)[j]? = some none
  | v :: vs, j, h, hj => by
    unfold wipe
    by_cases e : v = j
    · subst e
      rw [List.getElem?_set_self (by rw [wipe_length]; exact hj)]
    · rw [List.getElem?_set_ne e]
      exact wipe_in σ ((List.mem_cons.mp h).resolve_left (Ne.symm e)) hj
theorem wipe_eq {a b : St} {vs : List Nat} (hl : a.length = b.length) (h : ∀ j, j ∉ vs → a[j]? = b[j]?) : wipe a vs = wipe b vs := by
  apply List.ext_getElem?
  intro j
  by_cases hj : j ∈ vs
  · by_cases hb : j < b.length
    · rw [wipe_in a hj (by omega), wipe_in b hj hb]
    · rw [List.getElem?_eq_none (by rw [wipe_length]; omega), List.getElem?_eq_none (by rw [wipe_length]; omega)]
  · rw [wipe_off a hj, wipe_off b hj, h j hj]
/-- entries may be blanked -/
theorem er_entries {K : PySem.W.Frag} {H : Hp} {B : Addr → Prop} : ∀ {E F T : Ent}, E.length = F.length → (∀ (i : Nat) (p : Option Slot × Option V), F[i]? = some p → p.1 = none ∨ E[i]? = some p) → ER K H B (E ++ T) → ER K H B (F ++ T) ∧ ∀ a, Own (F ++ T) a → Own (E ++ T) a
  | [], [], _, _, _, h => ⟨h, fun _ z => z⟩
  | e :: E, f :: F, T, hl, hi, h => by
    have hl' : E.length = F.length := by simpa using hl
    have h0 := hi 0 f rfl
    have step : ∀ (B' : Addr → Prop), ER K H B' (E ++ T) → ER K H B' (F ++ T) ∧ ∀ a, Own (F ++ T) a → Own (E ++ T) a := fun B' h' => er_entries hl' (fun i p e => by simpa using hi (i + 1) p (by simpa using e)) h'
    rcases h0 with h0 | h0
    · obtain ⟨q1, q2⟩ := step B (h.sub (List.sublist_cons_self _ _))
      obtain ⟨f1, f2⟩ := f
      simp only at h0
      subst h0
      refine ⟨q1.blank, fun a z => ?_⟩
      rcases own_cons.mp z with ⟨_, _, z⟩ | z
      · cases z
      · exact own_cons.mpr (.inr (q2 a z))
    · have h0 : e = f := by simpa using h0
      subst h0
      have hp : ER K H B ((E ++ T) ++ [e]) := h.perm (List.perm_append_comm (l₁ := [e]))
      obtain ⟨q1, q2⟩ := step (AO B [e]) hp.aside
      have back := hp.back (E' := F ++ T) (F := []) (stp_own q2) (by simpa using q1) (fun a z => absurd z own_nil)
      rw [List.append_nil] at back
      refine ⟨back.perm (List.perm_append_comm (l₂ := [e])), fun a z => ?_⟩
      rcases own_cons.mp z with z | z
      · exact own_cons.mpr (.inl z)
      · exact own_cons.mpr (.inr (q2 a z))
section
variable {K : PySem.W.Frag} {H : Hp} {B : Addr → Prop} {ρ : Rho} {σ : St} {vs : List Nat} {T : Ent}
theorem Z_len (hl : ρ.length = σ.length) : (Z ρ σ).length = σ.length := by simp [Z, List.length_zip, hl]
theorem Z_get {i : Nat} {p : Option Slot × Option V} : (Z ρ σ)[i]? = some p ↔ ρ[i]? = some p.1 ∧ σ[i]? = some p.2 := by
  obtain ⟨a, b⟩ := p
  simp [Z, List.getElem?_zip_eq_some]
theorem wipe_er (hl : ρ.length = σ.length) (er : ER K H B (Z ρ σ ++ T)) : ER K H B (Z (wipeR ρ vs) (wipe σ vs) ++ T) ∧ ∀ a, Own (Z (wipeR ρ vs) (wipe σ vs) ++ T) a → Own (Z ρ σ ++ T) a := by
  refine er_entries (by rw [Z_len hl, Z_len (by rw [wipeR_len, wipe_length, hl]), wipe_length]) (fun i p e => ?_) er
  obtain ⟨e1, e2⟩ := Z_get.mp e
  by_cases hi : i ∈ vs
  · left
    cases h : p.1 with
    | none => rfl
    | some s => rw [h] at e1; exact absurd e1 (wipeR_in ρ hi)
  · right
    rw [wipeR_off ρ hi] at e1
    rw [wipe_off σ hi] at e2
    exact Z_get.mpr ⟨e1, e2⟩
theorem unwipe_er (hl : ρ.length = σ.length) (hw : ∀ j s, j ∈ vs → ρ[j]? ≠ some (some s)) (er : ER K H B (Z ρ (wipe σ vs) ++ T)) : ER K H B (Z ρ σ ++ T) ∧ ∀ a, Own (Z ρ σ ++ T) a → Own (Z ρ (wipe σ vs) ++ T) a := by
  refine er_entries (by rw [Z_len hl, Z_len (by rw [wipe_length, hl]), wipe_length]) (fun i p e => ?_) er
  obtain ⟨e1, e2⟩ := Z_get.mp e
  by_cases hi : i ∈ vs
  · left
    cases h : p.1 with
    | none => rfl
    | some s => rw [h] at e1; exact absurd e1 (hw i s hi)
  · right
    rw [← wipe_off σ hi] at e2
    exact Z_get.mpr ⟨e1, e2⟩
end
def loopC (vs : List Nat) (tgt : TGD) (cond : TB) (elt : TD) : List D → Rho → List D → Option (List D × Rho)
  | [], ρ, acc => some (acc, ρ)
  | d :: ds, ρ, acc => match tgt (.v d) ρ with
    | some ρ1 => match cond ρ1 with
      | some (true, ρ2) => match elt ρ2 with
        | some (r, ρ3) => match frz [r] ρ3 with
          | some ([y], ρ4) => if acc.length < 1000000 then loopC vs tgt cond elt ds (wipeR ρ4 vs) (acc ++ [y]) else none
          | _ => none
        | none => none
      | some (false, ρ2) => loopC vs tgt cond elt ds (wipeR ρ2 vs) acc
      | none => none
    | none => none
def noPins (ρ : Rho) (vs : List Nat) : Bool := vs.all fun j => !isPin ρ[j]?
def dComp (vs : List Nat) (src : TSr) (tgt : TGD) (cond : TB) (elt : TD) : TD := fun ρ => match src ρ with
  | some (its, ρ1) => if noPins ρ1 vs then match loopC vs tgt cond elt its (wipeR ρ1 vs) [] with
      | some (ys, ρ2) => some (.o ys, ρ2)
      | none => none
    else none
  | none => none
theorem lk_wipe {ρ : Rho} {vs : List Nat} (h : noPins ρ vs = true) : Lk ρ (wipeR ρ vs) := by
  refine ⟨wipeR_len ρ vs, fun i xs e => ⟨xs, ?_⟩⟩
  rw [wipeR_off ρ fun hi => ?_]
  · exact e
  · have := List.all_eq_true.mp h i hi
    rw [e] at this
    simp [isPin] at this
/-- a wiped environment behind a turn -/
theorem lk_rewipe {ρ ρ' : Rho} {vs : List Nat} (h : Lk ρ ρ') (hw : ∀ j s, j ∈ vs → ρ[j]? ≠ some (some s)) : Lk ρ (wipeR ρ' vs) := by
  refine ⟨(wipeR_len _ _).trans h.len, fun i xs e => ?_⟩
  obtain ⟨ys, e2⟩ := h.pin i xs e
  have hi : i ∉ vs := fun hi => hw i _ hi e
  exact ⟨ys, by rw [wipeR_off ρ' hi]; exact e2⟩
theorem LkS.lk {ρ ρ' : Rho} {σ σ' : St} (h : LkS ρ ρ' σ σ') : Lk ρ ρ' := ⟨h.len, fun i xs e => (h.pin i xs e).1⟩
theorem er_same {K : PySem.W.Frag} {H H' : Hp} {B : Addr → Prop} {E : Ent} (er : ER K H B E) (sm : Same H H') : ER K H' B E := by
  have st : Stp E H E H' := .same sm
  refine ⟨fun d v m => ?_, fun p xs v m => ?_, er.nd, fun b z => st.trk b (er.trk b z)⟩
  · obtain ⟨u, e, q⟩ := er.val d v m
    exact ⟨u, e, q.step er st⟩
  · obtain ⟨a, vs, e, hl, q, nb⟩ := er.own p xs v m
    exact ⟨a, vs, e, sm _ _ hl, q.step er st, nb⟩
theorem comp_read {K : PySem.W.Frag} {vs js : List Nat} {src : TSr} {tgt : TGD} {cond : TB} {elt : TD} {σ : St} {H : Hp} {Q : VK} (hjs : ∀ j ∈ js, j ∈ vs) (q : rd K (dComp vs src tgt cond elt) σ H Q) :
    tLc (rdI K src) (rdG K js tgt) (rdT K cond) (rd K elt) vs σ H Q := by
  obtain ⟨B, ρ, r, ρ2, hl, er, e, k⟩ := q
  unfold dComp at e
  split at e
  · rename_i its ρ1 e1
    split at e
    · rename_i hp
      split at e
      · rename_i ys ρ2' e2
        cases e
        refine ⟨B, ρ, its, ρ1, hl, er, e1, fun J H1 lk st er1 sok => ?_⟩
        intro Dd hD
        obtain ⟨Y, w, hY⟩ := sok
        have hl1 : ρ1.length = σ.length := lk.len.trans hl
        have hlw : (wipeR ρ1 vs).length = (wipe σ vs).length := by rw [wipeR_len, wipe_length, hl1]
        obtain ⟨erw, oww⟩ := wipe_er (vs := vs) (T := []) hl1 (by simpa using er1)
        simp only [List.append_nil] at erw oww
        have stw : Stp (Z ρ1 σ) H1 (Z (wipeR ρ1 vs) (wipe σ vs)) H1 := stp_own oww
        -- the invariant
        let Pv : Nat → Hp → Prop := fun i Hi => ∃ ρi acc, ρi.length = (wipe σ vs).length ∧ (∀ j s, j ∈ vs → ρi[j]? ≠ some (some s)) ∧ Lk (wipeR ρ1 vs) ρi ∧ Stp (Z (wipeR ρ1 vs) (wipe σ vs)) H1 (Z ρi (wipe σ vs)) Hi ∧
          ER K Hi B (Z ρi (wipe σ vs) ++ [(some (.own false acc), some (.ref Dd))]) ∧ loopC vs tgt cond elt (its.drop i) ρi acc = some (ys, ρ2)
        refine lc_it w Pv ?_ (fun i Hi _ hP b o hb nb => ?_) (fun i x Hi Hi' hi hP hy => ?_) (fun Hn hP => ?_)
        · -- the start
          have rn : RN K H1 (upd H1 Dd (.lst [])) (AO B (Z (wipeR ρ1 vs) (wipe σ vs))) (.o []) (.ref Dd) := rn_lst hD .nil
          have rss := RN.rss (H0 := H1) erw (upd_same_of hD) (fun _ h => h) rn
          exact ⟨wipeR ρ1 vs, [], hlw, fun j s hj => wipeR_in ρ1 hj, .refl _, .same (upd_same_of hD), rss.er, e2⟩
        · obtain ⟨ρi, acc, _, _, _, sti, _⟩ := hP
          exact sti.keep b o hb fun z => nb (oww b z)
        · obtain ⟨ρi, acc, hli, hwi, lki, sti, eri, ei⟩ := hP
          have hstay : Stay ρ1 σ H1 Hi := fun b o hb nb => sti.keep b o hb fun z => nb (oww b z)
          obtain ⟨sm, d, hd, hrep⟩ := hY i Hi x Hi' hi hstay hy
          have hdrop : its.drop i = d :: its.drop (i + 1) := by
            have := List.drop_eq_getElem_cons hi
            rw [this]
            congr 1
            have h2 := List.getElem?_eq_getElem hi
            rw [hd] at h2
            exact (Option.some.inj h2).symm
          rw [hdrop] at ei
          unfold loopC at ei
          split at ei
          · rename_i ρa ea
            -- the target
            have eri' := er_same eri sm
            have hmA : ∀ b, H1 b ≠ none → AO (AO B [(some (.own false acc), some (.ref Dd))]) (Z ρi (wipe σ vs)) b → AO B (Z ρ1 σ) b := fun b t z => by
              rcases z with (z | z) | z
              · exact .inl z
              · rcases own_cons.mp z with ⟨_, _, z⟩ | z
                · cases z; exact absurd hD t
                · exact (own_nil z).elim
              · exact .inr (oww b (sti.own b t z))
            have erD := eri'.aside
            have erT := (erD.dup (hrep _ hmA)).perm (List.perm_append_comm (l₁ := [(some (Slot.val d), some x)]))
            refine ⟨AO B [(some (.own false acc), some (.ref Dd))], ρi, .v d, ρa, hli, erT, rfl, ea, fun σ2 H2 lk2 st2 er2 off2 => ?_⟩
            have hl2 : ρa.length = σ2.length := by rw [lk2.len, hli, lk2.slen]
            have hwe : wipe σ2 vs = wipe σ vs := wipe_eq (lk2.slen.trans (wipe_length _ _)) fun j hj => by
              rw [off2 j fun h => hj (hjs j h), wipe_off σ hj]
            refine ⟨hwe, ?_⟩
            -- from the turn's start, without the item
            have st2' : Stp (Z ρi (wipe σ vs)) Hi' (Z ρa σ2) H2 := ⟨fun b o q n => st2.keep b o q fun z => (own_app.mp z).elim n fun z => own_nil (own_valcons z), fun b t z => (own_app.mp (st2.own b t z)).elim id fun z => (own_nil (own_valcons z)).elim, st2.trk⟩
            have turn : ∀ {ρz : Rho} {Hz : Hp} {acc' : List D} {us' : List V}, Lk ρa ρz → Stp (Z ρa σ2) H2 (Z ρz σ2) Hz → ER K Hz (AO B [(some (.own false acc), some (.ref Dd))]) (Z ρz σ2) →
                (∀ us, Hz Dd = some (.lst us) → RepA K Hz (AO (AO B [(some (.own false acc), some (.ref Dd))]) (Z ρz σ2)) acc us → Hz Dd = some (.lst us) ∧
                  ∀ us' acc', RepA K Hz (AO (AO B [(some (.own false acc), some (.ref Dd))]) (Z ρz σ2)) acc' us' →
                    loopC vs tgt cond elt (its.drop (i + 1)) (wipeR ρz vs) acc' = some (ys, ρ2) → True) → True := fun _ _ _ _ => trivial
            have core : ∀ {ρz : Rho} {Hz : Hp}, Lk ρa ρz → Stp (Z ρa σ2) H2 (Z ρz σ2) Hz → ER K Hz (AO B [(some (.own false acc), some (.ref Dd))]) (Z ρz σ2) →
                ER K Hz B ((some (.own false acc), some (.ref Dd)) :: Z ρz σ2) ∧ Stp (Z (wipeR ρ1 vs) (wipe σ vs)) H1 (Z ρz σ2) Hz := fun {ρz Hz} lkz stz erz => by
              have stt := st2'.trans stz
              have b1 := eri'.back (F := []) stt (by simpa using erz) (fun a z => absurd z own_nil)
              rw [List.append_nil] at b1
              exact ⟨b1.perm (List.perm_append_comm (l₂ := [(some (Slot.own false acc), some (V.ref Dd))])), (sti.trans (.same sm)).trans stt⟩
            have nxt : ∀ {ρz : Rho} {Hz : Hp} {acc' : List D}, Lk ρa ρz → ER K Hz B ((some (.own false acc'), some (.ref Dd)) :: Z ρz σ2) → Stp (Z (wipeR ρ1 vs) (wipe σ vs)) H1 (Z ρz σ2) Hz →
                loopC vs tgt cond elt (its.drop (i + 1)) (wipeR ρz vs) acc' = some (ys, ρ2) → Pv (i + 1) Hz := fun {ρz Hz acc'} lkz erz stz ez => by
              have hlz : ρz.length = σ2.length := lkz.len.trans hl2
              have erz' : ER K Hz B (Z ρz σ2 ++ [(some (.own false acc'), some (.ref Dd))]) := erz.perm (List.perm_append_comm (l₁ := [(some (Slot.own false acc'), some (V.ref Dd))]))
              obtain ⟨g1, g2⟩ := wipe_er (vs := vs) hlz erz'
              have g3 : ∀ a, Own (Z (wipeR ρz vs) (wipe σ2 vs)) a → Own (Z ρz σ2) a := (wipe_er (vs := vs) (T := []) hlz (by simpa using erz'.left)).2 |> fun h a z => by
                have := h a (by simpa using z)
                simpa using this
              rw [hwe] at g1 g3
              refine ⟨wipeR ρz vs, acc', by rw [wipeR_len, hlz, lk2.slen], fun j s hj => wipeR_in ρz hj, ?_, stz.trans (stp_own g3), g1, ez⟩
              exact lk_rewipe ((lki.trans lk2.lk).trans lkz) fun j s hj => wipeR_in ρ1 hj
            split at ei
            · rename_i ρb eb
              split at ei
              · rename_i re ρc ec
                split at ei
                · rename_i y ρd ed
                  split at ei
                  · rename_i hacc
                    refine ⟨_, ρa, true, ρb, hl2, er2, eb, fun H3 lk3 st3 er3 => ?_⟩
                    refine iteT ?_
                    refine ⟨_, ρb, re, ρc, lk3.len.trans hl2, er3, ec, fun yv H4 lk4 st4 rr4 => ?_⟩
                    obtain ⟨f1, f2, f3, f4⟩ := frz_ok ((lk4.len.trans lk3.len).trans hl2) ed rr4
                    have lkz := (lk3.trans lk4).trans f3
                    have stz := (st3.trans st4).trans (stp_own f4)
                    obtain ⟨c1, c2⟩ := core lkz stz f1
                    obtain ⟨a0, us, ea0, hus, rus, nb0⟩ := c1.own false acc _ List.mem_cons_self
                    cases ea0
                    have hyr : Rep K H4 (AO B ((some (.own false acc), some (.ref Dd)) :: Z ρd σ2)) y yv := f2.one.mono fun b z => by
                      rcases z with z | z
                      · exact .inl (.inl z)
                      · rcases own_cons.mp z with z | z
                        · exact .inl (.inr (own_cons.mpr (.inl z)))
                        · exact .inr z
                    refine ⟨us, hus, by rw [rus.len]; exact Nat.lt_of_lt_of_le hacc (by decide), ?_⟩
                    have m1 := er_mut c1 (rus.app (.cons hyr .nil))
                    have hDn : ¬ Own (Z ρd σ2) Dd := fun z => f1.notB z (.inr (own_cons.mpr (.inl ⟨false, acc, rfl⟩)))
                    refine nxt lkz m1 ⟨fun b o hb nb => ?_, fun b t z => c2.own b t z, fun b t => ?_⟩ ei
                    · rw [upd_ne (fun z => by subst z; rw [hD] at hb; cases hb)]
                      exact c2.keep b o hb nb
                    · rw [upd_ne (fun z => t (by subst z; exact hD))]
                      exact c2.trk b t
                  · cases ei
                · cases ei
              · cases ei
            · rename_i ρb eb
              refine ⟨_, ρa, false, ρb, hl2, er2, eb, fun H3 lk3 st3 er3 => ?_⟩
              refine iteF ?_
              obtain ⟨c1, c2⟩ := core lk3 st3 er3
              exact nxt lk3 c1 c2 ei
            · cases ei
          · cases ei
        · obtain ⟨ρi, acc, hli, hwi, lki, sti, eri, ei⟩ := hP
          have : its.drop its.length = [] := List.drop_length
          rw [this] at ei
          unfold loopC at ei
          cases ei
          have hl2 : ρ2.length = σ.length := by rw [hli, wipe_length]
          obtain ⟨g1, g2⟩ := unwipe_er hl2 hwi eri
          have g3 : ∀ a, Own (Z ρ2 σ) a → Own (Z ρ2 (wipe σ vs)) a := (unwipe_er (T := []) hl2 hwi (by simpa using eri.left)).2 |> fun h a z => by
            have := h a (by simpa using z)
            simpa using this
          have stE := ((st.trans stw).trans sti).trans (stp_own (H := Hn) g3)
          have hD0 : H Dd = none := by
            cases q : H Dd with
            | none => rfl
            | some o => exact absurd hD (st.trk Dd (by rw [q]; simp))
          refine k (.ref Dd) Hn ((lk.trans (lk_wipe hp)).trans lki) stE ⟨rfl, g1, fun a z => ?_, fun m j z => ?_⟩
          · rcases own_cons.mp z with ⟨_, _, z⟩ | z
            · cases z; exact hD0
            · exact (own_nil z).elim
          · cases m with
            | zero => simp at z
            | succ m => simp at z
      · cases e
    · cases e
  · cases e
end Dn

set_option Elab.async false
set_option linter.all false
set_option maxRecDepth 100000
set_option maxHeartbeats 2000000
namespace Dn
open PySem PySem.Spec PyProof.Rows L2 RZ

theorem de_comp {X : Cx} {elt tg iter : Expr} {ifs : List Expr} {scope : Scope} {own : List (Str × Nat)} {pos : Pos} {js : List Nat} {src : TSr} {tgt : TGD} {cond : TB} {te : TD} (hc : X.calm = true) (hN : X.N.Nodup) (hi : DI X tg iter src) (ok : BlkOk X.N X.env.scope scope own)
    (hg : ∀ (s : Shared) (H : Hp) (C : Addr) (cl : List (Str × Addr)) (fp : List Addr), DG (X.blk s H scope (compEnvC scope cl C X.env) fp) tg js tgt)
    (ht : ∀ (s : Shared) (H : Hp) (C : Addr) (cl : List (Str × Addr)) (fp : List Addr), PTs (X.blk s H scope (compEnvC scope cl C X.env) fp) ifs (rdT X.K cond))
    (he : ∀ (s : Shared) (H : Hp) (C : Addr) (cl : List (Str × Addr)) (fp : List Addr), DE (X.blk s H scope (compEnvC scope cl C X.env) fp) elt te)
    (hs : ∀ x, foldedSetIterable iter X.env x = pure x) (hjs : ∀ j ∈ js, j ∈ own.map (·.2)) : DE X (.ListComp elt [⟨tg, iter, ifs, 0⟩] scope pos) (dComp (own.map (·.2)) src tgt cond te) :=
  pe_weak (pe_lc (g := rdG X.K js tgt) (tt := rdT X.K cond) (te := rd X.K te) hc hN hi ok (fun s H C cl fp => hg s H C cl fp) ht (fun s H C cl fp => he s H C cl fp) hs) fun _ _ _ q => comp_read hjs q
def bYes : TB := fun ρ => some (true, ρ)
theorem pts_yes {X : Cx} : PTs X [] (rdT X.K bYes) := ⟨fun pins s σ H Q I ⟨B, ρ, b, ρ', hl, er, e, k⟩ => by
  cases e
  exact pts_nil.run pins s σ H Q I (k H (.refl _) .refl er)⟩

/-! ### statements -/
inductive Out where
  | nx (ρ : Rho)
  | rt (r : R) (ρ : Rho)
  | bk (ρ : Rho)
  | ct (ρ : Rho)
abbrev TSD := Rho → Option Out
def post (K : PySem.W.Frag) (D : Ends) (B : Addr → Prop) (ρ : Rho) (σ : St) (H : Hp) : Out → Prop
  | .nx ρ' => ∀ σ' H', LkS ρ ρ' σ σ' → Stp (Z ρ σ) H (Z ρ' σ') H' → ER K H' B (Z ρ' σ') → D.nx σ' H'
  | .rt r ρ' => ∀ v σ' H', ρ'.length = σ'.length → LkS ρ ρ' σ σ' → Stp (Z ρ σ) H (Z ρ' σ') H' → RSs K H H' B ρ' σ' [r] [v] → D.rt v H'
  | .bk ρ' => ∀ σ' H', LkS ρ ρ' σ σ' → Stp (Z ρ σ) H (Z ρ' σ') H' → ER K H' B (Z ρ' σ') → D.bk σ' H'
  | .ct ρ' => ∀ σ' H', LkS ρ ρ' σ σ' → Stp (Z ρ σ) H (Z ρ' σ') H' → ER K H' B (Z ρ' σ') → D.ct σ' H'
def rdS (K : PySem.W.Frag) (t : TSD) : TS := fun D σ H => ∃ B ρ o, ρ.length = σ.length ∧ ER K H B (Z ρ σ) ∧ t ρ = some o ∧ post K D B ρ σ H o
def DS (X : Cx) (s : Stmt) (t : TSD) : Prop := PS X s (rdS X.K t)
def DSs (X : Cx) (s : List Stmt) (t : TSD) : Prop := PSs X s (rdS X.K t)
theorem ps_weak {X : Cx} {s : Stmt} {t t' : TS} (h : PS X s t) (w : ∀ D σ H, t' D σ H → t D σ H) : PS X s t' := ⟨fun pins s σ H D I q => h.run pins s σ H D I (w D σ H q)⟩
theorem pss_weak {X : Cx} {s : List Stmt} {t t' : TS} (h : PSs X s t) (w : ∀ D σ H, t' D σ H → t D σ H) : PSs X s t' := ⟨fun pins s σ H D I q => h.run pins s σ H D I (w D σ H q)⟩
theorem Stp.fr {E E' : Ent} {H H' : Hp} (s : Stp E H E' H') {a : Addr} (h : H' a = none) : H a = none := by
  cases q : H a with
  | none => rfl
  | some o => exact absurd h (s.trk a (by rw [q]; simp))
theorem RSs.from {K : PySem.W.Frag} {H0 H H' : Hp} {B : Addr → Prop} {ρ : Rho} {σ : St} {rs : List R} {vs : List V} (rr : RSs K H H' B ρ σ rs vs) (h : ∀ a, H a = none → H0 a = none) : RSs K H0 H' B ρ σ rs vs :=
  ⟨rr.len, rr.er, fun a z => h a (rr.fr a z), rr.bo⟩
theorem post_go {K : PySem.W.Frag} {D : Ends} {B : Addr → Prop} {ρ ρ1 : Rho} {σ σ1 : St} {H H1 : Hp} {o : Out} (lk : LkS ρ ρ1 σ σ1) (st : Stp (Z ρ σ) H (Z ρ1 σ1) H1) (p : post K D B ρ σ H o) : post K D B ρ1 σ1 H1 o := by
  cases o with
  | nx ρ' => exact fun σ' H' lk2 st2 er => p σ' H' (lk.trans lk2) (st.trans st2) er
  | bk ρ' => exact fun σ' H' lk2 st2 er => p σ' H' (lk.trans lk2) (st.trans st2) er
  | ct ρ' => exact fun σ' H' lk2 st2 er => p σ' H' (lk.trans lk2) (st.trans st2) er
  | rt r ρ' => exact fun v σ' H' hl lk2 st2 rr => p v σ' H' hl (lk.trans lk2) (st.trans st2) (rr.from fun a h => st.fr h)
section
variable {X : Cx} {s : Stmt} {ss : List Stmt} {e : Expr} {pos : Pos} {t : TD} {a b : TSD}
def sNone : TSD := fun _ => none
theorem ds_no : DS X s sNone := ⟨fun _ _ _ _ _ _ ⟨_, _, _, _, _, h, _⟩ => by cases h⟩
theorem dss_no : DSs X ss sNone := ⟨fun _ _ _ _ _ _ ⟨_, _, _, _, _, h, _⟩ => by cases h⟩
def sSkip : TSD := fun ρ => some (.nx ρ)
theorem dss_nil : DSs X [] sSkip := pss_weak pss_nil fun D σ H q => by
  obtain ⟨B, ρ, o, hl, er, e, p⟩ := q
  cases e
  exact p σ H (.refl _ _) .refl er
theorem ds_pass : DS X (.Pass pos) sSkip := ps_weak ps_pass fun D σ H q => by
  obtain ⟨B, ρ, o, hl, er, e, p⟩ := q
  cases e
  exact p σ H (.refl _ _) .refl er
def sBrk : TSD := fun ρ => some (.bk ρ)
def sCnt : TSD := fun ρ => some (.ct ρ)
theorem ds_brk : DS X (.Break pos) sBrk := ps_weak ps_break fun D σ H q => by
  obtain ⟨B, ρ, o, hl, er, e, p⟩ := q
  cases e
  exact p σ H (.refl _ _) .refl er
theorem ds_cnt : DS X (.Continue pos) sCnt := ps_weak ps_continue fun D σ H q => by
  obtain ⟨B, ρ, o, hl, er, e, p⟩ := q
  cases e
  exact p σ H (.refl _ _) .refl er
def sSeq2 (a b : TSD) : TSD := fun ρ => match a ρ with
  | some (.nx ρ1) => b ρ1
  | some (.rt r ρ1) => some (.rt r ρ1)
  | some (.bk ρ1) => some (.bk ρ1)
  | some (.ct ρ1) => some (.ct ρ1)
  | none => none
theorem dss_cons (h : DS X s a) (hs : DSs X ss b) : DSs X (s :: ss) (sSeq2 a b) := pss_weak (pss_cons h hs) fun D σ H q => by
  obtain ⟨B, ρ, o, hl, er, e, p⟩ := q
  unfold sSeq2 at e
  split at e
  · rename_i ρ1 e1
    exact ⟨B, ρ, _, hl, er, e1, fun σ1 H1 lk st er1 => ⟨B, ρ1, o, (lk.len.trans hl).trans lk.slen.symm, er1, e, post_go lk st p⟩⟩
  · rename_i r ρ1 e1
    cases e
    exact ⟨B, ρ, _, hl, er, e1, p⟩
  · rename_i ρ1 e1
    cases e
    exact ⟨B, ρ, _, hl, er, e1, p⟩
  · rename_i ρ1 e1
    cases e
    exact ⟨B, ρ, _, hl, er, e1, p⟩
  · cases e
def sExp (t : TD) : TSD := fun ρ => match t ρ with
  | some (_, ρ1) => some (.nx ρ1)
  | none => none
theorem ds_exp (h : DE X e t) (hs : swapsWith e none pos.line X.env = pure false) : DS X (.Expr e pos) (sExp t) := ps_weak (ps_expr h hs) fun D σ H q => by
  obtain ⟨B, ρ, o, hl, er, e, p⟩ := q
  unfold sExp at e
  split at e
  · rename_i r ρ1 e1
    cases e
    exact ⟨B, ρ, r, ρ1, hl, er, e1, fun v H1 lk st rr => p σ H1 (lk.s σ) st rr.er.left⟩
  · cases e
theorem ds_doc {x j pos'} : DS X (.Expr (.Constant (.str x) j pos) pos') sSkip := ps_weak ps_doc fun D σ H q => by
  obtain ⟨B, ρ, o, hl, er, e, p⟩ := q
  cases e
  exact p σ H (.refl _ _) .refl er
def sRet (t : TD) : TSD := fun ρ => match t ρ with
  | some (r, ρ1) => some (.rt r ρ1)
  | none => none
theorem ds_ret (h : DE X e t) : DS X (.Return (some e) pos) (sRet t) := ps_weak (ps_ret h) fun D σ H q => by
  obtain ⟨B, ρ, o, hl, er, e, p⟩ := q
  unfold sRet at e
  split at e
  · rename_i r ρ1 e1
    cases e
    exact ⟨B, ρ, r, ρ1, hl, er, e1, fun v H1 lk st rr => p v σ H1 (lk.len.trans hl) (lk.s σ) st rr⟩
  · cases e
def sRetN : TSD := fun ρ => some (.rt (.v .none) ρ)
theorem ds_retN : DS X (.Return none pos) sRetN := ps_weak ps_retN fun D σ H q => by
  obtain ⟨B, ρ, o, hl, er, e, p⟩ := q
  cases e
  exact p .non σ H hl (.refl _ _) .refl (rss_val er rep_non)
def sIf (c : TB) (a b : TSD) : TSD := fun ρ => match c ρ with
  | some (true, ρ1) => a ρ1
  | some (false, ρ1) => b ρ1
  | none => none
theorem ds_if {c : Expr} {sa sb : List Stmt} {tc : TB} (hc : DT X c tc) (ha : DSs X sa a) (hb : DSs X sb b) : DS X (.If c sa sb pos) (sIf tc a b) := ps_weak (ps_if hc ha hb) fun D σ H q => by
  obtain ⟨B, ρ, o, hl, er, e, p⟩ := q
  unfold sIf at e
  split at e
  · rename_i ρ1 e1
    refine ⟨B, ρ, true, ρ1, hl, er, e1, fun H1 lk st er1 => iteT ?_⟩
    exact ⟨B, ρ1, o, lk.len.trans hl, er1, e, post_go (lk.s σ) st p⟩
  · rename_i ρ1 e1
    refine ⟨B, ρ, false, ρ1, hl, er, e1, fun H1 lk st er1 => iteF ?_⟩
    exact ⟨B, ρ1, o, lk.len.trans hl, er1, e, post_go (lk.s σ) st p⟩
  · cases e

/-! ### assignments -/
def sAsg (t : TD) (g : TGD) : TSD := fun ρ => match t ρ with
  | some (r, ρ1) => match res [r] ρ1 with
    | some ([q], ρ2) => match g q ρ2 with
      | some ρ3 => some (.nx ρ3)
      | none => none
    | _ => none
  | none => none
theorem asg_read {K : PySem.W.Frag} {g : TGD} {js : List Nat} {D : Ends} {σ : St} {H : Hp} (q : rdS K (sAsg t g) D σ H) : tAsg (rd K t) (rdG K js g) D σ H := by
  obtain ⟨B, ρ, o, hl, er, e, p⟩ := q
  unfold sAsg at e
  split at e
  · rename_i r ρ1 e1
    split at e
    · rename_i q ρ2 e2
      split at e
      · rename_i ρ3 e3
        cases e
        refine ⟨B, ρ, r, ρ1, hl, er, e1, fun v H1 lk st rr => ?_⟩
        have hl1 := lk.len.trans hl
        obtain ⟨h1, h2, h3, h4, h5, h6⟩ := res_ok hl1 e2 rr.er rr.len rr.bo
        refine ⟨B, ρ2, q, ρ3, h2.len.trans hl1, h1, by simpa using h5, e3, fun σ' H' lk2 st2 er2 _ => ?_⟩
        refine p σ' H' (((lk.trans h2).s σ).trans lk2) ⟨fun b o hb nb => ?_, fun b t z => ?_, fun b t => st2.trk b (st.trk b t)⟩ er2
        · refine st2.keep b o (st.keep b o hb nb) fun z => ?_
          rcases own_app.mp z with z | z
          · exact nb (st.own b (by rw [hb]; simp) (h3 b z))
          · rw [rr.fr b (h6 b z)] at hb; cases hb
        · rcases own_app.mp (st2.own b (st.trk b t) z) with z | z
          · exact st.own b t (h3 b z)
          · exact absurd (rr.fr b (h6 b z)) t
      · cases e
    · cases e
  · cases e
theorem ds_asg {tg e : Expr} {g : TGD} {js : List Nat} (he : DE X e t) (hg : DG X tg js g) (hs : swapsWithSole [tg] e pos.line X.env = pure false) (hw : swappedStores [tg] e X.env = pure none) (h1 : (assignEach [tg] X.env).map (·.2) = [assign tg X.env]) :
    DS X (.Assign [tg] e pos) (sAsg t g) := ps_weak (ps_asg he hg hs hw h1) fun _ _ _ q => asg_read q
theorem gname_read {K : PySem.W.Frag} {i : Nat} {v : V} {σ : St} {H : Hp} {Q : St → Hp → Prop} (q : rdG K [i] (tName i) v σ H Q) : gName i v σ H Q := by
  obtain ⟨B, ρ, r, ρ', hl, er, hfa, e, k⟩ := q
  obtain ⟨h1, h2, h3⟩ := tName_some e
  subst h3
  have er : ER K H B (Z ρ σ ++ ((sl r, some v) :: [])) := er
  obtain ⟨e1, e2⟩ := put_er hl h2 er
  rw [List.append_nil] at e1 e2
  exact k _ H (lks_put h1) (stp_own e2) e1 fun j hj => List.getElem?_set_ne fun z => hj (by simp [z])
theorem ds_setLc {i : Nat} {y : Str} {py spos : Pos} {elt tg iter : Expr} {ifs : List Expr} {scope : Scope} {own : List (Str × Nat)} {js : List Nat} {src : TSr} {tgt : TGD} {cond : TB} {te : TD} (hc : X.calm = true) (hN : X.N.Nodup) (hy : X.N[i]? = some y) (hyl : X.env.scope.names.lookup y = some .local)
    (hsw : swapsWith (.ListComp elt [⟨tg, iter, ifs, 0⟩] scope pos) (some (.Name y py)) spos.line X.env = pure true) (hi : DI X tg iter src) (ok : BlkOk X.N X.env.scope scope own)
    (hg : ∀ (s : Shared) (H : Hp) (C : Addr) (cl : List (Str × Addr)) (fp : List Addr), DG (X.blk s H scope (compEnvC scope cl C X.env) fp) tg js tgt)
    (ht : ∀ (s : Shared) (H : Hp) (C : Addr) (cl : List (Str × Addr)) (fp : List Addr), PTs (X.blk s H scope (compEnvC scope cl C X.env) fp) ifs (rdT X.K cond))
    (he : ∀ (s : Shared) (H : Hp) (C : Addr) (cl : List (Str × Addr)) (fp : List Addr), DE (X.blk s H scope (compEnvC scope cl C X.env) fp) elt te)
    (hs : ∀ x, foldedSetIterable iter X.env x = pure x) (hjs : ∀ j ∈ js, j ∈ own.map (·.2)) : DS X (.Assign [.Name y py] (.ListComp elt [⟨tg, iter, ifs, 0⟩] scope pos) spos) (sAsg (dComp (own.map (·.2)) src tgt cond te) (tName i)) :=
  ps_weak (ps_setLc (g := rdG X.K js tgt) (tt := rdT X.K cond) (te := rd X.K te) hc hN hy hyl hsw hi ok (fun s H C cl fp => hg s H C cl fp) ht (fun s H C cl fp => he s H C cl fp) hs) fun D σ H q => by
    have h := asg_read (js := [i]) q
    obtain ⟨B, ρ, r, ρ', hl, er, e, k⟩ := h
    exact comp_read (js := js) hjs ⟨B, ρ, r, ρ', hl, er, e, fun v H1 lk st rr => gname_read (k v H1 lk st rr)⟩
/-- a, b, .. = x, y, .. -/
def sAsgT (ts : TDs) (n : Nat) (gs : TGDs) : TSD := fun ρ => match ts ρ with
  | some (rs, ρ1) => match res rs ρ1 with
    | some (qs, ρ2) => if qs.length = n then match gs qs ρ2 with
        | some ρ3 => some (.nx ρ3)
        | none => none
      else none
    | none => none
  | none => none
theorem asgT_read {K : PySem.W.Frag} {ts : TDs} {n : Nat} {gs : TGDs} {js : List Nat} {D : Ends} {σ : St} {H : Hp} (hn : n ≤ 1000) (q : rdS K (sAsgT ts n gs) D σ H) : rds K ts σ H fun vs H1 => vs.length = n ∧
    (∀ H2, Same H1 H2 → rdGs K js gs vs σ H2 D.nx) := by
  obtain ⟨B, ρ, o, hl, er, e, p⟩ := q
  unfold sAsgT at e
  split at e
  · rename_i rs ρ1 e1
    split at e
    · rename_i qs ρ2 e2
      split at e
      · rename_i hq
        split at e
        · rename_i ρ3 e3
          cases e
          refine ⟨B, ρ, rs, ρ1, hl, er, e1, fun vs H1 lk st rr => ?_⟩
          have hl1 := lk.len.trans hl
          obtain ⟨h1, h2, h3, h4, h5, h6⟩ := res_ok hl1 e2 rr.er rr.len rr.bo
          refine ⟨h4.symm.trans hq, fun H2 sm => ?_⟩
          refine ⟨B, ρ2, qs, ρ3, h2.len.trans hl1, er_same h1 sm, h4, by simpa using h5, e3, fun σ' H' lk2 st2 er2 _ => ?_⟩
          refine p σ' H' (((lk.trans h2).s σ).trans lk2) ⟨fun b o hb nb => ?_, fun b t z => ?_, fun b t => ?_⟩ er2
          · refine st2.keep b o (sm b o (st.keep b o hb nb)) fun z => ?_
            rcases own_app.mp z with z | z
            · exact nb (st.own b (by rw [hb]; simp) (h3 b z))
            · rw [rr.fr b (h6 b z)] at hb; cases hb
          · have t1 := st.trk b t
            have t2 : H2 b ≠ none := by
              cases q : H1 b with
              | none => exact absurd q t1
              | some o => rw [sm b o q]; simp
            rcases own_app.mp (st2.own b t2 z) with z | z
            · exact st.own b t (h3 b z)
            · exact absurd (rr.fr b (h6 b z)) t
          · have t1 := st.trk b t
            have t2 : H2 b ≠ none := by
              cases q : H1 b with
              | none => exact absurd q t1
              | some o => rw [sm b o q]; simp
            exact st2.trk b t2
        · cases e
      · cases e
    · cases e
  · cases e
/-- by a tuple -/
theorem ds_asgT {es vs : List Expr} {k k2 n : Nat} {tpos vpos : Pos} {ts : TDs} {gs : TGDs} {js : List Nat} (hc : X.calm = true) (hn : n ≤ 1000) (ha : DA X vs ts) (hg : DGs X es js gs) (hlen : (assignEach es X.env).length = n) (hst : (assignEach es X.env).findIdx? (·.1) = none)
    (hs : swapsWithSole [.Tuple es k tpos] (.Tuple vs k2 vpos) pos.line X.env = pure false) (hw : swappedStores [.Tuple es k tpos] (.Tuple vs k2 vpos) X.env = pure none) (h1 : (assignEach [.Tuple es k tpos] X.env).map (·.2) = [assign (.Tuple es k tpos) X.env]) :
    DS X (.Assign [.Tuple es k tpos] (.Tuple vs k2 vpos) pos) (sAsgT ts n gs) :=
  ps_weak (ps_asg (pe_tup ha) (pg_tup hc hg hlen hst) hs hw h1) fun D σ H q => by
    obtain ⟨B, ρ, rs, ρ1, hl, er, e, kk⟩ := asgT_read (js := js) hn q
    refine ⟨B, ρ, rs, ρ1, hl, er, e, fun vs H1 lk st rr => ?_⟩
    obtain ⟨h1, h2⟩ := kk vs H1 lk st rr
    refine ⟨lt1000 (by rw [h1]; exact hn), fun p np => ⟨p, vs, rfl, .inl (.inl upd_same), h1, h2 _ (upd_same_of np)⟩⟩
/-- .. of two plain names -/
theorem ds_par {i j : Nat} {x y : Str} {a b : Expr} {ts : TDs} {px py pt : Pos} {kt k2 pt2} (hc : X.calm = true) (hN : X.N.Nodup) (hi : X.N[i]? = some x) (hj : X.N[j]? = some y) (hij : i ≠ j)
    (hx : X.env.scope.names.lookup x = some .local) (hy : X.env.scope.names.lookup y = some .local) (ha : DA X [a, b] ts)
    (hw : swappedStores [.Tuple [.Name x px, .Name y py] kt pt] (.Tuple [a, b] k2 pt2) X.env = pure (some [x, y]))
    (hs : swapsWithSole [.Tuple [.Name x px, .Name y py] kt pt] (.Tuple [a, b] k2 pt2) pos.line X.env = pure false) :
    DS X (.Assign [.Tuple [.Name x px, .Name y py] kt pt] (.Tuple [a, b] k2 pt2) pos) (sAsgT ts 2 (gsCons (tName i) (gsCons (tName j) gsNil))) :=
  ps_weak (ps_par hc hN hi hj hij hx hy ha hw hs) fun D σ H q => by
    obtain ⟨B, ρ, rs, ρ1, hl, er, e, kk⟩ := asgT_read (js := [i] ++ ([j] ++ [])) (by decide) q
    refine ⟨B, ρ, rs, ρ1, hl, er, e, fun vs H1 lk st rr => ?_⟩
    obtain ⟨h1, h2⟩ := kk vs H1 lk st rr
    obtain ⟨v, u, rfl⟩ : ∃ v u, vs = [v, u] := by
      match vs, h1 with
      | [v, u], _ => exact ⟨v, u, rfl⟩
    refine ⟨v, u, rfl, ?_⟩
    obtain ⟨v', r', ev, g1⟩ := gcons_read (h2 H1 (.refl _))
    cases ev
    have g2 := gname_read g1
    obtain ⟨v', r', ev, g3⟩ := gcons_read g2
    cases ev
    have g4 := gname_read g3
    obtain ⟨B4, ρ4, rs4, ρ5, hl4, er4, hlen4, hfa4, e4, k4⟩ := g4
    unfold gsNil at e4
    split at e4
    · cases e4
      exact k4 _ _ (.refl _ _) (stp_own fun a z => own_app.mpr (.inl z)) er4.left fun _ _ => rfl
    · cases e4
theorem ds_par3 {i j l : Nat} {x y z : Str} {a b c : Expr} {ts : TDs} {px py pz pt : Pos} {kt k2 pt2} (hc : X.calm = true) (hN : X.N.Nodup) (hi : X.N[i]? = some x) (hj : X.N[j]? = some y) (hl : X.N[l]? = some z) (hij : i ≠ j) (hil : i ≠ l) (hjl : j ≠ l)
    (hx : X.env.scope.names.lookup x = some .local) (hy : X.env.scope.names.lookup y = some .local) (hz : X.env.scope.names.lookup z = some .local) (ha : DA X [a, b, c] ts)
    (hw : swappedStores [.Tuple [.Name x px, .Name y py, .Name z pz] kt pt] (.Tuple [a, b, c] k2 pt2) X.env = pure (some [x, y, z]))
    (hs : swapsWithSole [.Tuple [.Name x px, .Name y py, .Name z pz] kt pt] (.Tuple [a, b, c] k2 pt2) pos.line X.env = pure false) :
    DS X (.Assign [.Tuple [.Name x px, .Name y py, .Name z pz] kt pt] (.Tuple [a, b, c] k2 pt2) pos) (sAsgT ts 3 (gsCons (tName i) (gsCons (tName j) (gsCons (tName l) gsNil)))) :=
  ps_weak (ps_par3 hc hN hi hj hl hij hil hjl hx hy hz ha hw hs) fun D σ H q => by
    obtain ⟨B, ρ, rs, ρ1, hl, er, e, kk⟩ := asgT_read (js := [i] ++ ([j] ++ ([l] ++ []))) (by decide) q
    refine ⟨B, ρ, rs, ρ1, hl, er, e, fun vs H1 lk st rr => ?_⟩
    obtain ⟨h1, h2⟩ := kk vs H1 lk st rr
    obtain ⟨v, u, w, rfl⟩ : ∃ v u w, vs = [v, u, w] := by
      match vs, h1 with
      | [v, u, w], _ => exact ⟨v, u, w, rfl⟩
    refine ⟨v, u, w, rfl, ?_⟩
    obtain ⟨v', r', ev, g1⟩ := gcons_read (h2 H1 (.refl _))
    cases ev
    have g2 := gname_read g1
    obtain ⟨v', r', ev, g3⟩ := gcons_read g2
    cases ev
    have g4 := gname_read g3
    obtain ⟨v', r', ev, g5⟩ := gcons_read g4
    cases ev
    have g6 := gname_read g5
    obtain ⟨B4, ρ4, rs4, ρ5, hl4, er4, hlen4, hfa4, e4, k4⟩ := g6
    unfold gsNil at e4
    split at e4
    · cases e4
      exact k4 _ _ (.refl _ _) (stp_own fun a z => own_app.mpr (.inl z)) er4.left fun _ _ => rfl
    · cases e4

/-! ### methods of a list that a name owns -/
def dApp (i : Nat) (t : TD) : TD := fun ρ => match ownAt ρ i with
  | some _ => match t ρ with
    | some (r, ρ1) => match frz [r] ρ1 with
      | some ([d], ρ2) => match ownAt ρ2 i with
        | some (p, xs) => if xs.length < 1000000 then some (.v .none, ρ2.set i (some (.own p (xs ++ [d])))) else none
        | none => none
      | _ => none
    | none => none
  | none => none
theorem de_app {o e : Expr} {i : Nat} {apos cpos : Pos} (ho : PE X o (tVar i)) (h : DE X e t) (hpe : ∀ {r : V → List V → Hp → VK → Prop} {to : TE} {ta : TA}, MtM X "list.append" r → PE X o to → PA X [e] ta → PE X (.Call (.Attribute o "append" apos) [e] [] cpos) (tBM X.K "list" r to ta))
    (hs : starEach [e] X.env = (false, eval e X.env) :: starEach [] X.env) : DE X (.Call (.Attribute o "append" apos) [e] [] cpos) (dApp i t) := by
  refine pe_weak (hpe mt_append ho (pa_cons h pa_nil hs)) fun σ H Q q => ?_
  obtain ⟨B, ρ, r, ρ', hl, er, e, k⟩ := q
  unfold dApp at e
  split at e
  · rename_i q0 e0
    obtain ⟨p0, xs0⟩ := q0
    have e0 := ownAt_some e0
    obtain ⟨w, hw, mw⟩ := zget hl e0
    obtain ⟨a, us0, ea, hus0, _⟩ := er.own _ _ _ mw
    subst ea
    split at e
    · rename_i r1 ρ1 e1
      split at e
      · rename_i d ρ2 e2
        split at e
        · rename_i p xs e3
          have e3 := ownAt_some e3
          split at e
          · rename_i hlen
            cases e
            refine ⟨.ref a, hw, .inl ⟨rfl, us0, .inl (.inl hus0)⟩, B, ρ, r1, ρ1, hl, er, e1, fun v H1 lk st rr => ?_⟩
            have hl1 := lk.len.trans hl
            obtain ⟨h1, h2, h3, h4⟩ := frz_ok hl1 e2 rr
            obtain ⟨a2, us, ea, hus, rus, nb⟩ := h1.own _ _ _ (mem_Z e3 hw)
            cases ea
            obtain ⟨m1, m2, m3⟩ := mut_slot (h3.len.trans hl1) e3 hw h1 (rus.app (.cons h2.one .nil))
            refine ⟨a, us, v, rfl, rfl, hus, by rw [rus.len]; exact Nat.lt_of_lt_of_le hlen (by decide), ?_⟩
            exact k .non _ ((lk.trans h3).trans m3) ((st.trans (stp_own h4)).trans m2) (rss_val m1 rep_non)
          · cases e
        · cases e
      · cases e
    · cases e
  · cases e
/-- x.pop() -/
def dPop (i : Nat) : TD := fun ρ => match ownAt ρ i with
  | some (p, xs) => match xs[xs.length - 1]? with
    | some d => some (.v d, ρ.set i (some (.own p xs.dropLast)))
    | none => none
  | none => none
theorem de_pop {o : Expr} {i : Nat} {apos cpos : Pos} (ho : PE X o (tVar i)) (hpe : ∀ {r : V → List V → Hp → VK → Prop} {to : TE}, MtM X "list.pop" r → PE X o to → PE X (.Call (.Attribute o "pop" apos) [] [] cpos) (tBM0 X.K "list" r to)) :
    DE X (.Call (.Attribute o "pop" apos) [] [] cpos) (dPop i) := by
  refine pe_weak (hpe mt_pop ho) fun σ H Q q => ?_
  obtain ⟨B, ρ, r, ρ', hl, er, e, k⟩ := q
  unfold dPop at e
  split at e
  · rename_i p xs e0
    have e0 := ownAt_some e0
    split at e
    · rename_i d ed
      cases e
      obtain ⟨w, hw, mw⟩ := zget hl e0
      obtain ⟨a, us, ea, hus, rus, _⟩ := er.own _ _ _ mw
      subst ea
      obtain ⟨y, hy, ry⟩ := rus.get ed
      obtain ⟨m1, m2, m3⟩ := mut_slot hl e0 hw er rus.dropLast
      refine ⟨.ref a, hw, .inl ⟨rfl, us, .inl (.inl hus)⟩, a, us, y, rfl, rfl, hus, by rw [rus.len]; exact hy, ?_⟩
      exact k y _ m3 m2 (rss_val m1 (ry.step er m2))
    · cases e
  · cases e
end
/-! ### loops -/
def loopF (tgt : TGD) (body : TSD) : List D → Rho → Option Out
  | [], ρ => some (.nx ρ)
  | d :: ds, ρ => match tgt (.v d) ρ with
    | some ρ1 => match body ρ1 with
      | some (.nx ρ2) => loopF tgt body ds ρ2
      | some (.ct ρ2) => loopF tgt body ds ρ2
      | some (.bk ρ2) => some (.nx ρ2)
      | some (.rt r ρ2) => some (.rt r ρ2)
      | none => none
    | none => none
def sFor (src : TSr) (tgt : TGD) (body : TSD) : TSD := fun ρ => match src ρ with
  | some (its, ρ1) => loopF tgt body its ρ1
  | none => none
section
variable {X : Cx} {pos : Pos}
theorem for_read {K : PySem.W.Frag} {src : TSr} {tgt : TGD} {body : TSD} {js : List Nat} {D : Ends} {σ : St} {H : Hp} (q : rdS K (sFor src tgt body) D σ H) : tFor (rdI K src) (rdG K js tgt) (rdS K body) D σ H := by
  obtain ⟨B, ρ, o, hl, er, e, p⟩ := q
  unfold sFor at e
  split at e
  · rename_i its ρ1 e1
    refine ⟨B, ρ, its, ρ1, hl, er, e1, fun J H1 lk st er1 sok => ?_⟩
    obtain ⟨Y, w, hY⟩ := sok
    have hl1 := lk.len.trans hl
    let Pv : Nat → St → Hp → Prop := fun i σi Hi => ∃ ρi o', ρi.length = σi.length ∧ LkS ρ1 ρi σ σi ∧ Stp (Z ρ1 σ) H1 (Z ρi σi) Hi ∧ ER K Hi B (Z ρi σi) ∧ loopF tgt body (its.drop i) ρi = some o' ∧ post K D B ρi σi Hi o'
    refine for_it w Pv ⟨ρ1, o, hl1, .refl _ _, .refl, er1, e, post_go (lk.s σ) st p⟩ (fun i σi Hi _ hP b ob hb nb => ?_) (fun i x σi Hi Hi' hi hP hy => ?_) (fun σn Hn hP => ?_)
    · obtain ⟨ρi, o', _, _, sti, _⟩ := hP
      exact sti.keep b ob hb nb
    · obtain ⟨ρi, o', hli, lki, sti, eri, ei, pi⟩ := hP
      have hstay : Stay ρ1 σ H1 Hi := fun b ob hb nb => sti.keep b ob hb nb
      obtain ⟨sm, d, hd, hrep⟩ := hY i Hi x Hi' hi hstay hy
      have hdrop : its.drop i = d :: its.drop (i + 1) := by
        have := List.drop_eq_getElem_cons hi
        rw [this]
        congr 1
        have h2 := List.getElem?_eq_getElem hi
        rw [hd] at h2
        exact (Option.some.inj h2).symm
      rw [hdrop] at ei
      unfold loopF at ei
      split at ei
      · rename_i ρa ea
        have eri' := er_same eri sm
        have hmA : ∀ b, H1 b ≠ none → AO B (Z ρi σi) b → AO B (Z ρ1 σ) b := fun b t z => z.elim .inl fun z => .inr (sti.own b t z)
        have erT := (eri'.dup (hrep _ hmA)).perm (List.perm_append_comm (l₁ := [(some (Slot.val d), some x)]))
        refine ⟨B, ρi, .v d, ρa, hli, erT, rfl, ea, fun σ2 H2 lk2 st2 er2 _ => ?_⟩
        have hl2 : ρa.length = σ2.length := by rw [lk2.len, hli, lk2.slen]
        have st2' : Stp (Z ρi σi) Hi' (Z ρa σ2) H2 := ⟨fun b o q n => st2.keep b o q fun z => (own_app.mp z).elim n fun z => own_nil (own_valcons z), fun b t z => (own_app.mp (st2.own b t z)).elim id fun z => (own_nil (own_valcons z)).elim, st2.trk⟩
        have stT : Stp (Z ρi σi) Hi (Z ρa σ2) H2 := (Stp.same sm).trans st2'
        have p2 := post_go lk2 stT pi
        split at ei
        · rename_i ρb eb
          refine ⟨B, ρa, _, hl2, er2, eb, fun σ3 H3 lk3 st3 er3 => ?_⟩
          exact ⟨ρb, o', (lk3.len.trans hl2).trans lk3.slen.symm, (lki.trans lk2).trans lk3, (sti.trans stT).trans st3, er3, ei, post_go lk3 st3 p2⟩
        · rename_i ρb eb
          refine ⟨B, ρa, _, hl2, er2, eb, fun σ3 H3 lk3 st3 er3 => ?_⟩
          exact ⟨ρb, o', (lk3.len.trans hl2).trans lk3.slen.symm, (lki.trans lk2).trans lk3, (sti.trans stT).trans st3, er3, ei, post_go lk3 st3 p2⟩
        · rename_i ρb eb
          cases ei
          exact ⟨B, ρa, _, hl2, er2, eb, fun σ3 H3 lk3 st3 er3 => p2 σ3 H3 lk3 st3 er3⟩
        · rename_i r ρb eb
          cases ei
          exact ⟨B, ρa, _, hl2, er2, eb, p2⟩
        · cases ei
      · cases ei
    · obtain ⟨ρi, o', hli, lki, sti, eri, ei, pi⟩ := hP
      rw [List.drop_length] at ei
      unfold loopF at ei
      cases ei
      exact pi σn Hn (.refl _ _) .refl eri
  · cases e
theorem ds_for {tg iter : Expr} {body : List Stmt} {src : TSr} {tgt : TGD} {tb : TSD} {js : List Nat} (hp : PassesOwn (model X.prog X.w) X.A X.env X.xe) (hc : X.calm = true) (hi : DI X tg iter src) (hg : DG X tg js tgt) (hb : DSs X body tb) (hs : ∀ x, foldedSetIterable iter X.env x = pure x) :
    DS X (.For tg iter body [] pos) (sFor src tgt tb) := ps_weak (ps_for hp hc hi hg hb hs) fun _ _ _ q => for_read q
def whileN (c : TB) (body : TSD) : Nat → Rho → Option Out
  | 0, _ => none
  | n + 1, ρ => match c ρ with
    | some (true, ρ1) => match body ρ1 with
      | some (.nx ρ2) => whileN c body n ρ2
      | some (.ct ρ2) => whileN c body n ρ2
      | some (.bk ρ2) => some (.nx ρ2)
      | some (.rt r ρ2) => some (.rt r ρ2)
      | none => none
    | some (false, ρ1) => some (.nx ρ1)
    | none => none
theorem whileN_more {c : TB} {body : TSD} : ∀ {n m : Nat} {ρ : Rho} {o : Out}, whileN c body n ρ = some o → n ≤ m → whileN c body m ρ = some o
  | 0, _, _, _, h, _ => by simp [whileN] at h
  | n + 1, 0, _, _, _, hm => by omega
  | n + 1, m + 1, ρ, o, h, hm => by
    unfold whileN at h ⊢
    split at h
    · rename_i ρ1 e1
      split at h
      · rename_i ρ2 e2
        exact whileN_more h (by omega)
      · rename_i ρ2 e2
        exact whileN_more h (by omega)
      · exact h
      · exact h
      · cases h
    · exact h
    · cases h
/-- a while, however many turns it takes -/
noncomputable def sWhile (c : TB) (body : TSD) : TSD := fun ρ => open Classical in if h : ∃ n o, whileN c body n ρ = some o then some h.choose_spec.choose else none
theorem sWhile_eq {c : TB} {body : TSD} {n : Nat} {ρ : Rho} {o : Out} (h : whileN c body n ρ = some o) : sWhile c body ρ = some o := by
  unfold sWhile
  have hx : ∃ n o, whileN c body n ρ = some o := ⟨n, o, h⟩
  rw [dif_pos hx]
  have q := hx.choose_spec.choose_spec
  have h1 := whileN_more h (Nat.le_max_left n hx.choose)
  have h2 := whileN_more q (Nat.le_max_right n hx.choose)
  rw [h1] at h2
  exact h2.symm
theorem sWhile_some {c : TB} {body : TSD} {ρ : Rho} {o : Out} (h : sWhile c body ρ = some o) : ∃ n, whileN c body n ρ = some o := by
  unfold sWhile at h
  split at h
  · rename_i hx
    have q := hx.choose_spec.choose_spec
    cases h
    exact ⟨_, q⟩
  · cases h
theorem while_read {K : PySem.W.Frag} {c : TB} {body : TSD} {D : Ends} {σ : St} {H : Hp} (q : rdS K (sWhile c body) D σ H) : tWhile (rdT K c) (rdS K body) D σ H := by
  obtain ⟨B, ρ, o, hl, er, e, p⟩ := q
  obtain ⟨n, e⟩ := sWhile_some e
  refine ⟨fun m σ H => ∃ ρi o', ρi.length = σ.length ∧ ER K H B (Z ρi σ) ∧ whileN c body m ρi = some o' ∧ post K D B ρi σ H o', ⟨n, ρ, o, hl, er, e, p⟩, fun m σi Hi hW => ?_⟩
  obtain ⟨ρi, o', hli, eri, ei, pi⟩ := hW
  cases m with
  | zero => simp [whileN] at ei
  | succ m =>
    unfold whileN at ei
    split at ei
    · rename_i ρ1 e1
      refine ⟨B, ρi, true, ρ1, hli, eri, e1, fun H1 lk st er1 => iteT ?_⟩
      have hl1 := lk.len.trans hli
      have p1 := post_go (lk.s σi) st pi
      refine ⟨fun σ' H' => ∃ ρ2, ρ2.length = σ'.length ∧ ER K H' B (Z ρ2 σ') ∧ whileN c body m ρ2 = some o' ∧ post K D B ρ2 σ' H' o' , fun σ' H' ⟨ρ2, a1, a2, a3, a4⟩ => ⟨m, Nat.lt_succ_self m, ρ2, o', a1, a2, a3, a4⟩, ?_⟩
      split at ei
      · rename_i ρ2 e2
        exact ⟨B, ρ1, _, hl1, er1, e2, fun σ2 H2 lk2 st2 er2 => ⟨ρ2, (lk2.len.trans hl1).trans lk2.slen.symm, er2, ei, post_go lk2 st2 p1⟩⟩
      · rename_i ρ2 e2
        exact ⟨B, ρ1, _, hl1, er1, e2, fun σ2 H2 lk2 st2 er2 => ⟨ρ2, (lk2.len.trans hl1).trans lk2.slen.symm, er2, ei, post_go lk2 st2 p1⟩⟩
      · rename_i ρ2 e2
        cases ei
        exact ⟨B, ρ1, _, hl1, er1, e2, fun σ2 H2 lk2 st2 er2 => p1 σ2 H2 lk2 st2 er2⟩
      · rename_i r ρ2 e2
        cases ei
        exact ⟨B, ρ1, _, hl1, er1, e2, p1⟩
      · cases ei
    · rename_i ρ1 e1
      cases ei
      exact ⟨B, ρi, false, ρ1, hli, eri, e1, fun H1 lk st er1 => iteF (pi σi H1 (lk.s σi) st er1)⟩
    · cases ei
theorem ds_while {c : Expr} {body : List Stmt} {tc : TB} {tb : TSD} (hp : PassesOwn (model X.prog X.w) X.A X.env X.xe) (hc : DT X c tc) (hb : DSs X body tb) : DS X (.While c body [] pos) (sWhile tc tb) := ps_weak (ps_while hp hc hb) fun _ _ _ q => while_read q
end

/-! ### a def's body -/
def fin : Out → Option R
  | .nx _ => some (.v .none)
  | .rt (.v d) _ => some (.v d)
  | .rt (.o xs) _ => some (.o xs)
  | .rt (.b i) ρ => match ρ[i]? with
    | some (some (.own false xs)) => some (.o xs)
    | some (some (.val d)) => some (.v d)
    | _ => none
  | _ => none
def startR (n : Nat) (ds : List D) : Rho := ds.map (fun d => some (.val d)) ++ List.replicate (n - ds.length) none
def runP (n : Nat) (t : TSD) (ds : List D) : Option R := match t (startR n ds) with
  | some o => fin o
  | none => none
def startV (n : Nat) (xs : List D) (ds : List D) : Rho := some (.own true xs) :: (ds.map (fun d => some (.val d)) ++ List.replicate (n - (ds.length + 1)) none)
def endV (o : Out) : Option (List D) := match o with
  | .nx ρ => (ownAt ρ 0).map (·.2)
  | .rt _ ρ => (ownAt ρ 0).map (·.2)
  | _ => none
def runV (n : Nat) (t : TSD) (xs ds : List D) : Option (R × List D) := match t (startV n xs ds) with
  | some o => match fin o with
    | some r => match endV o with
      | some xs' => some (r, xs')
      | none => none
    | none => none
  | none => none
section
variable {K : PySem.W.Frag} {H H' : Hp} {B : Addr → Prop}
theorem er_vals : ∀ {ds : List D} {vs : List V}, (∀ b, B b → H b ≠ none) → RepA K H B ds vs → ∀ n, ER K H B (Z (ds.map (fun d => some (Slot.val d)) ++ List.replicate n none) (vs.map some ++ List.replicate n none)) ∧
    ∀ a, ¬ Own (Z (ds.map (fun d => some (Slot.val d)) ++ List.replicate n none) (vs.map some ++ List.replicate n none)) a
  | [], vs, hB, r, n => by
    unfold RepA at r
    subst r
    have key : ∀ n : Nat, ER K H B (Z (List.replicate n (none : Option Slot)) (List.replicate n (none : Option V))) ∧ ∀ a, ¬ Own (Z (List.replicate n (none : Option Slot)) (List.replicate n (none : Option V))) a := fun n => by
      induction n with
      | zero => exact ⟨⟨fun _ _ m => (nomatch m), fun _ _ _ m => (nomatch m), List.Pairwise.nil, hB⟩, fun a z => own_nil z⟩
      | succ n ih =>
        refine ⟨ih.1.blank, fun a z => ?_⟩
        rcases own_cons.mp z with ⟨_, _, z⟩ | z
        · cases z
        · exact ih.2 a z
    simpa using key n
  | d :: ds, vs, hB, r, n => by
    unfold RepA at r
    obtain ⟨v, ws, rfl, h1, h2⟩ := r
    obtain ⟨q1, q2⟩ := er_vals hB h2 n
    refine ⟨q1.dup (h1.mono fun b z => z.elim id fun z => (q2 b z).elim), fun a z => q2 a (own_valcons z)⟩
/-- the result of a body, as a def's -/
theorem fin_rn {ρ : Rho} {σ : St} {r q : R} {v : V} (hl : ρ.length = σ.length) (rr : RSs K H H' B ρ σ [r] [v]) (ho : ∀ a, Own (Z ρ σ) a → (∃ (i : Nat) (xs : List D), ρ[i]? = some (some (Slot.own false xs)) ∧ σ[i]? = some (some (V.ref a))) → H a = none) (e : fin (.rt r ρ) = some q) :
    RN K H H' (AO B (Z ρ σ)) q v ∨ (∃ (i : Nat) (xs : List D) (a : Addr), r = .b i ∧ q = .o xs ∧ v = .ref a ∧ ρ[i]? = some (some (Slot.own false xs)) ∧ σ[i]? = some (some (V.ref a)) ∧ H a = none) := by
  cases r with
  | v d =>
    simp only [fin] at e; cases e
    obtain ⟨u, eu, rp⟩ := rr.er.val d _ (List.mem_append_right _ List.mem_cons_self)
    cases eu
    exact .inl (Rep.mono rp fun b z => z.elim .inl fun z => .inr (own_app.mpr (.inl z)))
  | o xs =>
    simp only [fin] at e; cases e
    obtain ⟨a, us, ea, hus, rus, nb⟩ := rr.er.own false xs _ (List.mem_append_right _ List.mem_cons_self)
    cases ea
    refine .inl ⟨a, us, rfl, rr.fr a (own_cons.mpr (.inl ⟨false, xs, rfl⟩)), hus, rus.mono fun b z => ?_⟩
    rcases z with (z | z) | z
    · exact .inl z
    · exact .inr (own_app.mpr (.inl z))
    · subst z; exact .inr (own_app.mpr (.inr (own_cons.mpr (.inl ⟨false, xs, rfl⟩))))
  | b i =>
    obtain ⟨w, ew, ei⟩ := rr.bo 0 i rfl
    have ew : v = w := by simpa using ew
    subst ew
    simp only [fin] at e
    split at e
    · rename_i xs e1
      cases e
      obtain ⟨a, us, ea, hus, rus, nb⟩ := rr.er.left.own _ _ _ (mem_Z e1 ei)
      cases ea
      exact .inr ⟨i, xs, a, rfl, rfl, rfl, e1, ei, ho a ⟨false, xs, mem_Z e1 ei⟩ ⟨i, xs, e1, ei⟩⟩
    · rename_i d e1
      cases e
      obtain ⟨u, eu, rp⟩ := rr.er.left.val d _ (mem_Z e1 ei)
      cases eu
      exact .inl rp
    · cases e
end
end Dn

set_option Elab.async false
set_option linter.all false
set_option maxRecDepth 100000
set_option maxHeartbeats 2000000
namespace Dn
open PySem PySem.Spec PyProof.Rows L2

theorem RN.mono {K : PySem.W.Frag} {H H' : Hp} {A A' : Addr → Prop} {r : R} {w : V} (h : RN K H H' A r w) (hA : ∀ b, A' b → A b) : RN K H H' A' r w := by
  cases r with
  | v d => exact Rep.mono (K := K) (H := H') h hA
  | o xs =>
    obtain ⟨p, vs, e, np, hp, r⟩ := h
    exact ⟨p, vs, e, np, hp, r.mono fun b z => z.imp (hA b) id⟩
  | b i => exact h
theorem fn_g {CX : CXT} {P : Program} {w : World} {K : PySem.W.Frag} {mg : Str → Option Value} {base : Heap} {k : Nat} {f : Addr} {name qual : Str} {params : Arguments} {body : List Stmt} {scope : Scope} {dV kV doc pm cdv ct oc : Value} {an od : Option Addr}
    {osl : Array (Option Value)} {N ps : List Str} {sp : Sp} (lk : K.lookup f = some ⟨oc, od, .func (PySem.W.fnOf name qual params body scope dV kV doc pm an cdv ct), osl⟩) (hcd : PySem.W.codeIn K cdv qual = true) (S : FnScope N ps scope)
    (len : ∀ vs H Q E, sp vs H Q E → vs.length = ps.length)
    (hbody : ∀ (A : Around) (outer : List Env) (s : Shared) (H : Hp) (vs : List V) (Q : VK) (E : XK), Room k (A.deeper (envOfC qual scope s.heap.objs.size f cdv)) → (A.deeper (envOfC qual scope s.heap.objs.size f cdv)).guards = some [] → sp vs H Q E →
      ∃ t, PSs (cxOf CX P w K mg base N qual scope f cdv A outer s H E) body t ∧ t { nx := fun _ H' => Q .non H', rt := Q } (start N vs) H) :
    FnG P w K mg base CX (k + 1) f (PySem.W.fnOf name qual params body scope dV kV doc pm an cdv ct) ps sp := by
  refine ⟨len, fun A outer s H args us vs Q E hr hg e0 hb r hsp => ?_⟩
  have hl := len _ _ _ _ hsp
  have kin : K.In s.heap := e0.mod.kin.keeps fun b o z => (e0.bs b o z).1
  refine Att.call_fn (R := CR CX outer P w H s Q E) kin (e0.mod.nolimit.keeps fun b o z => (e0.bs b o z).1) lk hcd hr.depth hb ?_ (fun s1 x => ?_) S.co S.gen S.kind
  · refine List.all_eq_true.mpr fun y hy => ?_
    rcases S.par y.1 (List.of_mem_zip (show (y.1, y.2) ∈ _ from hy)).1 with q | q
    · rw [q]; rfl
    · rw [q]; rfl
  obtain ⟨t, ht, hq⟩ := hbody A outer s H vs Q E (hr.deeper _) hg hsp
  have inv : Inv (cxOf CX P w K mg base N qual scope f cdv A outer s H E) [] (start N vs) H s1 := inv_start S hr.hd e0 hl r x
  have done : ∀ {σ' : St} {H' : Hp} {v : V} {u : Value} {s' : Shared}, Inv (cxOf CX P w K mg base N qual scope f cdv A outer s H E) [] σ' H' s' → RelV v u → Q v H' → CE outer P w H s Q u s' :=
    fun {σ' H' v u s'} i rv q => ⟨v, H', i.os, i.bare, i.base, i.hok, rv, q⟩
  refine wpAny_mono (ht.run [] s1 (start N vs) H _ inv hq) (fun fl s' hs => ?_) fun e s' hs => hs
  match fl, hs with
  | .ret u, ⟨v, σ', H', i, rv, q⟩ => exact done i rv q
  | .next, ⟨σ', H', i, q⟩ => exact done (v := V.non) (u := Value.none) i rfl q
  | .brk, ⟨_, _, _, q⟩ => exact q.elim
  | .cont, ⟨_, _, _, q⟩ => exact q.elim

section
variable {K : PySem.W.Frag} {H H' : Hp} {B : Addr → Prop}
theorem same_of {ρ ρ' : Rho} {σ σ' : St} (no : ∀ a, ¬ Own (Z ρ σ) a) (st : Stp (Z ρ σ) H (Z ρ' σ') H') : Same H H' := fun b o e => st.keep b o e (no b)
theorem repA_len : ∀ {ds : List D} {vs : List V}, RepA K H B ds vs → ds.length = vs.length
  | [], vs, r => by unfold RepA at r; subst r; rfl
  | d :: ds, vs, r => by
    unfold RepA at r
    obtain ⟨v, ws, rfl, _, h2⟩ := r
    rw [List.length_cons, List.length_cons, repA_len h2]
theorem fin_some {o : Out} {r : R} (h : fin o = some r) : (∃ ρ, o = .nx ρ ∧ r = .v .none) ∨ ∃ q ρ, o = .rt q ρ := by
  cases o with
  | nx ρ => cases h; exact .inl ⟨ρ, rfl, rfl⟩
  | rt q ρ => exact .inr ⟨q, ρ, rfl⟩
  | bk ρ => cases h
  | ct ρ => cases h
/-- the reading of a body whose def takes values -/
theorem run_read {N ps : List Str} {t : TSD} {vs : List V} {Q : VK} {E : XK} (h : spP K ps.length (runP N.length t) vs H Q E) : rdS K t { nx := fun _ H' => Q .non H', rt := Q } (start N vs) H := by
  obtain ⟨B, ds, r, hl, hB, rep, e, k⟩ := h
  have hd := repA_len rep
  unfold runP at e
  cases eo : t (startR N.length ds) with
  | none => rw [eo] at e; cases e
  | some o =>
    rw [eo] at e
    have e : fin o = some r := e
    obtain ⟨er, no⟩ := er_vals hB rep (N.length - vs.length)
    have hρ : startR N.length ds = ds.map (fun d => some (Slot.val d)) ++ List.replicate (N.length - vs.length) none := by unfold startR; rw [hd]
    rw [← hρ] at er no
    refine ⟨B, startR N.length ds, o, by rw [hρ]; simp [L2.start, hd], er, eo, ?_⟩
    rcases fin_some e with ⟨ρ', rfl, rfl⟩ | ⟨q, ρ', rfl⟩
    · exact fun σ' H' lk st er' => k .non H' (same_of no st) (rep_non (K := K) (H := H') (A := B))
    · intro v σ' H' hl' lk st rr
      have own0 : ∀ a, Own (Z ρ' σ') a → H a = none := fun a z => Classical.byContradiction fun n => no a (st.own a n z)
      rcases fin_rn hl' rr (fun a z _ => own0 a z) e with z | ⟨i, xs, a, rfl, rfl, rfl, e1, e2, n⟩
      · exact k v H' (same_of no st) (z.mono fun b w => .inl w)
      · obtain ⟨a', us, ea, hus, rus, nb⟩ := rr.er.left.own _ _ _ (mem_Z e1 e2)
        cases ea
        exact k _ H' (same_of no st) ⟨a, us, rfl, n, hus, rus.mono fun b w => w.elim .inl fun w => .inr (by subst w; exact ⟨false, xs, mem_Z e1 e2⟩)⟩

theorem own_entry {σ' : St} {p : Bool} {xs : List D} {us : List V} {a : Addr} {E : Ent} (er : ER K H (fun b => B b ∨ b = a) E) (no : ∀ b, ¬ Own E b) (ha : H a = some (.lst us)) (nb : ¬ B a) (rx : RepA K H (fun b => B b ∨ b = a) xs us) :
    ER K H B ((some (.own p xs), some (.ref a)) :: E) := by
  have hm : ∀ b, AO B ((some (Slot.own p xs), some (V.ref a)) :: E) b → (fun b => B b ∨ b = a) b := fun b z => by
    rcases z with z | z
    · exact .inl z
    · rcases own_cons.mp z with ⟨_, _, z⟩ | z
      · cases z; exact .inr rfl
      · exact (no b z).elim
  refine ⟨fun d v m => ?_, fun p' xs' v m => ?_, List.pairwise_cons.mpr ⟨fun q hq b z1 z2 => no b (own_iff.mpr ⟨q, hq, z2⟩), er.nd⟩, fun b z => er.trk b (.inl z)⟩
  · rcases List.mem_cons.mp m with m | m
    · cases m
    · obtain ⟨u, e, r⟩ := er.val d v m
      exact ⟨u, e, Rep.mono r fun b z => .inl (hm b z)⟩
  · rcases List.mem_cons.mp m with m | m
    · cases m
      exact ⟨a, us, rfl, ha, rx.mono hm, nb⟩
    · obtain ⟨b, vs, e, _⟩ := er.own p' xs' v m
      subst e
      exact (no b ⟨p', xs', m⟩).elim
theorem own_two {ρ : Rho} {σ : St} {i : Nat} {xs ys : List D} {a : Addr} (nd : (Z ρ σ).Pairwise Apart) (h1 : ρ[0]? = some (some (.own true xs))) (h2 : σ[0]? = some (some (.ref a))) (f1 : ρ[i]? = some (some (.own false ys))) (f2 : σ[i]? = some (some (.ref a))) : False := by
  cases ρ with
  | nil => cases h1
  | cons s ρ => cases σ with
    | nil => cases h2
    | cons v σ =>
      have e1 : s = some (.own true xs) := Option.some.inj h1
      have e2 : v = some (.ref a) := Option.some.inj h2
      subst e1 e2
      cases i with
      | zero => have z := h1.symm.trans f1; cases z
      | succ i => exact (List.pairwise_cons.mp (show ((some (Slot.own true xs), some (V.ref a)) :: Z ρ σ).Pairwise Apart from nd)).1 _ (mem_Z (by simpa using f1) (by simpa using f2)) a ⟨_, _, rfl⟩ ⟨_, _, rfl⟩
theorem fin_own {q : R} {ρ : Rho} {xs : List D} (h : fin (.rt q ρ) = some (.o xs)) : ∃ ys, (q = .o ys) ∨ ∃ i, q = .b i ∧ ρ[i]? = some (some (.own false ys)) := by
  cases q with
  | v d => cases h
  | o ys => exact ⟨ys, .inl rfl⟩
  | b i =>
    simp only [fin] at h
    split at h
    · rename_i ys e; exact ⟨ys, .inr ⟨i, rfl, e⟩⟩
    · cases h
    · cases h
/-- .. of one whose first parameter is a list that it may change -/
theorem runV_read {N ps : List Str} {t : TSD} {vs : List V} {Q : VK} {E : XK} (hN : ps.length ≤ N.length) (h : spV K ps.length (runV N.length t) vs H Q E) : rdS K t { nx := fun _ H' => Q .non H', rt := Q } (L2.start N vs) H := by
  obtain ⟨B, a, us, ws, xs, ds, r, xs', rfl, hl, ha, nb, hB, rx, rd, e, k⟩ := h
  have hd := repA_len rd
  unfold runV at e
  cases eo : t (startV N.length xs ds) with
  | none => rw [eo] at e; cases e
  | some o =>
    rw [eo] at e
    cases ef : fin o with
    | none => simp only [ef] at e; cases e
    | some r' =>
      simp only [ef] at e
      cases ev : endV o with
      | none => simp only [ev] at e; cases e
      | some zz =>
        simp only [ev] at e
        cases e
        obtain ⟨er0, no⟩ := er_vals (B := fun b => B b ∨ b = a) (fun b z => z.elim (hB b) fun z => by rw [z, ha]; simp) rd (N.length - (ws.length + 1))
        have hσ : L2.start N (.ref a :: ws) = some (.ref a) :: (ws.map some ++ List.replicate (N.length - (ws.length + 1)) none) := by simp [L2.start]
        have hρ : startV N.length xs ds = some (.own true xs) :: (ds.map (fun d => some (Slot.val d)) ++ List.replicate (N.length - (ws.length + 1)) none) := by unfold startV; rw [hd]
        have er : ER K H B (Z (startV N.length xs ds) (L2.start N (.ref a :: ws))) := by
          rw [hσ, hρ]
          exact own_entry (σ' := []) er0 no ha nb rx
        have on : ∀ b, Own (Z (startV N.length xs ds) (L2.start N (.ref a :: ws))) b → b = a := fun b z => by
          rw [hσ, hρ] at z
          rcases own_cons.mp (show Own ((some (Slot.own true xs), some (V.ref a)) :: _) b from z) with ⟨_, _, z⟩ | z
          · cases z; rfl
          · exact (no b z).elim
        have keepH : ∀ {ρ' : Rho} {σ' : St} {H' : Hp}, Stp (Z (startV N.length xs ds) (L2.start N (.ref a :: ws))) H (Z ρ' σ') H' → ∀ b o, H b = some o → b ≠ a → H' b = some o := fun st b o e n => st.keep b o e fun z => n (on b z)
        have slot0 : ∀ {ρ' : Rho} {σ' : St}, LkS (startV N.length xs ds) ρ' (L2.start N (.ref a :: ws)) σ' → (∃ zs, ρ'[0]? = some (some (.own true zs))) ∧ σ'[0]? = some (some (.ref a)) := fun lk => by
          obtain ⟨h1, h2⟩ := lk.pin 0 xs (by rw [hρ]; rfl)
          exact ⟨h1, h2.trans (by rw [hσ]; rfl)⟩
        refine ⟨B, startV N.length xs ds, o, by rw [hρ, hσ]; simp [hd], er, eo, ?_⟩
        rcases fin_some ef with ⟨ρ', rfl, rfl⟩ | ⟨q, ρ', rfl⟩
        · intro σ' H' lk st er'
          obtain ⟨⟨zs, h1⟩, h2⟩ := slot0 lk
          have ez : xs' = zs := by
            have ev : (ownAt ρ' 0).map (·.2) = some xs' := ev
            unfold ownAt at ev
            rw [h1] at ev
            exact (Option.some.inj ev).symm
          subst ez
          obtain ⟨a', us', ea, hus, rus, _⟩ := er'.own _ _ _ (mem_Z h1 h2)
          cases ea
          refine k .non H' us' (keepH st) hus (rus.mono fun (b : Addr) z => ?_) (rep_non (K := K) (H := H') (A := fun b => B b ∨ b = a))
          · rcases z with (z | z) | z
            · exact .inl z
            · subst z; exact .inr ⟨true, _, mem_Z h1 h2⟩
            · obtain ⟨⟨_, z⟩, _⟩ := z; cases z
        · intro v σ' H' hl' lk st rr
          obtain ⟨⟨zs, h1⟩, h2⟩ := slot0 lk
          have ez : xs' = zs := by
            have ev : (ownAt ρ' 0).map (·.2) = some xs' := ev
            unfold ownAt at ev
            rw [h1] at ev
            exact (Option.some.inj ev).symm
          subst ez
          obtain ⟨a', us', ea, hus, rus, _⟩ := rr.er.own _ _ _ (List.mem_append_left _ (mem_Z h1 h2))
          cases ea
          have own0 : ∀ b, Own (Z ρ' σ') b → (∃ (i : Nat) (xs : List D), ρ'[i]? = some (some (Slot.own false xs)) ∧ σ'[i]? = some (some (V.ref b))) → H b = none := fun b z ⟨i, ys, f1, f2⟩ => Classical.byContradiction fun n => by
            have e := on b (st.own b n z)
            subst e
            exact own_two rr.er.left.nd h1 h2 f1 f2
          rcases fin_rn hl' rr own0 ef with z | ⟨i, ws', b, rfl, rfl, rfl, e1, e2, n⟩
          · refine k v H' us' (keepH st) hus (rus.mono fun b z => ?_) (z.mono fun b z => z.imp id fun z => by subst z; exact ⟨true, _, mem_Z h1 h2⟩)
            rcases z with (z | z) | z
            · exact .inl z
            · subst z; exact .inr (own_app.mpr (.inl ⟨true, _, mem_Z h1 h2⟩))
            · obtain ⟨⟨ys, z1⟩, z2⟩ := z
              subst z1 z2
              obtain ⟨ys', e1⟩ := fin_own ef
              rcases e1 with rfl | ⟨i, rfl, e3⟩
              · exact .inr (own_app.mpr (.inr (own_cons.mpr (.inl ⟨false, _, rfl⟩))))
              · obtain ⟨w, ew, ei⟩ := rr.bo 0 i rfl
                have ew : V.ref b = w := by simpa using ew
                subst ew
                exact .inr (own_app.mpr (.inl ⟨_, _, mem_Z e3 ei⟩))
          · obtain ⟨b', us2, ea, hus2, rus2, nb2⟩ := rr.er.left.own _ _ _ (mem_Z e1 e2)
            cases ea
            refine k _ H' us' (keepH st) hus (rus.mono fun c z => ?_) ⟨b, us2, rfl, n, hus2, rus2.mono fun c w => ?_⟩
            · rcases z with (z | z) | z
              · exact .inl z
              · subst z; exact .inr (own_app.mpr (.inl ⟨true, _, mem_Z h1 h2⟩))
              · obtain ⟨_, z2⟩ := z
                cases z2
                exact .inr (own_app.mpr (.inl ⟨false, ws', mem_Z e1 e2⟩))
            · rcases w with (w | w) | w
              · exact .inl w
              · subst w; exact .inr ⟨true, _, mem_Z h1 h2⟩
              · subst w; exact .inr ⟨false, ws', mem_Z e1 e2⟩
end

section
variable {P : Program} {w : World} {K : PySem.W.Frag} {mg : Str → Option Value} {base : Heap} {k : Nat} {f : Addr} {fd : FuncData} {N ps : List Str} {x : Str} {st : Stmt} {t : TSD}
/-- what a body may use: the context at its entry -/
structure Ctx (P : Program) (w : World) (K : PySem.W.Frag) (mg : Str → Option Value) (base : Heap) (N : List Str) (scope : Scope) (k : Nat) (X : Cx) : Prop where
  prog : X.prog = P
  w : X.w = w
  K : X.K = K
  mg : X.mg = mg
  base : X.base = base
  N : X.N = N
  sc : X.env.scope = scope
  calm : X.calm = true
  room : Room k X.A
  gd : X.A.guards = some []
theorem fn_p (F : L2.Fun K x x st f fd) (S : FnScope N ps (defScope st))
    (hb : ∀ (cdv : Value) (A : Around) (outer : List Env) (s : Shared) (H : Hp) (E : XK), Room k (A.deeper (envOfC x (defScope st) s.heap.objs.size f cdv)) → (A.deeper (envOfC x (defScope st) s.heap.objs.size f cdv)).guards = some [] →
      DSs (cxOf CX0 P w K mg base N x (defScope st) f cdv A outer s H E).nox (defBody st) t) : FnG P w K mg base CX0 (k + 1) f fd ps (spP K ps.length (runP N.length t)) := by
  obtain ⟨oc, od, kV, doc, pm, an, cdv, ct, osl, rfl, lk, hcd⟩ := F.ex
  refine fn_g lk hcd S (fun vs H Q E ⟨_, _, _, h, _⟩ => h) fun A outer s H vs Q E hr hg hsp => ?_
  exact ⟨_, (show PSs _ _ _ from hb cdv A outer s H E hr hg).nox, run_read (E := E) hsp⟩
theorem fn_v (F : L2.Fun K x x st f fd) (S : FnScope N ps (defScope st))
    (hb : ∀ (cdv : Value) (A : Around) (outer : List Env) (s : Shared) (H : Hp) (E : XK), Room k (A.deeper (envOfC x (defScope st) s.heap.objs.size f cdv)) → (A.deeper (envOfC x (defScope st) s.heap.objs.size f cdv)).guards = some [] →
      DSs (cxOf CX0 P w K mg base N x (defScope st) f cdv A outer s H E).nox (defBody st) t) : FnG P w K mg base CX0 (k + 1) f fd ps (spV K ps.length (runV N.length t)) := by
  obtain ⟨oc, od, kV, doc, pm, an, cdv, ct, osl, rfl, lk, hcd⟩ := F.ex
  have hN : ps.length ≤ N.length := by have := congrArg List.length S.pre; rw [List.length_take] at this; omega
  refine fn_g lk hcd S (fun vs H Q E ⟨_, _, _, ws, _, _, _, _, e, h, _⟩ => by rw [e]; exact h) fun A outer s H vs Q E hr hg hsp => ?_
  exact ⟨_, (show PSs _ _ _ from hb cdv A outer s H E hr hg).nox, runV_read (E := E) hN hsp⟩
theorem fn_none {n : Nat} (h : n = ps.length) : FnG P w K mg base CX0 k f fd ps (spV K n fun _ _ => none) :=
  ⟨fun vs H Q E ⟨_, _, _, _, _, _, _, _, _, _, _, _, _, _, _, e, _⟩ => (by cases e), fun A outer s H args us vs Q E _ _ _ _ _ ⟨_, _, _, _, _, _, _, _, _, _, _, _, _, _, _, e, _⟩ => (by cases e)⟩
end
end Dn

set_option Elab.async false
set_option linter.all false
set_option maxRecDepth 100000
set_option maxHeartbeats 2000000
namespace Dn
open PySem PySem.Spec PyProof.Rows L2

/-! ### an empty dict -/
def dEmp : TD := fun ρ => some (.v (.dict []), ρ)
theorem de_emp {X : Cx} {pos : Pos} : DE X (.Dict [] [] pos) dEmp := pe_weak pe_dnewK fun σ H Q h => by
  obtain ⟨B, ρ, r, ρ', hl, er, e, k⟩ := h
  cases e
  intro p np
  refine k (.ref p) _ (.refl _) (.same (upd_same_of np)) (RN.rss (H0 := H) er (upd_same_of np) (fun _ h => h) ?_)
  show Rep _ _ _ _ _
  unfold Rep
  refine ⟨p, [], rfl, fun z => ?_, upd_same⟩
  rcases z with z | z
  · exact er.trk p z np
  · obtain ⟨vs, e⟩ := er.lst z
    rw [np] at e; cases e

/-! ### constants of the module -/
mutual
def KD (K : PySem.W.Frag) : D → Value → Prop
  | .none, u => u = .none
  | .bool b, u => u = .bool b
  | .int i, u => ∃ t, u = .int i t
  | .str i, u => ∃ t, u = .str i t
  | .tuple ds, u => ∃ (a : Addr) (o : Obj) (its : List Value) (n : Nat), u = .ref a ∧ K.lookup a = some o ∧ o.cls = .type "tuple" ∧ o.data = .seq its.toArray n ∧ ds.length ≤ 1000 ∧ KDs K ds its
  | _, _ => False
def KDs (K : PySem.W.Frag) : List D → List Value → Prop
  | [], us => us = []
  | d :: ds, us => ∃ u r, us = u :: r ∧ KD K d u ∧ KDs K ds r
end
mutual
theorem KD.rep {K : PySem.W.Frag} : ∀ {d : D} {u : Value}, KD K d u → ∃ v, RelV v u ∧ ∀ H A, Rep K H A d v
  | .none, u, h => by unfold KD at h; subst h; exact ⟨.non, rfl, fun H A => rep_non⟩
  | .bool b, u, h => by unfold KD at h; subst h; exact ⟨.bl b, rfl, fun H A => rep_bl⟩
  | .int i, u, h => by unfold KD at h; exact ⟨.int i, h, fun H A => rep_int⟩
  | .str i, u, h => by unfold KD at h; exact ⟨.str i, h, fun H A => rep_str⟩
  | .tuple ds, u, h => by
    unfold KD at h
    obtain ⟨a, o, its, n, e, e1, e2, e3, e4, hs⟩ := h
    obtain ⟨vs, r, hr⟩ := KDs.rep hs
    refine ⟨.ref a, e, fun H A => ?_⟩
    have rp := hr H A
    unfold Rep
    refine ⟨a, vs, rfl, .inr ⟨o, its.toArray, n, e1, e2, e3, ?_, r⟩, rp⟩
    rw [List.size_toArray, ← r.length, rp.len]
    exact lt1000 e4
  | .list _, u, h => by unfold KD at h; exact h.elim
  | .dict _, u, h => by unfold KD at h; exact h.elim
theorem KDs.rep {K : PySem.W.Frag} : ∀ {ds : List D} {us : List Value}, KDs K ds us → ∃ vs, Vals vs us ∧ ∀ H A, RepA K H A ds vs
  | [], us, h => by unfold KDs at h; subst h; exact ⟨[], .nil, fun H A => .nil⟩
  | d :: ds, us, h => by
    unfold KDs at h
    obtain ⟨u, r, rfl, h1, h2⟩ := h
    obtain ⟨v, rv, hv⟩ := KD.rep h1
    obtain ⟨vs, rs, hs⟩ := KDs.rep h2
    exact ⟨v :: vs, .cons rv rs, fun H A => .cons (hv H A) (hs H A)⟩
end
def KGl (K : PySem.W.Frag) (mg : Str → Option Value) (x : Str) (d : D) : Prop := ∃ u, mg x = some u ∧ KD K d u
theorem de_gl {X : Cx} {pos : Pos} {x : Str} {d : D} (h : KGl X.K X.mg x d) (hg : Gl X x) (hd : (x == ("__debug__" : Str)) = false) : DE X (.Name x pos) (dCon d) := by
  obtain ⟨u, e, k⟩ := h
  obtain ⟨v, r, hr⟩ := k.rep
  exact de_glob hg e r hr hd

/-! ### defs, to be called -/
section
variable (P : Program) (w : World) (K : PySem.W.Frag) (mg : Str → Option Value) (base : Heap)
def runF (n N : Nat) (t : TSD) (ds : List D) : Option R := if ds.length = n then runP N t ds else none
def runW (n N : Nat) (t : TSD) (xs ds : List D) : Option (R × List D) := if ds.length + 1 = n then runV N t xs ds else none
def Raw (x : Str) (st : Stmt) : Prop := ∃ f fd, mg x = some (.ref f) ∧ L2.Fun K x x st f fd
structure CalP (k : Nat) (x : Str) (st : Stmt) (ps : List Str) (F : List D → Option R) : Prop where
  ex : ∃ f fd, mg x = some (.ref f) ∧ L2.Fun K x x st f fd ∧ Binds K fd ps [] ∧ FnG P w K mg base CX0 k f fd ps (spP K ps.length F)
  len : ∀ ds r, F ds = some r → ds.length = ps.length
structure CalV (k : Nat) (x : Str) (st : Stmt) (ps : List Str) (G : List D → List D → Option (R × List D)) : Prop where
  ex : ∃ f fd, mg x = some (.ref f) ∧ L2.Fun K x x st f fd ∧ Binds K fd ps [] ∧ FnG P w K mg base CX0 k f fd ps (spV K ps.length G)
  len : ∀ xs ds r, G xs ds = some r → ds.length + 1 = ps.length
/-- how a def's arguments bind -/
def BindOk (x : Str) (st : Stmt) (ps ks : List Str) (ix : List Nat) : Prop := ∀ (kV doc pm : Value) (an : Option Addr) (cdv ct : Value) (ws : List Value), ws.length = ks.length →
  bindArgs (PySem.W.fnOf x x (defArgs st) (defBody st) (defScope st) .none kV doc pm an cdv ct) ⟨[], ks.zip ws⟩ = pure (ps.zip (reord ix ws))
def BindP (x : Str) (st : Stmt) (ps : List Str) : Prop := ∀ (kV doc pm : Value) (an : Option Addr) (cdv ct : Value) (us : List Value), us.length = ps.length →
  bindArgs (PySem.W.fnOf x x (defArgs st) (defBody st) (defScope st) .none kV doc pm an cdv ct) ⟨us, []⟩ = pure (ps.zip us)
end
section
variable {P : Program} {w : World} {K : PySem.W.Frag} {mg : Str → Option Value} {base : Heap} {k : Nat} {x : Str} {st : Stmt} {N ps ks : List Str} {t : TSD} {F : List D → Option R} {G : List D → List D → Option (R × List D)}
theorem CalP.up {j : Nat} (h : CalP P w K mg base j x st ps F) (hj : j ≤ k) : CalP P w K mg base k x st ps F := by
  obtain ⟨⟨f, fd, a, b, c, d⟩, e⟩ := h
  exact ⟨⟨f, fd, a, b, c, d.mono hj⟩, e⟩
theorem CalV.up {j : Nat} (h : CalV P w K mg base j x st ps G) (hj : j ≤ k) : CalV P w K mg base k x st ps G := by
  obtain ⟨⟨f, fd, a, b, c, d⟩, e⟩ := h
  exact ⟨⟨f, fd, a, b, c, d.mono hj⟩, e⟩
/-- what a body's derivation is asked for -/
def Body (P : Program) (w : World) (K : PySem.W.Frag) (mg : Str → Option Value) (base : Heap) (k : Nat) (x : Str) (st : Stmt) (N : List Str) (t : TSD) : Prop :=
  ∀ (f : Addr) (cdv : Value) (A : Around) (outer : List Env) (s : Shared) (H : Hp) (E : XK), Room k (A.deeper (envOfC x (defScope st) s.heap.objs.size f cdv)) → (A.deeper (envOfC x (defScope st) s.heap.objs.size f cdv)).guards = some [] →
      DSs (cxOf CX0 P w K mg base N x (defScope st) f cdv A outer s H E).nox (defBody st) t
theorem cal_p (R : Raw K mg x st) (S : FnScope N ps (defScope st)) (bd : BindP x st ps) (hb : Body P w K mg base k x st N t) : CalP P w K mg base (k + 1) x st ps (runF ps.length N.length t) := by
  obtain ⟨f, fd, hm, FF⟩ := R
  refine ⟨⟨f, fd, hm, FF, FF.binds bd, (fn_p FF S (hb f)).imp fun vs H Q E h => ?_⟩, fun ds r h => ?_⟩
  · obtain ⟨B, ds, r, hl, hB, rep, e, kk⟩ := h
    unfold runF at e
    split at e
    · exact ⟨B, ds, r, hl, hB, rep, e, kk⟩
    · cases e
  · unfold runF at h
    split at h
    · assumption
    · cases h
theorem cal_v (R : Raw K mg x st) (S : FnScope N ps (defScope st)) (bd : BindP x st ps) (hb : Body P w K mg base k x st N t) : CalV P w K mg base (k + 1) x st ps (runW ps.length N.length t) := by
  obtain ⟨f, fd, hm, FF⟩ := R
  refine ⟨⟨f, fd, hm, FF, FF.binds bd, (fn_v FF S (hb f)).imp fun vs H Q E h => ?_⟩, fun xs ds r h => ?_⟩
  · obtain ⟨B, a, us, ws, xs, ds, r, xs', h1, h2, h3, h4, h5, h6, h7, e, kk⟩ := h
    unfold runW at e
    split at e
    · exact ⟨B, a, us, ws, xs, ds, r, xs', h1, h2, h3, h4, h5, h6, h7, e, kk⟩
    · cases e
  · unfold runW at h
    split at h
    · assumption
    · cases h
theorem cal_v0 (R : Raw K mg x st) (bd : BindP x st ps) : CalV P w K mg base k x st ps (fun _ _ => none) := by
  obtain ⟨f, fd, hm, FF⟩ := R
  exact ⟨⟨f, fd, hm, FF, FF.binds bd, fn_none rfl⟩, fun _ _ _ h => nomatch h⟩
theorem cal_p0 (R : Raw K mg x st) (bd : BindP x st ps) : CalP P w K mg base k x st ps (fun _ => none) := by
  obtain ⟨f, fd, hm, FF⟩ := R
  exact ⟨⟨f, fd, hm, FF, FF.binds bd, ⟨fun vs H Q E ⟨_, _, _, h, _⟩ => h, fun A outer s H args us vs Q E _ _ _ _ _ ⟨_, _, _, _, _, _, e, _⟩ => nomatch e⟩⟩, fun _ _ h => nomatch h⟩
variable {X : Cx} {p pos : Pos} {e : Expr} {es : List Expr} {kws : List Keyword} {ts : TDs}
theorem de_p (C : CalP X.prog X.w X.K X.mg X.base k x st ps F) (hr : Room k X.A) (hG : X.A.guards = some []) (hg : Gl X x)
    (ha : DA X (e :: es) ts) (hdb : (x == ("__debug__" : Str)) = false) (he : starEach (e :: es) X.env = (false, eval e X.env) :: starEach es X.env) (hpl : (backTo pos (starEach es X.env)).any (·.1) = false) : DE X (.Call (.Name x p) (e :: es) [] pos) (dCall F ts) := by
  obtain ⟨⟨f, fd, hm, FF, hb, hF⟩, hn⟩ := C
  exact de_call hF hn hr hG hg hm FF.kp hb ha hdb he hpl
theorem de_v (C : CalV X.prog X.w X.K X.mg X.base k x st ps G) (hr : Room k X.A) (hG : X.A.guards = some []) (hg : Gl X x)
    (ha : DA X (e :: es) ts) (hdb : (x == ("__debug__" : Str)) = false) (he : starEach (e :: es) X.env = (false, eval e X.env) :: starEach es X.env) (hpl : (backTo pos (starEach es X.env)).any (·.1) = false) : DE X (.Call (.Name x p) (e :: es) [] pos) (dCallV G ts) := by
  obtain ⟨⟨f, fd, hm, FF, hb, hF⟩, hn⟩ := C
  exact de_callV hF hn hr hG hg hm FF.kp hb ha hdb he hpl
theorem de_k {ix : List Nat} (C : CalP X.prog X.w X.K X.mg X.base k x st ps F) (hb : BindOk x st ps ks ix) (hr : Room k X.A) (hG : X.A.guards = some []) (hg : Gl X x)
    (ha : DK X kws ts) (hall : (backToKw pos (keywordEach kws X.env)).all (·.1.isSome) = true) (hks : (backToKw pos (keywordEach kws X.env)).filterMap (·.1) = ks) (hdb : (x == ("__debug__" : Str)) = false)
    (hpl : ((backTo pos (starEach [] X.env)).any (·.1) || (backToKw pos (keywordEach kws X.env)).any (·.1.isNone)) = false) : DE X (.Call (.Name x p) [] kws pos) (dCallK F ks.length ix ts) := by
  obtain ⟨⟨f, fd, hm, FF, _, hF⟩, hn⟩ := C
  refine de_callK hF hn hr hG hg hm FF.kp ⟨fun s ws _ hl => ?_⟩ ha hall hks hdb hpl
  obtain ⟨oc, od, kV, doc, pm, an, cdv, ct, osl, rfl, lk, hcd⟩ := FF.ex
  exact .of_eq (hb kV doc pm an cdv ct ws hl)
theorem raw_mk {h : Heap} {f : Addr} {oc kV doc pm cdv ct : Value} {od an : Option Addr} {osl : Array (Option Value)} (KX : K.In h) (g : h.Ns mainGlobals mg) (a : PySem.W.nsIn K mainGlobals x = some (some (.ref f)))
    (l : K.lookup f = some ⟨oc, od, .func (PySem.W.fnOf x x (defArgs st) (defBody st) (defScope st) .none kV doc pm an cdv ct), osl⟩) (c : PySem.W.codeIn K cdv x = true) (kp : PySem.W.keepIn K (.ref f) = true) : Raw K mg x st :=
  ⟨f, _, PySem.W.mg_of KX g a, fun_mk l c kp⟩
end

/-! ### the end -/
section
variable {P : Program} {w : World} {K : PySem.W.Frag} {mg mb : Str → Option Value} {s₁ : Shared} {a : Addr}
theorem env0_of {H : Hp} (kin : K.In s₁.heap) (g : s₁.heap.Ns mainGlobals mg) (bl : s₁.heap.Ns builtinsNs mb) (bb : ∀ x : Str, x ≠ "__name__" → mb x = bootBuiltins x) (nl : s₁.heap.NoLimit) (ng : s₁.gens = #[])
    (ok : HOk P w H s₁.heap) (nK : ∀ b o, K.lookup b = some o → H b = none) (nD : ∀ b o es ep, s₁.heap.get? b = some o → o.data = .dict es ep → H b = none) :
    K.In (hidT s₁.heap H) ∧ (hidT s₁.heap H).Ns mainGlobals mg ∧ Env0 P w K mg (hidT s₁.heap H) callerA [] s₁ H := by
  have ns : ∀ {b : Addr} {m : Str → Option Value}, s₁.heap.Ns b m → (hidT s₁.heap H).Ns b m := by
    rintro b m ⟨o, es, ep, e, d, r⟩
    exact ⟨o, es, ep, hidT_get e (nD b o es ep e d), d, r⟩
  have k1 : K.In (hidT s₁.heap H) := fun b o e => hidT_get (kin b o e) (nK b o e)
  obtain ⟨mc, n1, n2⟩ := nl
  refine ⟨k1, ns g, ?_⟩
  constructor
  · rfl
  · exact ⟨k1, ns g, ⟨mb, ns bl, bb⟩, mc, ns n1, n2⟩
  · exact fun b o e => of_hidT e
  · exact Nat.le_of_eq (hidT_size _ _)
  · trivial
  · exact fun b z => nomatch z
  · exact ok
  · exact .of_eq ng
/-- a law's def, called with its script -/
theorem law_run {fa : Addr} {k : Nat} {x : Str} {F : List D → Option R} {vs : List Value} {ns : List Int} (kin : K.In s₁.heap) (g : s₁.heap.Ns mainGlobals mg) (bl : s₁.heap.Ns builtinsNs mb) (bb : ∀ x : Str, x ≠ "__name__" → mb x = bootBuiltins x) (nl : s₁.heap.NoLimit) (ng : s₁.gens = #[])
    (ha : s₁.heap.get? a = some { cls := .type "list", data := .seq vs.toArray }) (hi : IntsAre vs ns) (hl : ns.length ≤ 1000) (hr : Room k callerA)
    {nm : Str} {st : Stmt} (hm : mg nm = some (.ref fa)) (hF : ∀ base : Heap, K.In base → base.Ns mainGlobals mg → CalP P w K mg base k nm st [x] F) (hT : F [.list (ns.map .int)] = some (.v (.bool true))) :
    codeAny (model P w) callerA (.call (.ref fa) ⟨[.ref a], []⟩) (fun r s' => r = .ok (.ret (.bool true)) ∧ OldK s₁.heap s'.heap ∧ s'.os = s₁.os ∧ AllBare s'.gens) s₁ := by
  have rv := vals_ints hi
  have hz : (ns.map V.int).length ≤ sizeLine := by rw [List.length_map]; exact lt1000 hl
  have core : ∀ H : Hp, HOk P w H s₁.heap → (∀ b o, K.lookup b = some o → H b = none) → (∀ b u, H b = some u → b = a ∧ u = .frz { cls := .type "list", data := .seq vs.toArray } (.lst (ns.map V.int))) → LV K H a (ns.map V.int) →
      codeAny (model P w) callerA (.call (.ref fa) ⟨[.ref a], []⟩) (fun r s' => r = .ok (.ret (.bool true)) ∧ OldK s₁.heap s'.heap ∧ s'.os = s₁.os ∧ AllBare s'.gens) s₁ := by
    intro H ok nK hH lv
    have nD : ∀ b o es ep, s₁.heap.get? b = some o → o.data = .dict es ep → H b = none := fun b o es ep e d => by
      cases q : H b with
      | none => rfl
      | some u =>
        obtain ⟨rfl, _⟩ := hH b u q
        rw [ha] at e
        cases e
        cases d
    obtain ⟨k1, g1, e0⟩ := env0_of kin g bl bb nl ng ok nK nD
    have sp : spP K 1 F [.ref a] H (fun v _ => v = .bl true) (fun _ _ _ => False) := by
      refine ⟨fun _ => False, [.list (ns.map .int)], _, rfl, fun _ z => z.elim, ?_, hT, fun v H' _ r => ?_⟩
      · refine .cons ?_ .nil
        unfold Rep
        exact ⟨a, _, rfl, lv.imp (fun z => ⟨id, z⟩) id, .of_ints ns⟩
      · have r : Rep K H' (fun _ => False) (.bool true) v := r
        unfold Rep at r
        exact r
    obtain ⟨⟨f, fd, hm2, _, hb, hG⟩, _⟩ := hF _ k1 g1
    have ef := hm.symm.trans hm2
    cases ef
    refine codeAny_mono (hG.run callerA [] s₁ H ⟨[.ref a], []⟩ [.ref a] [.ref a] _ _ hr rfl e0 (hb s₁ [.ref a] kin rfl) (.cons rfl .nil) sp) fun r s' h => ?_
    match r, h with
    | .error e, h => exact h.elim
    | .ok (.ret u), ⟨v, H', os, bare, un, hok', r', q⟩ =>
      have q' : v = .bl true := q
      subst q'
      obtain rfl : u = Value.bool true := r'
      refine ⟨rfl, .of_keep fun b o e => ?_, os, bare⟩
      cases q : H b with
      | none => exact un.keep b o e q (fun z => nomatch z) (fun z => nomatch z)
      | some u =>
        obtain ⟨rfl, rfl⟩ := hH b u q
        obtain ⟨g1, _⟩ := ok b _ q
        obtain ⟨g2, _⟩ := hok' b _ (un.frzs b _ _ q)
        rw [e] at g1
        cases g1
        exact g2
  cases hk : K.lookup a with
  | some o =>
    have e := kin a o hk
    rw [ha] at e
    cases e
    exact core (fun _ => none) (fun b u z => nomatch z) (fun _ _ _ => rfl) (fun b u z => nomatch z) (.inr ⟨vs, _, hk, hz, rv⟩)
  | none =>
    have one : ∀ b u, (if b = a then some (HO.frz { cls := .type "list", data := .seq vs.toArray } (.lst (ns.map V.int))) else none) = some u → b = a ∧ u = .frz { cls := .type "list", data := .seq vs.toArray } (.lst (ns.map V.int)) := fun b u z => by
      split at z
      · cases z; exact ⟨by assumption, rfl⟩
      · cases z
    refine core (fun b => if b = a then some (.frz { cls := .type "list", data := .seq vs.toArray } (.lst (ns.map V.int))) else none) (fun b u z => ?_) (fun b o z => ?_) one (.inl (.inr ⟨_, if_pos rfl⟩))
    · obtain ⟨rfl, rfl⟩ := one b u z
      exact ⟨ha, hz, vs, _, rv, ha⟩
    · refine if_neg fun q => ?_
      rw [q, hk] at z
      cases z
/-- a law's row from its def's run -/
theorem walk_g {l : PySem.W.OpenLaw} {n k : Nat} {q : Program} {loose : List Str} {XP : (Str → Option Value) → Heap → Prop} {YP : World → Heap → Prop} {d : DefRec} {K : Params → PySem.W.Frag} {x : Str} {st : Stmt} {F : List D → Option R}
    (hn : l.most = some n) (hn2 : n ≤ 1000) (hdf : d.params.defaults = []) (hr : Room k callerA) (hY : ∀ (w : World) (h : Heap), YP w h → (K w.params).In h)
    (hF : ∀ (w : World) (mg : Str → Option Value) (h : Heap), (K w.params).In h → h.Ns mainGlobals mg → ∀ base : Heap, (K w.params).In base → base.Ns mainGlobals mg → CalP l.prog w (K w.params) mg base k d.name st [x] F)
    (hT : ∀ ns : List Int, ns.length ≤ n → (∀ z ∈ ns, Builtin.Int.intBits z ≤ 1048576) → F [.list (ns.map .int)] = some (.v (.bool true))) :
    PySem.W.WalkO q loose XP YP l.row.toRowW d [] (fun f vs => PySem.call f vs) := by
  refine Att.attach_callB hn hdf fun w s₀ s₁ mg mb fa o pm cd doc a vs ns G Y ho hd hcd hmg hobj hints hlen hbits hg => ?_
  have kin := hY w _ Y
  exact law_run kin G.T.g G.T.b G.T.builtins G.T.nolimit hg hobj hints (Nat.le_trans hlen hn2) hr hmg (hF w mg _ kin G.T.g) (hT ns hlen hbits)
end
end Dn

set_option Elab.async false
set_option linter.all false
set_option maxRecDepth 100000
set_option maxHeartbeats 2000000
namespace Dn
open PySem PySem.Spec PyProof.Rows L2
def visB (sc : Scope) (x : Str) : Bool := match sc.names.lookup x with
  | some .local => true
  | some .cell => true
  | some .free => true
  | _ => false
def locB (sc : Scope) (x : Str) : Bool := match sc.names.lookup x with
  | some .local => true
  | some .cell => true
  | _ => false
def lcB (sc : Scope) (x : Str) : Bool := match sc.names.lookup x with
  | some .local => true
  | _ => false
theorem vis_of {sc : Scope} {x : Str} (h : visB sc x = true) : Vis sc x := by
  unfold visB at h
  split at h
  · exact .inl (by assumption)
  · exact .inr (.inl (by assumption))
  · exact .inr (.inr (by assumption))
  · cases h
theorem loc_of {sc : Scope} {x : Str} (h : locB sc x = true) : Loc sc x := by
  unfold locB at h
  split at h
  · exact .inl (by assumption)
  · exact .inr (by assumption)
  · cases h
theorem lfn_of {X : Cx} {x : Str} (h : (X.fn x || lcB X.env.scope x) = true) : X.fn x = true ∨ X.env.scope.names.lookup x = some .local := by
  rcases Bool.or_eq_true_iff.mp h with h | h
  · exact .inl h
  · unfold lcB at h
    split at h
    · exact .inr (by assumption)
    · cases h
theorem huo {A : Around} {k : Nat} (hr : Room k A) : A.units + 65 < cLine := by have := hr.un; omega
theorem hur {A : Around} {k : Nat} (hr : Room k A) : A.units + 70 < cLine := by have := hr.un; omega
theorem bt_len : bootBuiltins "len" = some (.builtin "len") := by decide +kernel
theorem bt_abs : bootBuiltins "abs" = some (.builtin "abs") := by decide +kernel
theorem bt_sum : bootBuiltins "sum" = some (.builtin "sum") := by decide +kernel
theorem bt_divmod : bootBuiltins "divmod" = some (.builtin "divmod") := by decide +kernel
theorem bt_max : bootBuiltins "max" = some (.builtin "max") := by decide +kernel
theorem bt_min : bootBuiltins "min" = some (.builtin "min") := by decide +kernel
theorem bt_all : bootBuiltins "all" = some (.builtin "all") := by decide +kernel
theorem bt_any : bootBuiltins "any" = some (.builtin "any") := by decide +kernel
theorem bt_sorted : bootBuiltins "sorted" = some (.builtin "sorted") := by decide +kernel
theorem bt_repr : bootBuiltins "repr" = some (.builtin "repr") := by decide +kernel
theorem bt_tuple : bootBuiltins "tuple" = some (.type "tuple") := by decide +kernel
theorem bt_list : bootBuiltins "list" = some (.type "list") := by decide +kernel
theorem bt_int : bootBuiltins "int" = some (.type "int") := by decide +kernel
theorem bt_str : bootBuiltins "str" = some (.type "str") := by decide +kernel
theorem bt_bool : bootBuiltins "bool" = some (.type "bool") := by decide +kernel
theorem bt_dict : bootBuiltins "dict" = some (.type "dict") := by decide +kernel
section
variable {K : PySem.W.Frag} {a : Addr} {o : Obj} {its : List Value} {n : Nat} {ds : List D} {d : D} {u : Value} {us : List Value}
theorem kd_tup (q : K.lookup a = some o) (c : o.cls = .type "tuple") (e : o.data = .seq its.toArray n) (l : ds.length ≤ 1000) (h : KDs K ds its) : KD K (.tuple ds) (.ref a) := by
  unfold KD
  exact ⟨a, o, its, n, rfl, q, c, e, l, h⟩
theorem kd_int {i : Int} {t : Tok} : KD K (.int i) (.int i t) := by unfold KD; exact ⟨t, rfl⟩
theorem kd_str {i : Str} {t : Tok} : KD K (.str i) (.str i t) := by unfold KD; exact ⟨t, rfl⟩
theorem kd_bl {i : Bool} : KD K (.bool i) (.bool i) := by unfold KD; rfl
theorem kd_non : KD K .none .none := by unfold KD; rfl
theorem kds_nil : KDs K [] [] := by unfold KDs; rfl
theorem kds_cons (h : KD K d u) (hs : KDs K ds us) : KDs K (d :: ds) (u :: us) := by unfold KDs; exact ⟨u, us, rfl, h, hs⟩
theorem kgl {mg : Str → Option Value} {x : Str} (m : mg x = some u) (h : KD K d u) : KGl K mg x d := ⟨u, m, h⟩
end
end Dn

set_option Elab.async false
set_option linter.all false
set_option maxRecDepth 100000
set_option maxHeartbeats 2000000
namespace Dn
open PySem PySem.Spec PyProof.Rows L2
/-- a dict of one text and one number -/
def dDic (d : D) : TD := fun ρ => some (.v d, ρ)
theorem de_dic {X : Cx} {k : Str} {i : Int} {j1 j2} {p1 p2 pos : Pos} : DE X (.Dict [some (.Constant (.str k) j1 p1)] [.Constant (.int i) j2 p2] pos) (dDic (.dict [(.str k, .int i)])) :=
  pe_weak (pe_disp (pps_cons pe_str pe_int pps_nil) rfl rfl (by simp) (by simp)) fun σ H Q h => by
    obtain ⟨B, ρ, r, ρ', hl, er, e, kk⟩ := h
    cases e
    intro p np
    have sm : Same H (upd H p (.dK [])) := upd_same_of np
    refine ⟨upd_same, [(.inr k, .int i)], rfl, by simp, ?_⟩
    have sm2 : Same H (upd (upd H p (.dK [])) p (.dK (mergeK [] [(.inr k, .int i)]))) := fun b o q => by
      have nb := ne_of_none q np
      rw [upd_ne nb, upd_ne nb]
      exact q
    refine kk (.ref p) _ (.refl _) (.same sm2) (RN.rss (H0 := H) er sm2 (fun _ h => h) ?_)
    show Rep _ _ _ _ _
    unfold Rep
    refine ⟨p, _, rfl, fun z => ?_, upd_same⟩
    rcases z with z | z
    · exact er.trk p z np
    · obtain ⟨vs, e⟩ := er.lst z
      rw [np] at e; cases e
end Dn

set_option Elab.async false
set_option linter.all false
set_option maxRecDepth 100000
set_option maxHeartbeats 2000000
namespace Dn
open PySem PySem.Spec PyProof.Rows L2

/-! ### enumerate of a tuple -/
def IteT (K : PySem.W.Frag) (a : Addr) : It :=
  ⟨fun i H => ∃ (xs : List V) (x : V), SqT K H a xs ∧ xs[i]? = some x, fun i H v H' => ∃ T x, v = .ref T ∧ H T = none ∧ H' = upd H T (.tup [.int (i : Nat), x]) ∧ ∀ xs, SqT K H a xs → xs[i]? = some x,
    fun i H => ∃ xs : List V, SqT K H a xs ∧ xs.length ≤ i⟩
theorem turn_enumT {P : Program} {w : World} {K : PySem.W.Frag} {elts : List Expr} {kk : Nat} {tpos : Pos} (a e it : Addr) (ea : e ≠ a) (ai : a ≠ it) (ei : e ≠ it) :
    Turn P w K (.Tuple elts kk tpos) (IteT K a) [e, it] e (fun i h => (∃ old, IsEnum h e it ((i : Nat) : Int) old) ∧ h.IsTupleIter it a i) where
  mem := List.mem_cons_self
  obj := fun i h st b hb => by
    obtain ⟨⟨old, he⟩, o, ho, hc, hd⟩ := st
    rcases List.mem_cons.mp hb with z | z
    · subst z; exact ⟨_, he, fun v q => (nomatch q)⟩
    · rw [List.mem_singleton.mp z]
      exact ⟨o, ho, fun v q => by rw [hd] at q; cases q⟩
  keep := fun i h h' st k => by
    obtain ⟨⟨old, he⟩, hi⟩ := st
    exact ⟨⟨old, k e List.mem_cons_self _ he⟩, hi.at fun o q => k it (by simp) o q⟩
  item := by
    intro X hP hw hK hc i pins s σ H E I hf st hg
    subst hP hw hK
    obtain ⟨⟨old, he⟩, hit⟩ := st
    obtain ⟨xs, x, hq, hx⟩ := hg
    obtain ⟨its, rv, p, hz⟩ := I.tuple hq
    obtain ⟨u, hu, ru⟩ := rv.get hx
    have li : i < its.length := (List.getElem?_eq_some_iff.mp hu).1
    have le : e < s.heap.objs.size := Heap.lt_size he
    have lt : it < s.heap.objs.size := by obtain ⟨_, q, _⟩ := hit; exact Heap.lt_size q
    have D := Draws.tuple (prog := X.prog) (w := X.w) (A := X.A.in1) (I.ok.hd hc) it a ai its.toArray
    refine wpAny_pyNext_enum_itemD D he ⟨hit, show s.heap.IsTuple a its.toArray from p⟩ (by simpa using li) ei (by simp [ei, ea]) fun y h1 tk hy ho st1 hT hsz hk => ?_
    have ey : y = u := by
      have hu' : its.toArray[i]? = some u := by simpa using hu
      exact Option.some.inj (hy.symm.trans hu')
    subst ey
    refine ⟨_, rfl, wpAny_letOwnedTupleGo_enum (s := { s with heap := h1, toks := tk + 1 }) ho fun h2 he2 sb => ?_⟩
    have hT2 : h2.get? s.heap.objs.size = some { cls := .type "tuple", data := .seq #[.int i tk, y] } := (sb.2 _ (Nat.ne_of_gt le)).trans hT
    have new : ObjOk X.prog X.w (upd H s.heap.objs.size (.tup [.int (i : Nat), x])) h2 s.heap.objs.size (.tup [.int (i : Nat), x]) := by
      refine ⟨?_, [.int i tk, y], .cons ⟨_, rfl⟩ (.cons ru .nil), _, hT2, rfl, _, rfl⟩
      show 2 ≤ sizeLine
      decide
    have I1 : Inv X pins σ (upd H s.heap.objs.size (.tup [.int (i : Nat), x])) { s with heap := h2, toks := tk + 1 } := by
      refine I.turnedNew (ch := [e, it]) (fun b ob hb q => ?_) hf (Nat.le_refl _) new
      have be : b ≠ e := fun z => hb (by rw [z]; exact List.mem_cons_self)
      have bi : b ≠ it := fun z => hb (by rw [z]; simp)
      exact (sb.2 b be).trans (hk b ob be bi q)
    refine ⟨.ref s.heap.objs.size, _, I1, rfl, ⟨_, x, rfl, I.hok.fresh (Nat.le_refl _), rfl, fun ys hy' => by rw [I.tuple_inj hy' hq]; exact hx⟩, ⟨⟨y, ?_⟩, ?_⟩, fun b hb => ?_⟩
    · have e1 : ((i + 1 : Nat) : Int) = (i : Int) + 1 := by omega
      rw [e1]
      exact he2
    · exact st1.1.at fun o q => (sb.2 it (Ne.symm ei)).trans q
    · have lb : b < s.heap.objs.size := by
        rcases List.mem_cons.mp hb with z | z
        · rw [z]; exact le
        · rw [List.mem_singleton.mp z]; exact lt
      rw [upd_ne (Nat.ne_of_lt lb)]
      exact (hf b hb).1
  done := by
    intro X hP hw hK hc i pins s σ H E I hf st hg
    subst hP hw hK
    obtain ⟨⟨old, he⟩, hit⟩ := st
    obtain ⟨xs, hq, hx⟩ := hg
    obtain ⟨its, rv, p, hz⟩ := I.tuple hq
    obtain ⟨f0, f1, f2, f3, f4, f5⟩ := hf it (by simp)
    have hl := rv.length
    have D : Draws X.prog X.w X.A.in1 it [it, a] i (fun _ _ => True) (fun j h => j = i ∧ h.IsTupleIter it a i ∧ h.IsTuple a its.toArray) :=
      { live := fun j h st => by obtain ⟨_, ⟨o, ho, _⟩, _⟩ := st; exact ⟨o, ho⟩
        frame := fun j h h' st k => ⟨st.1, st.2.1.at fun o q => k it (by simp) o q, st.2.2.at fun o q => k a (by simp) o q⟩
        item := fun j s Q E hj st _ => by have := st.1; omega
        done := fun s Q E st hE => wpAny_nextOf_tuple_end (I.ok.hd hc) st.2.1 st.2.2 (by simp; omega) hE }
    exact wpAny_pyNext_enum_endD D he ⟨rfl, hit, show s.heap.IsTuple a its.toArray from p⟩ fun h' eb => ⟨rfl, I.turned (t' := s.toks) (fun b o hb q => eb b o hb q) f0 f1 f3 f4 f5⟩
  self := fun A i s Q E st h => by
    obtain ⟨⟨_, he⟩, _⟩ := st
    exact wpAny_pyIter_enum he h
def iEnumA (K : PySem.W.Frag) (ta : TA) : TI := fun σ H R => ta σ H fun vs H1 => ∃ a xs, vs = [.ref a] ∧ ((SqL K H1 a xs ∧ R (Ite K a) H1) ∨ (SqT K H1 a xs ∧ R (IteT K a) H1))
theorem walk_enumT {K : PySem.W.Frag} {a : Addr} {xs : List V} : Walk (IteT K a) xs.length (fun H => SqT K H a xs) (YPair (fun i => some (.int (i : Nat))) (fun i => xs[i]?)) := by
  refine ⟨fun i H hi q => ?_, fun H q => ⟨xs, q, Nat.le_refl _⟩, fun i H v H' _ q y => ?_⟩
  · exact ⟨xs, xs[i]'(by omega), q, by simp⟩
  · obtain ⟨T, x, h1, h2, h3, h4⟩ := y
    exact ⟨T, _, x, h1, h2, h3, rfl, h4 xs q⟩
theorem new_enumB {v : Value} {o : Obj} {Hh : Heap → Prop} (B : Begins v o Hh) : Meets (Builtin.«enumerate.__new__» ⟨[.type "enumerate", v], []⟩) (fun _ R s => Hh s.heap ∧
      R (.ok (.ret (.ref (s.heap.push o).objs.size))) { s with heap := (s.heap.push o).push { cls := .type "enumerate", data := .fields #[.none, .bool false, .ref s.heap.objs.size, rawInt 0, .none, .none] } }) := by
  refine .of_wp fun prog w A R s ⟨h1, h⟩ => ?_
  obtain ⟨hp, g, d, tk, os⟩ := s
  have hsub := sub_enumerate
  have begin_ : ∀ {A' : Around} {E Q : Value → Shared → Prop}, Q (.ref hp.objs.size) ⟨hp.push o, g, d, tk, os⟩ → wpAny (model prog w) A' (pyIter v) Q E ⟨hp, g, d, tk, os⟩ := fun q => B.iter prog w _ _ ⟨hp, g, d, tk, os⟩ _ h1 q
  wp_walk using begin_
  refine wpAny_stack_any fun stk => wpAny_pure ?_
  split
  · rename_i c _ _ _ _ _
    cases (c == Value.type "enumerate") <;> (wp_walk using begin_; exact ⟨_, rfl, h⟩)
  · wp_walk using begin_
    exact ⟨_, rfl, h⟩
theorem call_enumT {prog : Program} {w : World} {A : Around} {E : Value → Shared → Prop} {s : Shared} {t : Addr} {items : Array Value} {Q : Value → Shared → Prop} (ht : s.heap.IsTuple t items)
    (h : ∀ h', IsEnum h' (s.heap.objs.size + 1) s.heap.objs.size 0 .none → h'.IsTupleIter s.heap.objs.size t 0 → (∀ b o, s.heap.get? b = some o → h'.get? b = some o) → Q (.ref (s.heap.objs.size + 1)) { s with heap := h' }) :
    wpAny (model prog w) A (call (.type "enumerate") [.ref t]) Q E s := by
  refine callType_new F.called_enumerate (by decide) (F.typeCall_enumerate_1 _) (F.newCall_enumerate_1 _) (fun obj => F.args_object_init_2 obj _) F.entry_enumerate_new (new_enumB (begins_tuple t items)) ⟨ht, ?_⟩
  have sz : ∀ o : Obj, (s.heap.push o).objs.size = s.heap.objs.size + 1 := fun o => Heap.size_push ..
  have old : ∀ (o1 o2 : Obj) (b : Addr) (x : Obj), s.heap.get? b = some x → ((s.heap.push o1).push o2).get? b = some x := fun o1 o2 b x q => Heap.get?_push_of_some _ (Heap.get?_push_of_some _ q)
  have top : ∀ (o1 o2 : Obj), o2.isFreed = false → ((s.heap.push o1).push o2).get? (s.heap.objs.size + 1) = some o2 := fun o1 o2 f => by
    have q := Heap.get?_push_size (s.heap.push o1) (o := o2) f
    rw [sz] at q
    exact q
  show _ ∧ _
  rw [sz]
  exact ⟨⟨_, top _ _ rfl, rfl⟩, h _ (top _ _ rfl) ⟨_, Heap.get?_push_of_some _ (Heap.get?_push_size _ rfl), rfl, rfl⟩ (old _ _)⟩
theorem pi_enumA {X : Cx} {e : Expr} {ta : TA} {p pos tpos : Pos} {elts : List Expr} {kk : Nat} (hg : Gl X "enumerate") (hm : X.mg "enumerate" = none) (ha : PA X [e] ta) (hs : starEach [e] X.env = [(false, eval e X.env)]) :
    PI X (.Tuple elts kk tpos) (.Call (.Name "enumerate" p) [e] [] pos) (iEnumA X.K ta) := by
  refine ⟨fun pins s σ H R I h => ?_⟩
  refine Call_ (ld_blt I hg hm boot_enumerate (PyProof.Rows.callWith_type1 (thn (ha.run pos pins s σ H _ I h) fun us s1 ⟨vs, H1, I1, r1, q1⟩ => ?_) hs rfl))
  obtain ⟨a, xs, rfl, q1⟩ := q1
  obtain ⟨u, rfl, ru⟩ := vals1 r1
  obtain rfl : u = Value.ref a := ru
  have fr : ∀ b ∈ [s1.heap.objs.size + 1, s1.heap.objs.size], FpOk X pins H1 b := fun b hb => by
    have le : s1.heap.objs.size ≤ b := by
      rcases List.mem_cons.mp hb with z | z
      · rw [z]; exact Nat.le_succ _
      · rw [List.mem_singleton.mp z]; exact Nat.le_refl _
    exact I1.fpOk le (I1.hok.fresh le)
  rcases q1 with ⟨hq, q⟩ | ⟨hq, q⟩
  · obtain ⟨its, rv, p', hz⟩ := I1.list hq
    refine call_enumerate_list p'.isList fun h' he hit _ hk => wpAny_pyIter_enum he ?_
    exact ⟨s1.heap.objs.size + 1, [s1.heap.objs.size + 1, s1.heap.objs.size], _, _, H1, rfl, I1.kept (t' := s1.toks) hk, turn_enum a (s1.heap.objs.size + 1) s1.heap.objs.size, ⟨⟨.none, he⟩, hit, Nat.succ_ne_self _⟩, fr, q⟩
  · obtain ⟨its, rv, p', hz⟩ := I1.tuple hq
    have la : a < s1.heap.objs.size := by obtain ⟨o, ho, _⟩ := id p'; exact Heap.lt_size ho
    refine call_enumT (show s1.heap.IsTuple a its.toArray from p') fun h' he hit hk => wpAny_pyIter_enum he ?_
    exact ⟨s1.heap.objs.size + 1, [s1.heap.objs.size + 1, s1.heap.objs.size], _, _, H1, rfl, I1.kept (t' := s1.toks) hk, turn_enumT a (s1.heap.objs.size + 1) s1.heap.objs.size (fun z => absurd la (by rw [← z]; exact Nat.not_lt.mpr (Nat.le_succ _))) (Nat.ne_of_lt la) (Nat.succ_ne_self _), ⟨⟨.none, he⟩, hit⟩, fr, q⟩
/-- enumerate of a list or a tuple -/
def sEnumA (t : TD) : TSr := fun ρ => match t ρ with
  | some (r, ρ1) => match frz [r] ρ1 with
    | some ([.list as], ρ2) => some (enumD 0 as, ρ2)
    | some ([.tuple as], ρ2) => some (enumD 0 as, ρ2)
    | _ => none
  | none => none
theorem di_enumA {X : Cx} {e : Expr} {t : TD} {p pos tpos : Pos} {elts : List Expr} {kk : Nat} (hg : Gl X "enumerate") (hm : X.mg "enumerate" = none) (h : DE X e t) (hs : starEach [e] X.env = [(false, eval e X.env)]) : DI X (.Tuple elts kk tpos) (.Call (.Name "enumerate" p) [e] [] pos) (sEnumA t) := by
  refine pi_weak (pi_enumA hg hm (pa_cons h pa_nil hs) hs) fun σ H R q => ?_
  obtain ⟨B, ρ, its, ρ', hl, er, e, k⟩ := q
  unfold sEnumA at e
  split at e
  · rename_i r ρ1 e1
    split at e
    · rename_i as ρ2 e2
      cases e
      refine ⟨B, ρ, r, ρ1, hl, er, e1, fun v H1 lk st rr => ?_⟩
      obtain ⟨h1, h2, h3, h4⟩ := frz_ok (lk.len.trans hl) e2 rr
      have rp := h2.one
      unfold Rep at rp
      obtain ⟨a, xs, rfl, ha, ra⟩ := rp
      refine ⟨a, xs, rfl, .inl ⟨ha.lv.sq, k _ H1 (lk.trans h3) (st.trans (stp_own h4)) h1 ?_⟩⟩
      refine ⟨YPair (fun i => some (.int (i : Nat))) (fun i => xs[i]?), ?_, fun i H2 x H3 hi st2 y => ?_⟩
      · rw [enumD_len, ← ra.len]
        exact walk_enum.mono (fun H2 st2 => stay_seqL h1 ha st2) fun _ _ _ _ _ _ y => y
      · obtain ⟨T, x1, y1, rfl, nT, rfl, f1, f2⟩ := y
        cases f1
        obtain ⟨b, eb, rb⟩ := ra.get' f2
        refine ⟨upd_same_of nT, _, enumD_get eb, fun A' hA => rep_tup nT (.cons ?_ (.cons (stay_rep h1 rb st2 (.refl _) A' hA) .nil))⟩
        rw [Nat.zero_add]
        exact rep_int
    · rename_i as ρ2 e2
      cases e
      refine ⟨B, ρ, r, ρ1, hl, er, e1, fun v H1 lk st rr => ?_⟩
      obtain ⟨h1, h2, h3, h4⟩ := frz_ok (lk.len.trans hl) e2 rr
      have rp := h2.one
      unfold Rep at rp
      obtain ⟨a, xs, rfl, ha, ra⟩ := rp
      refine ⟨a, xs, rfl, .inr ⟨ha, k _ H1 (lk.trans h3) (st.trans (stp_own h4)) h1 ?_⟩⟩
      refine ⟨YPair (fun i => some (.int (i : Nat))) (fun i => xs[i]?), ?_, fun i H2 x H3 hi st2 y => ?_⟩
      · rw [enumD_len, ← ra.len]
        exact walk_enumT.mono (fun H2 st2 => stay_seqT h1 ha st2) fun _ _ _ _ _ _ y => y
      · obtain ⟨T, x1, y1, rfl, nT, rfl, f1, f2⟩ := y
        cases f1
        obtain ⟨b, eb, rb⟩ := ra.get' f2
        refine ⟨upd_same_of nT, _, enumD_get eb, fun A' hA => rep_tup nT (.cons ?_ (.cons (stay_rep h1 rb st2 (.refl _) A' hA) .nil))⟩
        rw [Nat.zero_add]
        exact rep_int
    · cases e
  · cases e
end Dn

set_option Elab.async false
set_option linter.all false
set_option maxRecDepth 100000
set_option maxHeartbeats 2000000
namespace Pl
open PySem PySem.Spec PyProof.Rows L2 Dn

/-! ### sizes -/
/-- at most n binary figures -/
def Bd (n : Nat) (a : Int) : Prop := a.natAbs < 2 ^ n
theorem Bd.up {n m : Nat} {a : Int} (h : Bd n a) (l : n ≤ m) : Bd m a := Nat.lt_of_lt_of_le h (Nat.pow_le_pow_right (by decide) l)
theorem Bd.bits {n : Nat} {a : Int} (h : Bd n a) : Builtin.Int.intBits a ≤ n := by
  unfold Builtin.Int.intBits
  split
  · omega
  · rename_i e
    have e : a ≠ 0 := by simpa using e
    have := (Nat.log2_lt (n := a.natAbs) (k := n) (by omega)).mpr h
    omega
theorem Bd.of_bits {n : Nat} {a : Int} (h : Builtin.Int.intBits a ≤ n) : Bd n a := by
  unfold Builtin.Int.intBits at h
  unfold Bd
  split at h
  · rename_i e
    have e : a = 0 := by simpa using e
    subst e
    exact Nat.two_pow_pos n
  · rename_i e
    have e : a ≠ 0 := by simpa using e
    exact (Nat.log2_lt (n := a.natAbs) (k := n) (by omega)).mp (by omega)
theorem Bd.mul {n m : Nat} {a b : Int} (h : Bd n a) (k : Bd m b) : Bd (n + m) (a * b) := by
  unfold Bd at *
  rw [Int.natAbs_mul, Nat.pow_add]
  exact Nat.mul_lt_mul'' h k
theorem Bd.add {n : Nat} {a b : Int} (h : Bd n a) (k : Bd n b) : Bd (n + 1) (a + b) := by
  unfold Bd at *
  have := Int.natAbs_add_le a b
  rw [Nat.pow_succ]
  omega
theorem Bd.neg {n : Nat} {a : Int} (h : Bd n a) : Bd n (-a) := by unfold Bd at *; rw [Int.natAbs_neg]; exact h
theorem Bd.sub {n : Nat} {a b : Int} (h : Bd n a) (k : Bd n b) : Bd (n + 1) (a - b) := by
  rw [Int.sub_eq_add_neg]; exact h.add k.neg
theorem Bd.nat {n : Nat} {a : Int} (h0 : 0 ≤ a) (h : a < 2 ^ n) : Bd n a := by
  unfold Bd
  have : ((2 ^ n : Nat) : Int) = 2 ^ n := by push_cast; rfl
  omega
theorem Bd.le {n : Nat} {a b : Int} (h : Bd n a) (k : b.natAbs ≤ a.natAbs) : Bd n b := Nat.lt_of_le_of_lt k h
theorem mul_ok {n m : Nat} {a b : Int} (h : Bd n a) (k : Bd m b) (l : n + m ≤ 134217728) : mulOk a b = true := by
  have := h.bits
  have := k.bits
  exact decide_eq_true (by omega)
theorem pylong_no {n : Nat} {a b : Int} (h : Bd n b) (l : n ≤ 9000) : Builtin.divisionGoesByPylong a b = false := by
  unfold Builtin.divisionGoesByPylong
  have e : (if b == 0 then 0 else b.natAbs.log2 / 30 + 1) ≤ 300 := by
    split
    · omega
    · rename_i e
      have e : b ≠ 0 := by simpa using e
      have := (Nat.log2_lt (n := b.natAbs) (k := n) (by omega)).mpr h
      omega
  simp only [Bool.and_eq_false_iff, decide_eq_false_iff_not]
  exact .inl (by simpa using e)
theorem div_ok {n : Nat} {a b : Int} (h : Bd n b) (l : n ≤ 9000) (h0 : b ≠ 0) : divOk a b = true := by
  unfold divOk
  rw [pylong_no h l]
  simpa using h0
end Pl

set_option Elab.async false
set_option linter.all false
set_option maxRecDepth 100000
set_option maxHeartbeats 2000000
namespace Pl
open PySem PySem.Spec PyProof.Rows L2 Dn
section
variable {a b i : Int} {xs ys ds : List D} {d e : D} {p q : Bool} {x y : Str} {α : Type} {u v w : α} {l : List α}
theorem atI0 : atI (u :: l) 0 = some u := by simp [atI, ixN]
theorem atI1 : atI (u :: v :: l) 1 = some v := by unfold atI ixN; rw [if_pos (by decide), if_pos (by simp only [List.length_cons]; omega)]; rfl
theorem atI2 : atI (u :: v :: w :: l) 2 = some w := by unfold atI ixN; rw [if_pos (by decide), if_pos (by simp only [List.length_cons]; omega)]; rfl
theorem atI_at {l : List α} {i : Int} {j : Nat} (h : i = j) : atI l i = l[j]? := by
  subst h
  unfold atI ixN
  rw [if_pos (by omega)]
  split
  · simp
  · rw [List.getElem?_eq_none (by omega)]; rfl
theorem ixN3_0 : ixN 3 0 = some 0 := rfl
theorem ixN3_1 : ixN 3 1 = some 1 := rfl
theorem ixN3_2 : ixN 3 2 = some 2 := rfl
theorem ixN2_0 : ixN 2 0 = some 0 := rfl
theorem ixN2_1 : ixN 2 1 = some 1 := rfl
theorem e_add : pAdd [.int a, .int b] = some (.v (.int (a + b))) := rfl
theorem e_addT (h : xs.length + ys.length ≤ 1000) : pAdd [.tuple xs, .tuple ys] = some (.v (.tuple (xs ++ ys))) := if_pos h
theorem e_addL (h : xs.length + ys.length ≤ 1000) : pAdd [.list xs, .list ys] = some (.o (xs ++ ys)) := if_pos h
theorem e_sub : pSub [.int a, .int b] = some (.v (.int (a - b))) := rfl
theorem e_mul (h : mulOk a b = true) : pMul [.int a, .int b] = some (.v (.int (a * b))) := if_pos h
theorem e_mulL (h1 : -1000 ≤ i) (h2 : i ≤ 1000) (h3 : xs.length * i.toNat ≤ 1000) : pMul [.list xs, .int i] = some (.o (List.replicate i.toNat xs).flatten) := by simp [pMul, h1, h2, h3]
theorem e_mulT (h1 : 1 ≤ i) (h2 : i ≤ 1000) (h4 : xs.length ≤ 1000) (h5 : xs ≠ []) (h3 : xs.length * i.toNat ≤ 1000) : pMul [.tuple xs, .int i] = some (.v (.tuple (List.replicate i.toNat xs).flatten)) := by
  by_cases z : i = 1
  · subst z
    have e : (List.replicate (Int.toNat 1) xs).flatten = xs := by simp
    rw [e]; rfl
  · have z1 : (i == 1) = false := by simpa using z
    have z2 : 2 ≤ i := by omega
    simp [pMul, z1, z2, h2, h3, h4, h5]
theorem e_div (h : divOk a b = true) : pDiv [.int a, .int b] = some (.v (.int (a.fdiv b))) := if_pos h
theorem e_mod (h : b ≠ 0) : pMod [.int a, .int b] = some (.v (.int (a.fmod b))) := if_pos (by simpa using h)
theorem e_pow (h1 : 0 ≤ b) (h2 : b ≤ 1000) (h3 : a.natAbs < 2 ^ 64) : pPow [.int a, .int b] = some (.v (.int (a ^ b.toNat))) := by
  refine if_pos ?_
  rw [Bool.and_eq_true, Bool.and_eq_true, decide_eq_true_eq, decide_eq_true_eq, decide_eq_true_eq]
  exact ⟨⟨h1, h2⟩, h3⟩
theorem e_neg : pNeg [.int a] = some (.v (.int (-a))) := rfl
theorem e_eqI : pEq [.int a, .int b] = some (.v (.bool (a == b))) := rfl
theorem e_neI : pNe [.int a, .int b] = some (.v (.bool (!(a == b)))) := rfl
theorem e_eqB : pEq [.bool p, .bool q] = some (.v (.bool (p == q))) := rfl
theorem e_eqT : pEq [.tuple xs, .tuple []] = some (.v (.bool xs.isEmpty)) := by simp [pEq, emp2, eqv_t0]
theorem e_eqL : pEq [.list xs, .list []] = some (.v (.bool xs.isEmpty)) := by simp [pEq, emp2, eqv_l0]
theorem e_neT : pNe [.tuple xs, .tuple []] = some (.v (.bool (!xs.isEmpty))) := by simp [pNe, emp2, eqv_t0]
theorem e_neL : pNe [.list xs, .list []] = some (.v (.bool (!xs.isEmpty))) := by simp [pNe, emp2, eqv_l0]
theorem e_eq (h1 : SeqAt.shaped d = true) (h2 : SeqAt.shaped e = true) : pEq [d, e] = some (.v (.bool (PyData.eqv d e))) := by simp [pEq, h1, h2]
theorem e_ne (h1 : SeqAt.shaped d = true) (h2 : SeqAt.shaped e = true) : pNe [d, e] = some (.v (.bool (!PyData.eqv d e))) := by simp [pNe, h1, h2]
theorem e_cmp {f : Int → Int → Bool} : pCmp f [.int a, .int b] = some (.v (.bool (f a b))) := rfl
theorem e_is : pIs [d, .none] = some (.v (.bool (isNone d))) := rfl
theorem e_isnot : pIsNot [d, .none] = some (.v (.bool (!isNone d))) := rfl
theorem e_ixL : pIx [.list ds, .int i] = (atI ds i).map .v := rfl
theorem e_ixT : pIx [.tuple ds, .int i] = (atI ds i).map .v := rfl
theorem e_lenL : pLen [.list ds] = some (.v (.int ds.length)) := rfl
theorem e_lenT : pLen [.tuple ds] = some (.v (.int ds.length)) := rfl
theorem e_tupL : pTuple [.list ds] = some (.v (.tuple ds)) := rfl
theorem e_tupT : pTuple [.tuple ds] = some (.v (.tuple ds)) := rfl
theorem e_lstL : pList [.list ds] = some (.o ds) := rfl
theorem e_lstT : pList [.tuple ds] = some (.o ds) := rfl
theorem e_int : pInt [.int i] = some (.v (.int i)) := rfl
theorem e_intB : pInt [.bool p] = some (.v (.int (if p then 1 else 0))) := rfl
theorem e_abs : pAbs [.int i] = some (.v (.int (if i < 0 then -i else i))) := rfl
theorem ints_map (ns : List Int) : intsOf (ns.map PyData.int) = some ns := by
  induction ns with
  | nil => rfl
  | cons n ns ih => simp only [List.map_cons, intsOf, ih]
theorem bools_map (ns : List Bool) : boolsOf (ns.map PyData.bool) = some ns := by
  induction ns with
  | nil => rfl
  | cons n ns ih => simp only [List.map_cons, boolsOf, ih]
theorem e_sum {ns : List Int} : pSum [.list (ns.map .int)] = some (.v (.int ns.sum)) := by simp [pSum, ints_map]
theorem e_all {ns : List Bool} : pAll [.list (ns.map .bool)] = some (.v (.bool (ns.all id))) := by simp [pAll, bools_map]
theorem e_sorted {ns : List Int} : pSorted [.list (ns.map .int)] = some (.o ((sortI ns).map .int)) := by simp [pSorted, ints_map]
theorem e_divmod (h : 0 < b) (h2 : Builtin.divisionGoesByPylong a b = false) : pDivmod [.int a, .int b] = some (.v (.tuple [.int (a / b), .int (a % b)])) := by simp [pDivmod, h, h2]
theorem e_gcd : pGcd [.int a, .int b] = some (.v (.int (Nat.gcd a.natAbs b.natAbs : Nat))) := rfl
theorem e_max : pMax [.int a, .int b] = some (.v (.int (if b > a then b else a))) := rfl
theorem e_min : pMin [.int a, .int b] = some (.v (.int (if b < a then b else a))) := rfl
theorem e_isi {T : String} : pIsi T [d] = some (.v (.bool (isTy T d))) := rfl
theorem e_lr (h : rgOk 0 b = true) : pListRg1 [.int b] = some (.o (rgD 0 b)) := if_pos h
theorem e_cutL {lo hi : Option Int} : pCut (.list ds) lo hi = some (.o (cutD ds lo hi)) := rfl
theorem e_cutT {lo hi : Option Int} : pCut (.tuple ds) lo hi = some (.v (.tuple (cutD ds lo hi))) := rfl
theorem e_repr (h : showOk d = true) : pRepr [d] = some (.v (.str d.shown)) := if_pos h
end
end Pl

set_option Elab.async false
set_option linter.all false
set_option maxRecDepth 100000
set_option maxHeartbeats 2000000
namespace Pl
open PySem PySem.Spec PyProof.Rows L2 Dn

/-! ### what may be shown, and how long it is -/
mutual
def okR (B : Nat) : D → Bool
  | .none => true
  | .bool _ => true
  | .int i => decide (i.natAbs < 10 ^ B)
  | .list ds => okRA B ds
  | .tuple ds => okRA B ds
  | _ => false
def okRA (B : Nat) : List D → Bool
  | [] => true
  | d :: ds => okR B d && okRA B ds
end
mutual
def chs (B : Nat) : D → Nat
  | .int _ => B + 1
  | .list ds => chsA B ds + 3
  | .tuple ds => chsA B ds + 3
  | _ => 5
def chsA (B : Nat) : List D → Nat
  | [] => 0
  | d :: ds => chs B d + 2 + chsA B ds
end
theorem okRA_map {α : Type} {B : Nat} {f : α → D} {l : List α} (h : ∀ x ∈ l, okR B (f x) = true) : okRA B (l.map f) = true := by
  induction l with
  | nil => rfl
  | cons x l ih => rw [List.map_cons, okRA, h x List.mem_cons_self, ih fun y hy => h y (List.mem_cons_of_mem _ hy)]; rfl
theorem chsA_map {α : Type} {B c : Nat} {f : α → D} {l : List α} (h : ∀ x ∈ l, chs B (f x) ≤ c) : chsA B (l.map f) ≤ l.length * (c + 2) := by
  induction l with
  | nil => simp [chsA]
  | cons x l ih =>
    have h1 := h x List.mem_cons_self
    have h2 := ih fun y hy => h y (List.mem_cons_of_mem _ hy)
    rw [List.map_cons, chsA, List.length_cons, Nat.add_mul]
    omega
theorem depthA_map {α : Type} {c : Nat} {f : α → D} {l : List α} (h : ∀ x ∈ l, PyData.depth (f x) ≤ c) : PyData.depthAll (l.map f) ≤ c := by
  induction l with
  | nil => exact Nat.zero_le _
  | cons x l ih =>
    rw [List.map_cons, PyData.depthAll]
    have h1 := h x List.mem_cons_self
    have h2 := ih fun y hy => h y (List.mem_cons_of_mem _ hy)
    omega
theorem lift10 {n B : Nat} {a : Int} (h : Bd n a) (l : n ≤ 3 * B) : a.natAbs < 10 ^ B := by
  have h1 : a.natAbs < 2 ^ (3 * B) := h.up l
  rw [Nat.pow_mul] at h1
  exact Nat.lt_of_lt_of_le h1 (Nat.pow_le_pow_left (by decide) B)
theorem log_lt {B : Nat} {i : Int} (hB : B ≤ 570) (h : i.natAbs < 10 ^ B) : i.natAbs.log2 < 1920 := by
  by_cases z : i.natAbs = 0
  · rw [z]; decide
  · refine (Nat.log2_lt z).mpr (Nat.lt_of_lt_of_le h (Nat.le_trans (Nat.pow_le_pow_right (by decide) hB) ?_))
    decide +kernel
theorem shownA_mem {ds : List D} {t : Str} : t ∈ PyData.shownAll ds → ∃ d ∈ ds, t = d.shown := by
  induction ds with
  | nil => intro h; rw [PyData.shownAll_nil] at h; cases h
  | cons d ds ih =>
    intro h
    rw [PyData.shownAll_cons] at h
    rcases List.mem_cons.mp h with h | h
    · exact ⟨d, List.mem_cons_self, h⟩
    · obtain ⟨e, h1, h2⟩ := ih h
      exact ⟨e, List.mem_cons_of_mem _ h1, h2⟩
theorem sep_low {k : Nat} (hk : 1114112 ≤ k) : k ∉ ((", " : String) : Str).cps.toList := by
  rw [signs_sep]; simp only [List.mem_cons, List.not_mem_nil, or_false]; omega
/-- what is shown of plain values -/
structure Sh (B : Nat) (d : D) : Prop where
  sh : d.showable = true
  ly : d.canLay0 = true
  le : d.shown.length ≤ chs B d
  lo : ∀ k, 1114112 ≤ k → k ∉ d.shown.cps.toList
structure ShA (B : Nat) (ds : List D) : Prop where
  sh : PyData.showableAll ds = true
  ly : PyData.canLayAll0 ds = true
  le : ((PyData.shownAll ds).map (·.length)).sum + 2 * (PyData.shownAll ds).length ≤ chsA B ds
  lo : ∀ k, 1114112 ≤ k → ∀ t ∈ PyData.shownAll ds, k ∉ t.cps.toList
mutual
theorem sh_of {B : Nat} (hB : B ≤ 570) (h0 : 0 < B) : ∀ d : D, okR B d = true → Sh B d
  | .none, _ => ⟨rfl, rfl, by show _ ≤ 5; decide, fun k hk => by
    rw [PyData.shown_none]
    have e : (("None" : String) : Str).cps.toList = [78, 111, 110, 101] := by decide
    rw [e]; simp only [List.mem_cons, List.not_mem_nil, or_false]; omega⟩
  | .bool b, _ => ⟨rfl, rfl, by show _ ≤ 5; cases b <;> decide, fun k hk => by
    rw [PyData.shown_bool]
    cases b
    · have e : (Str.ofString "False").cps.toList = [70, 97, 108, 115, 101] := by decide
      show k ∉ (Str.ofString "False").cps.toList
      rw [e]; simp only [List.mem_cons, List.not_mem_nil, or_false]; omega
    · have e : (Str.ofString "True").cps.toList = [84, 114, 117, 101] := by decide
      show k ∉ (Str.ofString "True").cps.toList
      rw [e]; simp only [List.mem_cons, List.not_mem_nil, or_false]; omega⟩
  | .int i, h => by
    have h : i.natAbs < 10 ^ B := by simpa [okR] using h
    refine ⟨by simpa [PyData.showable] using log_lt hB h, rfl, ?_, fun k hk => shown_int_free' ⟨by omega, by omega⟩ i⟩
    show _ ≤ B + 1
    rw [PyData.shown_int]
    by_cases z : 0 ≤ i
    · have := toString_length_le z h0 (show i < 10 ^ B by have : ((10 ^ B : Nat) : Int) = 10 ^ B := by push_cast; rfl
                                                          omega)
      omega
    · have l1 := len_text_negI (n := i) (by omega)
      have := toString_length_le (v := 0 - i) (by omega) h0 (by have : ((10 ^ B : Nat) : Int) = 10 ^ B := by push_cast; rfl
                                                                omega)
      omega
  | .list ds, h => by
    have s := shA_of hB h0 ds (by simpa [okR] using h)
    refine ⟨by simpa [PyData.showable] using s.sh, by simpa [PyData.canLay0] using s.ly, ?_, fun k hk => ?_⟩
    · rw [show (PyData.list ds).shown = listText (PyData.shownAll ds) by simp only [PyData.shown]]
      have := listText_len_le (PyData.shownAll ds)
      have := s.le
      show _ ≤ chsA B ds + 3
      omega
    · rw [PyData.shown_list, mem_cps_append, mem_cps_append, mem_join, signs_lbrack, signs_rbrack]
      rintro ((z | ⟨t, z, z2⟩ | ⟨_, z⟩) | z)
      · simp only [List.mem_cons, List.not_mem_nil, or_false] at z; omega
      · exact s.lo k hk t z z2
      · exact sep_low hk z
      · simp only [List.mem_cons, List.not_mem_nil, or_false] at z; omega
  | .tuple ds, h => by
    have s := shA_of hB h0 ds (by simpa [okR] using h)
    refine ⟨by simpa [PyData.showable] using s.sh, by simpa [PyData.canLay0] using s.ly, ?_, fun k hk => ?_⟩
    · rw [show (PyData.tuple ds).shown = tupleText (PyData.shownAll ds) by simp only [PyData.shown]]
      have := tupleText_len_le (PyData.shownAll ds)
      have := s.le
      show _ ≤ chsA B ds + 3
      omega
    · rw [PyData.shown_tuple, mem_cps_append, mem_cps_append, mem_join, signs_lparen]
      rintro ((z | ⟨t, z, z2⟩ | ⟨_, z⟩) | z)
      · simp only [List.mem_cons, List.not_mem_nil, or_false] at z; omega
      · exact s.lo k hk t z z2
      · exact sep_low hk z
      · split at z
        · have e : ((",)" : String) : Str).cps.toList = [44, 41] := by decide
          rw [e] at z; simp only [List.mem_cons, List.not_mem_nil, or_false] at z; omega
        · have e : ((")" : String) : Str).cps.toList = [41] := by decide
          rw [e] at z; simp only [List.mem_cons, List.not_mem_nil, or_false] at z; omega
  | .str _, h => by simp [okR] at h
  | .dict _, h => by simp [okR] at h
theorem shA_of {B : Nat} (hB : B ≤ 570) (h0 : 0 < B) : ∀ ds : List D, okRA B ds = true → ShA B ds
  | [], _ => ⟨rfl, rfl, by rw [PyData.shownAll_nil]; exact Nat.zero_le _, fun k _ t h => by rw [PyData.shownAll_nil] at h; cases h⟩
  | d :: ds, h => by
    rw [okRA, Bool.and_eq_true] at h
    have s := sh_of hB h0 d h.1
    have t := shA_of hB h0 ds h.2
    refine ⟨by rw [PyData.showableAll, s.sh, t.sh]; rfl, by rw [PyData.canLayAll0, s.ly, t.ly]; rfl, ?_, fun k hk u hu => ?_⟩
    · have := s.le
      have := t.le
      rw [PyData.shownAll_cons, List.map_cons, List.sum_cons, List.length_cons, chsA]
      omega
    · rw [PyData.shownAll_cons] at hu
      rcases List.mem_cons.mp hu with e | hu
      · subst e; exact s.lo k hk
      · exact t.lo k hk u hu
end
theorem show_ok {B : Nat} {d : D} (hB : B ≤ 570) (h0 : 0 < B) (h : okR B d = true) (hd : d.depth ≤ 64) (hc : chs B d ≤ 100000) : pRepr [d] = some (.v (.str d.shown)) ∧ SeqAt.shaped (.str d.shown) = true := by
  have s := sh_of hB h0 d h
  constructor
  · refine e_repr ?_
    unfold showOk SeqAt.shaped
    rw [s.sh, s.ly, PyData.hasDict_of_canLay d s.ly, decide_eq_true hd, decide_eq_true (Nat.le_trans s.le hc)]
    rfl
  · unfold SeqAt.shaped
    rw [show PyData.canLay0 (.str d.shown) = true from ?_, show PyData.depth (.str d.shown) = 0 from rfl]
    · rfl
    · show PyData.strOk d.shown = true
      unfold PyData.strOk
      rw [Array.all_eq_true']
      intro k hk
      refine decide_eq_true (Classical.byContradiction fun n => s.lo k (by omega) (by simpa using hk))
/-- repr(a) == repr(b) where both are the same -/
theorem eq_shown {x : Str} (h : SeqAt.shaped (.str x) = true) : pEq [.str x, .str x] = some (.v (.bool true)) := by rw [e_eq h h]; simp [PyData.eqv]
theorem ne_shown {x : Str} (h : SeqAt.shaped (.str x) = true) : pNe [.str x, .str x] = some (.v (.bool false)) := by rw [e_ne h h]; simp [PyData.eqv]
end Pl

set_option Elab.async false
set_option linter.all false
set_option maxRecDepth 100000
set_option maxHeartbeats 2000000
namespace Pl
open PySem PySem.Spec PyProof.Rows L2 Dn

/-! ### loops -/
def stepC (vs : List Nat) (tgt : TGD) (cond : TB) (elt : TD) (d : D) (ρ : Rho) : Option (Option D × Rho) := match tgt (.v d) ρ with
  | some ρ1 => match cond ρ1 with
    | some (true, ρ2) => match elt ρ2 with
      | some (r, ρ3) => match frz [r] ρ3 with
        | some ([y], ρ4) => some (some y, wipeR ρ4 vs)
        | _ => none
      | none => none
    | some (false, ρ2) => some (none, wipeR ρ2 vs)
    | none => none
  | none => none
theorem loopC_ev {vs : List Nat} {tgt : TGD} {cond : TB} {elt : TD} {ρ : Rho} {g : D → Option D} : ∀ {ds acc : List D}, (∀ d ∈ ds, stepC vs tgt cond elt d ρ = some (g d, ρ)) → acc.length + ds.length ≤ 1000000 → loopC vs tgt cond elt ds ρ acc = some (acc ++ ds.filterMap g, ρ)
  | [], acc, _, _ => by simp [loopC]
  | d :: ds, acc, h, hl => by
    have h1 := h d List.mem_cons_self
    have hl' : acc.length + ds.length + 1 ≤ 1000000 := by simpa [Nat.add_assoc] using hl
    have ih := fun acc hl => loopC_ev (vs := vs) (tgt := tgt) (cond := cond) (elt := elt) (ρ := ρ) (g := g) (ds := ds) (acc := acc) (fun e he => h e (List.mem_cons_of_mem _ he)) hl
    unfold stepC at h1
    unfold loopC
    split at h1
    · rename_i ρ1 e1
      try simp only [e1]
      split at h1
      · rename_i ρ2 e2
        try simp only [e2]
        split at h1
        · rename_i r ρ3 e3
          try simp only [e3]
          split at h1
          · rename_i y ρ4 e4
            try simp only [e4]
            have h1 := Option.some.inj h1
            have g1 := congrArg Prod.fst h1
            have g2 := congrArg Prod.snd h1
            simp only at g1 g2
            rw [if_pos (by omega), g2, ih _ (by simp; omega), List.filterMap_cons, ← g1]
            simp
          · cases h1
        · cases h1
      · rename_i ρ2 e2
        try simp only [e2]
        have h1 := Option.some.inj h1
        have g1 := congrArg Prod.fst h1
        have g2 := congrArg Prod.snd h1
        simp only at g1 g2
        rw [g2, ih _ (by omega), List.filterMap_cons, ← g1]
      · cases h1
    · cases h1
theorem dComp_ev {vs : List Nat} {src : TSr} {tgt : TGD} {cond : TB} {elt : TD} {ρ ρ1 : Rho} {g : D → Option D} {its : List D} (hs : src ρ = some (its, ρ1)) (hp : noPins ρ1 vs = true) (hl : its.length ≤ 1000000) (h : ∀ d ∈ its, stepC vs tgt cond elt d (wipeR ρ1 vs) = some (g d, wipeR ρ1 vs)) :
    dComp vs src tgt cond elt ρ = some (.o (its.filterMap g), wipeR ρ1 vs) := by
  unfold dComp
  rw [hs]
  simp only
  rw [hp, loopC_ev h (by simpa using hl)]
  simp
theorem loopF_inv {tgt : TGD} {body : TSD} {Inv : List D → Rho → Prop} : ∀ {ds : List D} {ρ : Rho}, (∀ d ds ρ, Inv (d :: ds) ρ → ∃ ρ1 ρ2, tgt (.v d) ρ = some ρ1 ∧ body ρ1 = some (.nx ρ2) ∧ Inv ds ρ2) → Inv ds ρ → ∃ ρ', loopF tgt body ds ρ = some (.nx ρ') ∧ Inv [] ρ'
  | [], ρ, _, i => ⟨ρ, rfl, i⟩
  | d :: ds, ρ, h, i => by
    obtain ⟨ρ1, ρ2, e1, e2, i2⟩ := h d ds ρ i
    obtain ⟨ρ', e3, i3⟩ := loopF_inv h i2
    refine ⟨ρ', ?_, i3⟩
    unfold loopF
    simp only [e1, e2]
    exact e3
/-- a while by a measure -/
theorem whileN_inv {c : TB} {body : TSD} {Inv : Nat → Rho → Prop} {Post : Rho → Prop} (h : ∀ m ρ, Inv m ρ → (∃ ρ1, c ρ = some (false, ρ1) ∧ Post ρ1) ∨ ∃ ρ1 ρ2 m', c ρ = some (true, ρ1) ∧ body ρ1 = some (.nx ρ2) ∧ m' < m ∧ Inv m' ρ2) :
    ∀ (k m : Nat) (ρ : Rho), m ≤ k → Inv m ρ → ∃ n ρ', whileN c body n ρ = some (.nx ρ') ∧ Post ρ' := by
  intro k
  induction k with
  | zero =>
    intro m ρ hm i
    rcases h m ρ i with ⟨ρ1, e, p⟩ | ⟨ρ1, ρ2, m', e1, e2, lt, i2⟩
    · exact ⟨1, ρ1, by simp [whileN, e], p⟩
    · omega
  | succ k ih =>
    intro m ρ hm i
    rcases h m ρ i with ⟨ρ1, e, p⟩ | ⟨ρ1, ρ2, m', e1, e2, lt, i2⟩
    · exact ⟨1, ρ1, by simp [whileN, e], p⟩
    · obtain ⟨n, ρ', e3, p⟩ := ih m' ρ2 (by omega) i2
      exact ⟨n + 1, ρ', by simp [whileN, e1, e2, e3], p⟩
theorem sWhile_inv {c : TB} {body : TSD} {ρ : Rho} (m : Nat) (Inv : Nat → Rho → Prop) (Post : Rho → Prop) (h : ∀ m ρ, Inv m ρ → (∃ ρ1, c ρ = some (false, ρ1) ∧ Post ρ1) ∨ ∃ ρ1 ρ2 m', c ρ = some (true, ρ1) ∧ body ρ1 = some (.nx ρ2) ∧ m' < m ∧ Inv m' ρ2) (i : Inv m ρ) :
    ∃ ρ', sWhile c body ρ = some (.nx ρ') ∧ Post ρ' := by
  obtain ⟨n, ρ', e, p⟩ := whileN_inv h m m ρ (Nat.le_refl _) i
  exact ⟨ρ', sWhile_eq e, p⟩
theorem filterMap_some {α β : Type} {f : α → β} : ∀ l : List α, l.filterMap (fun x => some (f x)) = l.map f := fun l => by simp
theorem filterMap_if {α : Type} {p : α → Bool} : ∀ l : List α, l.filterMap (fun x => if p x then some x else none) = l.filter p := fun l => by
  induction l with
  | nil => rfl
  | cons x l ih => by_cases h : p x <;> simp [List.filterMap_cons, List.filter_cons, h, ih]

/-! ### fractions -/
def enc (r : Rat) : D := .tuple [.int r.num, .int (r.den : Int)]
structure RB (n d : Nat) (r : Rat) : Prop where
  num : Bd n r.num
  den : Bd d (r.den : Int)
theorem RB.up {n m d e : Nat} {r : Rat} (h : RB n d r) (l : n ≤ m) (l2 : d ≤ e) : RB m e r := ⟨h.num.up l, h.den.up l2⟩
theorem gcd_pos' {a b : Int} (h : b ≠ 0) : 0 < b.gcd a := Int.gcd_pos_of_ne_zero_left _ h
theorem num_le {a b : Int} (h : b ≠ 0) : (Rat.divInt a b).num.natAbs ≤ a.natAbs := by
  rw [Rat.num_divInt, Int.natAbs_ediv_of_dvd (Int.dvd_trans (Int.gcd_dvd_right ..) (Int.dvd_mul_left ..)), Int.natAbs_mul, Int.natAbs_sign_of_ne_zero h, Nat.one_mul]
  exact Nat.div_le_self _ _
theorem den_le {a b : Int} (h : b ≠ 0) : (Rat.divInt a b).den ≤ b.natAbs := by
  rw [Rat.den_divInt, if_neg h]
  exact Nat.div_le_self _ _
theorem RB.divInt {n d : Nat} {a b : Int} (h : b ≠ 0) (ha : Bd n a) (hb : Bd d b) : RB n d (Rat.divInt a b) := ⟨ha.le (num_le h), hb.le (by simpa using den_le h)⟩
theorem den_ne {r : Rat} : (r.den : Int) ≠ 0 := by have := r.den_nz; omega
theorem add_divInt (r s : Rat) : r + s = Rat.divInt (r.num * s.den + s.num * r.den) (r.den * s.den) := by
  have := Rat.divInt_add_divInt r.num s.num (den_ne (r := r)) (den_ne (r := s))
  rw [Rat.num_divInt_den, Rat.num_divInt_den] at this
  exact this
theorem mul_divInt (r s : Rat) : r * s = Rat.divInt (r.num * s.num) (r.den * s.den) := by
  have := @Rat.divInt_mul_divInt r.num s.num r.den s.den
  rw [Rat.num_divInt_den, Rat.num_divInt_den] at this
  exact this
theorem den_mul_ne (r s : Rat) : (r.den : Int) * s.den ≠ 0 := Int.mul_ne_zero den_ne den_ne
theorem RB.add {n m d e : Nat} {r s : Rat} (h : RB n d r) (k : RB m e s) : RB (max (n + e) (m + d) + 1) (d + e) (r + s) := by
  rw [add_divInt]
  exact .divInt (den_mul_ne r s) (((h.num.mul k.den).up (Nat.le_max_left _ _)).add ((k.num.mul h.den).up (Nat.le_max_right _ _))) (h.den.mul k.den)
theorem RB.mul {n m d e : Nat} {r s : Rat} (h : RB n d r) (k : RB m e s) : RB (n + m) (d + e) (r * s) := by
  rw [mul_divInt]
  exact .divInt (den_mul_ne r s) (h.num.mul k.num) (h.den.mul k.den)
theorem RB.zero : RB 0 1 0 := ⟨by unfold Bd; decide, by unfold Bd; decide⟩
/-- divided by the common part, its sign the lower number's -/
theorem low_pair {a b g : Int} (h : b ≠ 0) (hg : g = (Nat.gcd a.natAbs b.natAbs : Nat)) : a.fdiv (if 0 < b then g else -g) = (Rat.divInt a b).num ∧ b.fdiv (if 0 < b then g else -g) = ((Rat.divInt a b).den : Int) := by
  have eg : g = (b.gcd a : Nat) := by rw [hg, Int.gcd_comm]; rfl
  have gp : (0 : Int) < g := by have := gcd_pos' (a := a) h; omega
  have da : g ∣ a := by rw [eg]; exact Int.gcd_dvd_right ..
  have db : g ∣ b := by rw [eg]; exact Int.gcd_dvd_left ..
  obtain ⟨x, hx⟩ := da
  obtain ⟨y, hy⟩ := db
  have gn : g ≠ 0 := by omega
  rw [Rat.num_divInt, Rat.den_divInt, if_neg h, ← eg]
  have e2 : ((b.natAbs / b.gcd a : Nat) : Int) = (b.natAbs : Int) / g := by rw [eg]; exact Int.natCast_ediv ..
  rw [e2]
  by_cases hb : 0 < b
  · rw [if_pos hb, Int.sign_eq_one_of_pos hb, Int.one_mul]
    have yp : b.natAbs = b := by omega
    rw [yp]
    refine ⟨?_, ?_⟩
    · rw [hx, Int.mul_fdiv_cancel_left _ gn, Int.mul_ediv_cancel_left _ gn]
    · rw [hy, Int.mul_fdiv_cancel_left _ gn, Int.mul_ediv_cancel_left _ gn]
  · rw [if_neg hb, Int.sign_eq_neg_one_of_neg (by omega)]
    have yp : (b.natAbs : Int) = -b := by omega
    rw [yp]
    have ng : -g ≠ 0 := by omega
    refine ⟨?_, ?_⟩
    · rw [hx, show g * x = -g * -x by rw [Int.neg_mul_neg], Int.mul_fdiv_cancel_left _ ng, show -1 * (-g * -x) = g * -x by grind, Int.mul_ediv_cancel_left _ gn]
    · rw [hy, show g * y = -g * -y by rw [Int.neg_mul_neg], Int.mul_fdiv_cancel_left _ ng, show -(-g * -y) = g * -y by grind, Int.mul_ediv_cancel_left _ gn]
end Pl

set_option Elab.async false
set_option linter.all false
set_option maxRecDepth 100000
set_option maxHeartbeats 4000000
namespace Pl
open PySem PySem.Spec PyProof.Rows L2 Dn
noncomputable section
def d__law_cup : TSD := (sSeq2 (sIf (bVal (dOp pGt (dCons (dOp pIx (dCons (dLoc 0) (dCons (dCon (.int 0)) dNil))) (dCons (dCon (.int 0)) dNil)))) (sSeq2 (sAsg (dOp pDivmod (dCons (dOp pIx (dCons (dLoc 0) (dCons (dCon (.int 0)) dNil))) (dCons (dLoc 1) dNil))) (gTupD 2 (gsCons (tSub 0 (dCon (.int 0))) (gsCons (tName 3) gsNil))))
  (sSeq2 (sRet (dLoc 3))
  sSkip)) sSkip)
  (sSeq2 (sAsg (dOp pAdd (dCons (dOp pIx (dCons (dLoc 0) (dCons (dCon (.int 2)) dNil))) (dCons (dCon (.int 1)) dNil))) (tSub 0 (dCon (.int 2))))
  (sSeq2 (sAsg (dOp pMod (dCons (dOp pInt (dCons (dOp pAdd (dCons (dOp pAdd (dCons (dOp pMul (dCons (dOp pIx (dCons (dLoc 0) (dCons (dCon (.int 1)) dNil))) (dCons (dCon (.int 40771)) dNil))) (dCons (dOp pMul (dCons (dOp pIx (dCons (dLoc 0) (dCons (dCon (.int 2)) dNil))) (dCons (dCon (.int 52391)) dNil))) dNil))) (dCons (dCon (.int 19)) dNil))) dNil)) (dCons (dCon (.int 2147483353)) dNil))) (tName 2))
  (sSeq2 (sAsg (dOp pMod (dCons (dOp pInt (dCons (dOp pAdd (dCons (dOp pMul (dCons (dLoc 2) (dCons (dOp pAdd (dCons (dOp pMul (dCons (dCon (.int 2)) (dCons (dOp pDiv (dCons (dLoc 2) (dCons (dCon (.int 29)) dNil))) dNil))) (dCons (dCon (.int 18979)) dNil))) dNil))) (dCons (dOp pIx (dCons (dLoc 0) (dCons (dCon (.int 2)) dNil))) dNil))) dNil)) (dCons (dCon (.int 2147483353)) dNil))) (tSub 0 (dCon (.int 1))))
  (sSeq2 (sRet (dOp pMod (dCons (dOp pInt (dCons (dOp pDiv (dCons (dOp pIx (dCons (dLoc 0) (dCons (dCon (.int 1)) dNil))) (dCons (dCon (.int 109)) dNil))) dNil)) (dCons (dLoc 1) dNil))))
  sSkip)))))
def F__law_cup : List D → List D → Option (R × List D) := runW 2 4 d__law_cup
def d__law_one_of : TSD := (sSeq2 (sRet (dOp pIx (dCons (dLoc 1) (dCons (dCallV F__law_cup (dCons (dLoc 0) (dCons (dOp pLen (dCons (dLoc 1) dNil)) dNil))) dNil))))
  sSkip)
def F__law_one_of : List D → List D → Option (R × List D) := runW 2 2 d__law_one_of
def d__law_common : TSD := (sSeq2 (sAsgT (dCons (dOp pAbs (dCons (dLoc 0) dNil)) (dCons (dOp pAbs (dCons (dLoc 1) dNil)) dNil)) 2 (gsCons (tName 0) (gsCons (tName 1) gsNil)))
  (sSeq2 (sWhile (bVal (dOp pGt (dCons (dLoc 1) (dCons (dCon (.int 0)) dNil)))) (sSeq2 (sAsgT (dCons (dLoc 1) (dCons (dOp pMod (dCons (dOp pInt (dCons (dLoc 0) dNil)) (dCons (dLoc 1) dNil))) dNil)) 2 (gsCons (tName 0) (gsCons (tName 1) gsNil)))
  sSkip))
  (sSeq2 (sRet (dLoc 0))
  sSkip)))
def F__law_common : List D → Option R := runF 2 2 d__law_common
def d__law_frac : TSD := (sSeq2 (sAsg (dCall F__law_common (dCons (dLoc 0) (dCons (dLoc 1) dNil))) (tName 2))
  (sSeq2 (sAsg (dIf (bVal (dOp pGt (dCons (dLoc 1) (dCons (dCon (.int 0)) dNil)))) (dLoc 2) (dOp pSub (dCons (dCon (.int 0)) (dCons (dLoc 2) dNil)))) (tName 2))
  (sSeq2 (sRet (dTup (dCons (dOp pDiv (dCons (dLoc 0) (dCons (dLoc 2) dNil))) (dCons (dOp pDiv (dCons (dLoc 1) (dCons (dLoc 2) dNil))) dNil))))
  sSkip)))
def F__law_frac : List D → Option R := runF 2 3 d__law_frac
def d__law_add : TSD := (sSeq2 (sRet (dCall F__law_frac (dCons (dOp pAdd (dCons (dOp pMul (dCons (dOp pIx (dCons (dLoc 0) (dCons (dCon (.int 0)) dNil))) (dCons (dOp pIx (dCons (dLoc 1) (dCons (dCon (.int 1)) dNil))) dNil))) (dCons (dOp pMul (dCons (dOp pIx (dCons (dLoc 1) (dCons (dCon (.int 0)) dNil))) (dCons (dOp pIx (dCons (dLoc 0) (dCons (dCon (.int 1)) dNil))) dNil))) dNil))) (dCons (dOp pMul (dCons (dOp pIx (dCons (dLoc 0) (dCons (dCon (.int 1)) dNil))) (dCons (dOp pIx (dCons (dLoc 1) (dCons (dCon (.int 1)) dNil))) dNil))) dNil))))
  sSkip)
def F__law_add : List D → Option R := runF 2 2 d__law_add
def d__law_mul : TSD := (sSeq2 (sRet (dCall F__law_frac (dCons (dOp pMul (dCons (dOp pIx (dCons (dLoc 0) (dCons (dCon (.int 0)) dNil))) (dCons (dOp pIx (dCons (dLoc 1) (dCons (dCon (.int 0)) dNil))) dNil))) (dCons (dOp pMul (dCons (dOp pIx (dCons (dLoc 0) (dCons (dCon (.int 1)) dNil))) (dCons (dOp pIx (dCons (dLoc 1) (dCons (dCon (.int 1)) dNil))) dNil))) dNil))))
  sSkip)
def F__law_mul : List D → Option R := runF 2 2 d__law_mul
def d__law_dot : TSD := (sSeq2 (sAsg (dTup (dCons (dCon (.int 0)) (dCons (dCon (.int 1)) dNil))) (tName 2))
  (sSeq2 (sFor (sZip (dLoc 0) (dLoc 1)) (gTupD 2 (gsCons (tName 3) (gsCons (tName 4) gsNil))) (sSeq2 (sIf (bAnd (bVal (dOp pNe (dCons (dOp pIx (dCons (dLoc 3) (dCons (dCon (.int 0)) dNil))) (dCons (dCon (.int 0)) dNil)))) (bVal (dOp pNe (dCons (dOp pIx (dCons (dLoc 4) (dCons (dCon (.int 0)) dNil))) (dCons (dCon (.int 0)) dNil))))) (sSeq2 (sAsg (dCall F__law_add (dCons (dLoc 2) (dCons (dCall F__law_mul (dCons (dLoc 3) (dCons (dLoc 4) dNil))) dNil))) (tName 2))
  sSkip) sSkip)
  sSkip))
  (sSeq2 (sRet (dLoc 2))
  sSkip)))
def F__law_dot : List D → Option R := runF 2 5 d__law_dot
def d__law_flip : TSD := (sSeq2 (sRet (dOp pTuple (dCons (dComp [1] (sRg1 (dOp pLen (dCons (dLoc 0) dNil))) (tName 1) bYes (dOp pTuple (dCons (dComp [2] (sSeq (dLoc 0)) (tName 2) bYes (dOp pIx (dCons (dLoc 2) (dCons (dLoc 1) dNil)))) dNil))) dNil)))
  sSkip)
def F__law_flip : List D → Option R := runF 1 3 d__law_flip
def d__law_prod : TSD := (sSeq2 (sAsg (dCall F__law_flip (dCons (dLoc 1) dNil)) (tName 2))
  (sSeq2 (sRet (dOp pTuple (dCons (dComp [3] (sSeq (dLoc 0)) (tName 3) bYes (dOp pTuple (dCons (dComp [4] (sSeq (dLoc 2)) (tName 4) bYes (dCall F__law_dot (dCons (dLoc 3) (dCons (dLoc 4) dNil)))) dNil))) dNil)))
  sSkip))
def F__law_prod : List D → Option R := runF 2 5 d__law_prod
def d__law_unit : TSD := (sSeq2 (sRet (dOp pTuple (dCons (dComp [1] (sRg1 (dLoc 0)) (tName 1) bYes (dOp pTuple (dCons (dComp [2] (sRg1 (dLoc 0)) (tName 2) bYes (dTup (dCons (dIf (bVal (dOp pEq (dCons (dLoc 2) (dCons (dLoc 1) dNil)))) (dCon (.int 1)) (dCon (.int 0))) (dCons (dCon (.int 1)) dNil)))) dNil))) dNil)))
  sSkip)
def F__law_unit : List D → Option R := runF 1 3 d__law_unit
def d__law_is_whole : TSD := (sSeq2 (sRet (dAnd (dOp (pIsi "int") (dCons (dLoc 0) dNil)) (dNot (dOp (pIsi "bool") (dCons (dLoc 0) dNil)))))
  sSkip)
def F__law_is_whole : List D → Option R := runF 1 1 d__law_is_whole
def d__law_is_frac : TSD := (sSeq2 (sIf (bOr (bNot (bTru (dOp (pIsi "tuple") (dCons (dLoc 0) dNil)))) (bOr (bVal (dOp pNe (dCons (dOp pLen (dCons (dLoc 0) dNil)) (dCons (dCon (.int 2)) dNil)))) (bVal (dOp pIn (dCons (dCon (.bool false)) (dCons (dComp [1] (sSeq (dLoc 0)) (tName 1) bYes (dCall F__law_is_whole (dCons (dLoc 1) dNil))) dNil)))))) (sSeq2 (sRet (dCon (.bool false)))
  sSkip) sSkip)
  (sSeq2 (sRet (dAnd (dOp pGt (dCons (dOp pIx (dCons (dLoc 0) (dCons (dCon (.int 1)) dNil))) (dCons (dCon (.int 0)) dNil))) (dOp pEq (dCons (dCall F__law_frac (dCons (dOp pIx (dCons (dLoc 0) (dCons (dCon (.int 0)) dNil))) (dCons (dOp pIx (dCons (dLoc 0) (dCons (dCon (.int 1)) dNil))) dNil))) (dCons (dLoc 0) dNil)))))
  sSkip))
def F__law_is_frac : List D → Option R := runF 1 2 d__law_is_frac
def d__law_is_line : TSD := (sSeq2 (sRet (dAnd (dOp (pIsi "tuple") (dCons (dLoc 0) dNil)) (dAnd (dOp pEq (dCons (dOp pLen (dCons (dLoc 0) dNil)) (dCons (dLoc 1) dNil))) (dOp pNotIn (dCons (dCon (.bool false)) (dCons (dComp [2] (sSeq (dLoc 0)) (tName 2) bYes (dCall F__law_is_frac (dCons (dLoc 2) dNil))) dNil))))))
  sSkip)
def F__law_is_line : List D → Option R := runF 2 3 d__law_is_line
def d__law_is_grid : TSD := (sSeq2 (sIf (bOr (bNot (bTru (dOp (pIsi "tuple") (dCons (dLoc 0) dNil)))) (bNot (bVal (dChain (fun i j => decide (i < j)) (fun i j => decide (i < j)) (dCon (.int 0)) (dOp pLen (dCons (dLoc 0) dNil)) (dCon (.int 6)))))) (sSeq2 (sRet (dCon (.bool false)))
  sSkip) sSkip)
  (sSeq2 (sRet (dOp pNotIn (dCons (dCon (.bool false)) (dCons (dComp [1] (sSeq (dLoc 0)) (tName 1) bYes (dCall F__law_is_line (dCons (dLoc 1) (dCons (dOp pLen (dCons (dLoc 0) dNil)) dNil)))) dNil))))
  sSkip))
def F__law_is_grid : List D → Option R := runF 1 2 d__law_is_grid
def d_is_whole : TSD := (sSeq2 (sRet (dAnd (dOp (pIsi "int") (dCons (dLoc 0) dNil)) (dNot (dOp (pIsi "bool") (dCons (dLoc 0) dNil)))))
  sSkip)
def F_is_whole : List D → Option R := runF 1 1 d_is_whole
def d_are_wholes : TSD := (sSeq2 (sRet (dAnd (dOp (pIsi "tuple") (dCons (dLoc 0) dNil)) (dAnd (dOp pEq (dCons (dOp pLen (dCons (dLoc 0) dNil)) (dCons (dLoc 1) dNil))) (dOp pEq (dCons (dComp [2] (sSeq (dLoc 0)) (tName 2) (bNot (bTru (dCall F_is_whole (dCons (dLoc 2) dNil)))) (dLoc 2)) (dCons (dLst dNil) dNil))))))
  sSkip)
def F_are_wholes : List D → Option R := runF 2 3 d_are_wholes
def d_is_fraction : TSD := (sSeq2 (sRet (dAnd (dCall F_are_wholes (dCons (dLoc 0) (dCons (dCon (.int 2)) dNil))) (dAnd (dOp pGt (dCons (dOp pIx (dCons (dLoc 0) (dCons (dCon (.int 1)) dNil))) (dCons (dCon (.int 0)) dNil))) (dOp pEq (dCons (dOp pGcd (dCons (dOp pIx (dCons (dLoc 0) (dCons (dCon (.int 0)) dNil))) (dCons (dOp pIx (dCons (dLoc 0) (dCons (dCon (.int 1)) dNil))) dNil))) (dCons (dCon (.int 1)) dNil))))))
  sSkip)
def F_is_fraction : List D → Option R := runF 1 1 d_is_fraction
def d_are_fractions : TSD := (sSeq2 (sRet (dAnd (dOp (pIsi "tuple") (dCons (dLoc 0) dNil)) (dAnd (dOp pEq (dCons (dOp pLen (dCons (dLoc 0) dNil)) (dCons (dLoc 1) dNil))) (dOp pEq (dCons (dComp [2] (sSeq (dLoc 0)) (tName 2) (bNot (bTru (dCall F_is_fraction (dCons (dLoc 2) dNil)))) (dLoc 2)) (dCons (dLst dNil) dNil))))))
  sSkip)
def F_are_fractions : List D → Option R := runF 2 3 d_are_fractions
def d_is_table : TSD := (sSeq2 (sIf (bOr (bNot (bTru (dOp (pIsi "tuple") (dCons (dLoc 0) dNil)))) (bNot (bVal (dChain (fun i j => decide (i ≤ j)) (fun i j => decide (i ≤ j)) (dCon (.int 1)) (dOp pLen (dCons (dLoc 0) dNil)) (dCon (.int 5)))))) (sSeq2 (sRet (dCon (.bool false)))
  sSkip) sSkip)
  (sSeq2 (sRet (dOp pEq (dCons (dComp [1] (sSeq (dLoc 0)) (tName 1) (bNot (bTru (dCall F_are_fractions (dCons (dLoc 1) (dCons (dOp pLen (dCons (dLoc 0) dNil)) dNil))))) (dLoc 1)) (dCons (dLst dNil) dNil))))
  sSkip))
def F_is_table : List D → Option R := runF 1 2 d_is_table
def d_check_table : TSD := (sSeq2 (sIf (bNot (bTru (dCall F_is_table (dCons (dLoc 0) dNil)))) (sSeq2 sNone
  sSkip) sSkip)
  sSkip)
def F_check_table : List D → Option R := runF 1 1 d_check_table
def d_common_part : TSD := (sSeq2 (sAsg (dCon (.int 0)) (tName 1))
  (sSeq2 (sFor (sSeq (dLoc 0)) (tName 2) (sSeq2 (sAsg (dOp pGcd (dCons (dLoc 1) (dCons (dLoc 2) dNil))) (tName 1))
  sSkip))
  (sSeq2 (sRet (dLoc 1))
  sSkip)))
def F_common_part : List D → Option R := runF 1 3 d_common_part
def d_lowest : TSD := (sSeq2 (sAsg (dCall F_common_part (dCons (dLoc 0) dNil)) (tName 1))
  (sSeq2 (sRet (dOp pTuple (dCons (dComp [2] (sSeq (dLoc 0)) (tName 2) bYes (dOp pDiv (dCons (dLoc 2) (dCons (dLoc 1) dNil)))) dNil)))
  sSkip))
def F_lowest : List D → Option R := runF 1 3 d_lowest
def d_lowest_over : TSD := (sSeq2 (sAsg (dIf (bVal (dOp pGt (dCons (dLoc 1) (dCons (dCon (.int 0)) dNil)))) (dCon (.int 1)) (dOp pNeg (dCons (dCon (.int 1)) dNil))) (tName 2))
  (sSeq2 (sRet (dCall F_lowest (dCons (dOp pAdd (dCons (dComp [3] (sSeq (dLoc 0)) (tName 3) bYes (dOp pMul (dCons (dLoc 2) (dCons (dLoc 3) dNil)))) (dCons (dLst (dCons (dOp pMul (dCons (dLoc 2) (dCons (dLoc 1) dNil))) dNil)) dNil))) dNil)))
  sSkip))
def F_lowest_over : List D → Option R := runF 2 4 d_lowest_over
def d_ratio : TSD := (sSeq2 (sRet (dCall F_lowest_over (dCons (dLst (dCons (dLoc 0) dNil)) (dCons (dLoc 1) dNil))))
  sSkip)
def F_ratio : List D → Option R := runF 2 2 d_ratio
def d_plus : TSD := (sSeq2 (sRet (dCall F_ratio (dCons (dOp pAdd (dCons (dOp pMul (dCons (dOp pIx (dCons (dLoc 0) (dCons (dCon (.int 0)) dNil))) (dCons (dOp pIx (dCons (dLoc 1) (dCons (dCon (.int 1)) dNil))) dNil))) (dCons (dOp pMul (dCons (dOp pIx (dCons (dLoc 1) (dCons (dCon (.int 0)) dNil))) (dCons (dOp pIx (dCons (dLoc 0) (dCons (dCon (.int 1)) dNil))) dNil))) dNil))) (dCons (dOp pMul (dCons (dOp pIx (dCons (dLoc 0) (dCons (dCon (.int 1)) dNil))) (dCons (dOp pIx (dCons (dLoc 1) (dCons (dCon (.int 1)) dNil))) dNil))) dNil))))
  sSkip)
def F_plus : List D → Option R := runF 2 2 d_plus
def d_times : TSD := (sSeq2 (sRet (dCall F_ratio (dCons (dOp pMul (dCons (dOp pIx (dCons (dLoc 0) (dCons (dCon (.int 0)) dNil))) (dCons (dOp pIx (dCons (dLoc 1) (dCons (dCon (.int 0)) dNil))) dNil))) (dCons (dOp pMul (dCons (dOp pIx (dCons (dLoc 0) (dCons (dCon (.int 1)) dNil))) (dCons (dOp pIx (dCons (dLoc 1) (dCons (dCon (.int 1)) dNil))) dNil))) dNil))))
  sSkip)
def F_times : List D → Option R := runF 2 2 d_times
def d_total : TSD := (sSeq2 (sAsg (dCon (.tuple [(.int 0), (.int 1)])) (tName 1))
  (sSeq2 (sFor (sSeq (dLoc 0)) (tName 2) (sSeq2 (sAsg (dCall F_plus (dCons (dLoc 1) (dCons (dLoc 2) dNil))) (tName 1))
  sSkip))
  (sSeq2 (sRet (dLoc 1))
  sSkip)))
def F_total : List D → Option R := runF 1 3 d_total
def d_dot : TSD := (sSeq2 (sRet (dCall F_total (dCons (dComp [2, 3] (sZip (dLoc 0) (dLoc 1)) (gTupD 2 (gsCons (tName 2) (gsCons (tName 3) gsNil))) bYes (dCall F_times (dCons (dLoc 2) (dCons (dLoc 3) dNil)))) dNil)))
  sSkip)
def F_dot : List D → Option R := runF 2 4 d_dot
def d_turned_of : TSD := (sSeq2 (sRet (dOp pTuple (dCons (dComp [1] (sRg1 (dOp pLen (dCons (dOp pIx (dCons (dLoc 0) (dCons (dCon (.int 0)) dNil))) dNil))) (tName 1) bYes (dOp pTuple (dCons (dComp [2] (sSeq (dLoc 0)) (tName 2) bYes (dOp pIx (dCons (dLoc 2) (dCons (dLoc 1) dNil)))) dNil))) dNil)))
  sSkip)
def F_turned_of : List D → Option R := runF 1 3 d_turned_of
def d_product_of : TSD := (sSeq2 (sAsg (dCall F_turned_of (dCons (dLoc 1) dNil)) (tName 2))
  (sSeq2 (sRet (dOp pTuple (dCons (dComp [3] (sSeq (dLoc 0)) (tName 3) bYes (dOp pTuple (dCons (dComp [4] (sSeq (dLoc 2)) (tName 4) bYes (dCall F_dot (dCons (dLoc 3) (dCons (dLoc 4) dNil)))) dNil))) dNil)))
  sSkip))
def F_product_of : List D → Option R := runF 2 5 d_product_of
def d_product : TSD := (sSeq2 (sExp (dCall F_check_table (dCons (dLoc 0) dNil)))
  (sSeq2 (sIf (bOr (bNot (bTru (dCall F_is_table (dCons (dLoc 1) dNil)))) (bVal (dOp pNe (dCons (dOp pLen (dCons (dLoc 1) dNil)) (dCons (dOp pLen (dCons (dLoc 0) dNil)) dNil))))) (sSeq2 sNone
  sSkip) sSkip)
  (sSeq2 (sRet (dCall F_product_of (dCons (dLoc 0) (dCons (dLoc 1) dNil))))
  sSkip)))
def F_product : List D → Option R := runF 2 2 d_product
def d_turned : TSD := (sSeq2 (sExp (dCall F_check_table (dCons (dLoc 0) dNil)))
  (sSeq2 (sRet (dCall F_turned_of (dCons (dLoc 0) dNil)))
  sSkip))
def F_turned : List D → Option R := runF 1 1 d_turned

end
/-! ### the law's own pot -/
/-- the pot: at most b draws are still to come -/
def VI (b : Nat) (xs : List D) : Prop := ∃ a s c : Int, xs = [.int a, .int s, .int c] ∧ 0 ≤ a ∧ 0 ≤ s ∧ s < 2147483353 ∧ 0 ≤ c ∧ c + b ≤ 1048576
theorem VI.less {b c : Nat} {xs : List D} (h : VI b xs) (l : c ≤ b) : VI c xs := by
  obtain ⟨a, s, k, e, h1, h2, h3, h4, h5⟩ := h
  exact ⟨a, s, k, e, h1, h2, h3, h4, by omega⟩
theorem cup_spec {b : Nat} {xs : List D} {m : Int} (h : VI (b + 1) xs) (h1 : 1 ≤ m) (h2 : m < 2 ^ 40) : ∃ i xs', F__law_cup xs [.int m] = some (.v (.int i), xs') ∧ 0 ≤ i ∧ i < m ∧ VI b xs' := by
  obtain ⟨a, s, c, rfl, ha, hs, hs2, hc, hb⟩ := h
  by_cases z : 0 < a
  · have hp : Builtin.divisionGoesByPylong a m = false := pylong_no (n := 40) (Bd.nat (by omega) h2) (by decide)
    refine ⟨a % m, [.int (a / m), .int s, .int c], ?_, Int.emod_nonneg _ (by omega), Int.emod_lt_of_pos _ (by omega), a / m, s, c, rfl, Int.ediv_nonneg (by omega) (by omega), hs, hs2, hc, by omega⟩
    simp [F__law_cup, d__law_cup, dLoc, dCon, dNil, dCons, dOp, dTup, dLst, looks, look, frz, dCall, dCallV, dCallK, reord, sSeq2, sSkip, sExp, sRet, sRetN, sIf, sAsg, sAsgT, bVal, bTru, bNot, bAnd, bOr, bYes, dAnd, dOr, dNot, dIf, tName, gsNil, gsCons, gTupD, Dn.tSub, Dn.valOf, asB, ownAt, asI, isPin, sl, dCut, iOf, iNo, fin, endV, runP, runF, runV, runW, startR, startV, dEmp, dChain, res, truR, Dn.tru, itemsOf, sNone, sSeq, sRg1, sRg2, sZip, sEnum, sFor, dApp, dPop, sBrk, sCnt, isNone, atI0, atI1, atI2, ixN3_0, ixN3_1, ixN3_2, ixN2_0, ixN2_1, noPins, e_add, e_addT, e_addL, e_sub, e_mul, e_mulL, e_mulT, e_div, e_mod, e_neg, e_eqI, e_neI, e_eqB, e_eqT, e_eqL, e_neT, e_neL, e_cmp, e_is, e_isnot, e_ixL, e_ixT, e_lenL, e_lenT, e_tupL, e_tupT, e_lstL, e_lstT, e_int, e_intB, e_abs, e_sum, e_divmod, e_gcd, e_max, e_min, e_isi, e_cutL, e_cutT, z, show 0 < m by omega, hp]
  · have za : a = 0 := by omega
    subst za
    have m1 : mulOk s 40771 = true := mul_ok (n := 31) (m := 16) (Bd.nat hs (by omega)) (Bd.nat (by decide) (by decide)) (by decide)
    have m2 : mulOk (c + 1) 52391 = true := mul_ok (n := 21) (m := 16) (Bd.nat (by omega) (by omega)) (Bd.nat (by decide) (by decide)) (by decide)
    have f0 : ∀ x : Int, x.fmod 2147483353 = x % 2147483353 := fun x => Int.fmod_eq_emod_of_nonneg _ (by decide)
    have f1 : ∀ x : Int, x.fdiv 29 = x / 29 := fun x => Int.fdiv_eq_ediv_of_nonneg _ (by decide)
    have f2 : ∀ x : Int, x.fdiv 109 = x / 109 := fun x => Int.fdiv_eq_ediv_of_nonneg _ (by decide)
    have f3 : ∀ x : Int, x.fmod m = x % m := fun x => Int.fmod_eq_emod_of_nonneg _ (by omega)
    have d1 : ∀ x : Int, divOk x 29 = true := fun x => div_ok (n := 5) (Bd.nat (by decide) (by decide)) (by decide) (by decide)
    have d2 : ∀ x : Int, divOk x 109 = true := fun x => div_ok (n := 7) (Bd.nat (by decide) (by decide)) (by decide) (by decide)
    generalize hl : (s * 40771 + (c + 1) * 52391 + 19) % 2147483353 = l
    have l0 : 0 ≤ l := by rw [← hl]; exact Int.emod_nonneg _ (by decide)
    have l1 : l < 2147483353 := by rw [← hl]; exact Int.emod_lt_of_pos _ (by decide)
    have q0 : 0 ≤ l / 29 := by omega
    have m3 : mulOk 2 (l / 29) = true := mul_ok (n := 2) (m := 31) (Bd.nat (by decide) (by decide)) (Bd.nat q0 (by omega)) (by decide)
    have m4 : mulOk l (2 * (l / 29) + 18979) = true := mul_ok (n := 31) (m := 33) (Bd.nat l0 (by omega)) (Bd.nat (by omega) (by omega)) (by decide)
    generalize ht : (l * (2 * (l / 29) + 18979) + (c + 1)) % 2147483353 = t
    have t0 : 0 ≤ t := by rw [← ht]; exact Int.emod_nonneg _ (by decide)
    have t1 : t < 2147483353 := by rw [← ht]; exact Int.emod_lt_of_pos _ (by decide)
    refine ⟨t / 109 % m, [.int 0, .int t, .int (c + 1)], ?_, Int.emod_nonneg _ (by omega), Int.emod_lt_of_pos _ (by omega), 0, t, c + 1, rfl, by omega, t0, t1, by omega, by omega⟩
    simp [F__law_cup, d__law_cup, dLoc, dCon, dNil, dCons, dOp, dTup, dLst, looks, look, frz, dCall, dCallV, dCallK, reord, sSeq2, sSkip, sExp, sRet, sRetN, sIf, sAsg, sAsgT, bVal, bTru, bNot, bAnd, bOr, bYes, dAnd, dOr, dNot, dIf, tName, gsNil, gsCons, gTupD, Dn.tSub, Dn.valOf, asB, ownAt, asI, isPin, sl, dCut, iOf, iNo, fin, endV, runP, runF, runV, runW, startR, startV, dEmp, dChain, res, truR, Dn.tru, itemsOf, sNone, sSeq, sRg1, sRg2, sZip, sEnum, sFor, dApp, dPop, sBrk, sCnt, isNone, atI0, atI1, atI2, ixN3_0, ixN3_1, ixN3_2, ixN2_0, ixN2_1, noPins, e_add, e_addT, e_addL, e_sub, e_mul, e_mulL, e_mulT, e_div, e_mod, e_neg, e_eqI, e_neI, e_eqB, e_eqT, e_eqL, e_neT, e_neL, e_cmp, e_is, e_isnot, e_ixL, e_ixT, e_lenL, e_lenT, e_tupL, e_tupT, e_lstL, e_lstT, e_int, e_intB, e_abs, e_sum, e_divmod, e_gcd, e_max, e_min, e_isi, e_cutL, e_cutT, m1, m2, f0, f1, f2, f3, d1, d2, hl, m3, m4, ht, show m ≠ 0 by omega]
theorem one_of_spec {b : Nat} {xs ds : List D} (h : VI (b + 1) xs) (h0 : ds ≠ []) (h1 : ds.length < 1000) : ∃ d xs', F__law_one_of xs [.tuple ds] = some (.v d, xs') ∧ d ∈ ds ∧ VI b xs' := by
  have lp : 0 < ds.length := List.length_pos_iff.mpr h0
  obtain ⟨i, xs', e, i0, i1, v⟩ := cup_spec (m := ds.length) h (by omega) (by omega)
  have hi : i.toNat < ds.length := by omega
  refine ⟨ds[i.toNat], xs', ?_, List.getElem_mem _, v⟩
  have ei : i = (i.toNat : Int) := by omega
  have ea : atI ds i = some ds[i.toNat] := by rw [atI_at ei, List.getElem?_eq_getElem hi]
  simp [F__law_one_of, d__law_one_of, dLoc, dCon, dNil, dCons, dOp, dTup, dLst, looks, look, frz, dCall, dCallV, dCallK, reord, sSeq2, sSkip, sExp, sRet, sRetN, sIf, sAsg, sAsgT, bVal, bTru, bNot, bAnd, bOr, bYes, dAnd, dOr, dNot, dIf, tName, gsNil, gsCons, gTupD, Dn.tSub, Dn.valOf, asB, ownAt, asI, isPin, sl, dCut, iOf, iNo, fin, endV, runP, runF, runV, runW, startR, startV, dEmp, dChain, res, truR, Dn.tru, itemsOf, sNone, sSeq, sRg1, sRg2, sZip, sEnum, sFor, dApp, dPop, sBrk, sCnt, isNone, atI0, atI1, atI2, ixN3_0, ixN3_1, ixN3_2, ixN2_0, ixN2_1, noPins, e_add, e_addT, e_addL, e_sub, e_mul, e_mulL, e_mulT, e_div, e_mod, e_neg, e_eqI, e_neI, e_eqB, e_eqT, e_eqL, e_neT, e_neL, e_cmp, e_is, e_isnot, e_ixL, e_ixT, e_lenL, e_lenT, e_tupL, e_tupT, e_lstL, e_lstT, e_int, e_intB, e_abs, e_sum, e_divmod, e_gcd, e_max, e_min, e_isi, e_cutL, e_cutT, e, ea]
theorem one_of_L {b : Nat} {xs ds : List D} (h : VI (b + 1) xs) (h0 : ds ≠ []) (h1 : ds.length < 1000) : ∃ d xs', F__law_one_of xs [.list ds] = some (.v d, xs') ∧ d ∈ ds ∧ VI b xs' := by
  have lp : 0 < ds.length := List.length_pos_iff.mpr h0
  obtain ⟨i, xs', e, i0, i1, v⟩ := cup_spec (m := ds.length) h (by omega) (by omega)
  have hi : i.toNat < ds.length := by omega
  refine ⟨ds[i.toNat], xs', ?_, List.getElem_mem _, v⟩
  have ei : i = (i.toNat : Int) := by omega
  have ea : atI ds i = some ds[i.toNat] := by rw [atI_at ei, List.getElem?_eq_getElem hi]
  simp [F__law_one_of, d__law_one_of, dLoc, dCon, dNil, dCons, dOp, dTup, dLst, looks, look, frz, dCall, dCallV, dCallK, reord, sSeq2, sSkip, sExp, sRet, sRetN, sIf, sAsg, sAsgT, bVal, bTru, bNot, bAnd, bOr, bYes, dAnd, dOr, dNot, dIf, tName, gsNil, gsCons, gTupD, Dn.tSub, Dn.valOf, asB, ownAt, asI, isPin, sl, dCut, iOf, iNo, fin, endV, runP, runF, runV, runW, startR, startV, dEmp, dChain, res, truR, Dn.tru, itemsOf, sNone, sSeq, sRg1, sRg2, sZip, sEnum, sFor, dApp, dPop, sBrk, sCnt, isNone, atI0, atI1, atI2, ixN3_0, ixN3_1, ixN3_2, ixN2_0, ixN2_1, noPins, e_add, e_addT, e_addL, e_sub, e_mul, e_mulL, e_mulT, e_div, e_mod, e_neg, e_eqI, e_neI, e_eqB, e_eqT, e_eqL, e_neT, e_neL, e_cmp, e_is, e_isnot, e_ixL, e_ixT, e_lenL, e_lenT, e_tupL, e_tupT, e_lstL, e_lstT, e_int, e_intB, e_abs, e_sum, e_divmod, e_gcd, e_max, e_min, e_isi, e_cutL, e_cutT, e, ea]

/-! ### fractions, as the law and the program make them -/
theorem common_spec (a b : Int) : F__law_common [.int a, .int b] = some (.v (.int (Nat.gcd a.natAbs b.natAbs : Nat))) := by
  have key : ∃ ρ', sWhile (bVal (dOp pGt (dCons (dLoc 1) (dCons (dCon (.int 0)) dNil)))) (sSeq2 (sAsgT (dCons (dLoc 1) (dCons (dOp pMod (dCons (dOp pInt (dCons (dLoc 0) dNil)) (dCons (dLoc 1) dNil))) dNil)) 2 (gsCons (tName 0) (gsCons (tName 1) gsNil))) sSkip)
      [some (.val (.int (a.natAbs : Int))), some (.val (.int (b.natAbs : Int)))] = some (.nx ρ') ∧ ∃ z, ρ' = [some (.val (.int (Nat.gcd a.natAbs b.natAbs : Nat))), some (.val (.int z))] := by
    refine sWhile_inv b.natAbs (fun m ρ => ∃ x y : Nat, m = y ∧ ρ = [some (.val (.int (x : Int))), some (.val (.int (y : Int)))] ∧ Nat.gcd x y = Nat.gcd a.natAbs b.natAbs) _ ?_ ⟨a.natAbs, b.natAbs, rfl, rfl, rfl⟩
    rintro m ρ ⟨x, y, rfl, rfl, hg⟩
    by_cases hy : m = 0
    · subst hy
      refine .inl ⟨[some (.val (.int (x : Int))), some (.val (.int 0))], by simp [dLoc, dCon, dNil, dCons, dOp, dTup, dLst, looks, look, frz, dCall, dCallV, dCallK, reord, sSeq2, sSkip, sExp, sRet, sRetN, sIf, sAsg, sAsgT, bVal, bTru, bNot, bAnd, bOr, bYes, dAnd, dOr, dNot, dIf, tName, gsNil, gsCons, gTupD, Dn.tSub, Dn.valOf, asB, ownAt, asI, isPin, sl, dCut, iOf, iNo, fin, endV, runP, runF, runV, runW, startR, startV, dEmp, dChain, res, truR, Dn.tru, itemsOf, sNone, sSeq, sRg1, sRg2, sZip, sEnum, sFor, dApp, dPop, sBrk, sCnt, isNone, atI0, atI1, atI2, ixN3_0, ixN3_1, ixN3_2, ixN2_0, ixN2_1, noPins, e_add, e_addT, e_addL, e_sub, e_mul, e_mulL, e_mulT, e_div, e_mod, e_neg, e_eqI, e_neI, e_eqB, e_eqT, e_eqL, e_neT, e_neL, e_cmp, e_is, e_isnot, e_ixL, e_ixT, e_lenL, e_lenT, e_tupL, e_tupT, e_lstL, e_lstT, e_int, e_intB, e_abs, e_sum, e_divmod, e_gcd, e_max, e_min, e_isi, e_cutL, e_cutT], 0, ?_⟩
      rw [← hg, Nat.gcd_zero_right]
    · refine .inr ⟨_, [some (.val (.int (m : Int))), some (.val (.int ((x % m : Nat) : Int)))], x % m, by simp [dLoc, dCon, dNil, dCons, dOp, dTup, dLst, looks, look, frz, dCall, dCallV, dCallK, reord, sSeq2, sSkip, sExp, sRet, sRetN, sIf, sAsg, sAsgT, bVal, bTru, bNot, bAnd, bOr, bYes, dAnd, dOr, dNot, dIf, tName, gsNil, gsCons, gTupD, Dn.tSub, Dn.valOf, asB, ownAt, asI, isPin, sl, dCut, iOf, iNo, fin, endV, runP, runF, runV, runW, startR, startV, dEmp, dChain, res, truR, Dn.tru, itemsOf, sNone, sSeq, sRg1, sRg2, sZip, sEnum, sFor, dApp, dPop, sBrk, sCnt, isNone, atI0, atI1, atI2, ixN3_0, ixN3_1, ixN3_2, ixN2_0, ixN2_1, noPins, e_add, e_addT, e_addL, e_sub, e_mul, e_mulL, e_mulT, e_div, e_mod, e_neg, e_eqI, e_neI, e_eqB, e_eqT, e_eqL, e_neT, e_neL, e_cmp, e_is, e_isnot, e_ixL, e_ixT, e_lenL, e_lenT, e_tupL, e_tupT, e_lstL, e_lstT, e_int, e_intB, e_abs, e_sum, e_divmod, e_gcd, e_max, e_min, e_isi, e_cutL, e_cutT, show 0 < m by omega]; rfl, ?_, Nat.mod_lt _ (by omega), m, x % m, rfl, rfl, ?_⟩
      · have f : ((x : Int)).fmod (m : Int) = ((x % m : Nat) : Int) := by rw [Int.fmod_eq_emod_of_nonneg _ (by omega)]; rfl
        simp [dLoc, dCon, dNil, dCons, dOp, dTup, dLst, looks, look, frz, dCall, dCallV, dCallK, reord, sSeq2, sSkip, sExp, sRet, sRetN, sIf, sAsg, sAsgT, bVal, bTru, bNot, bAnd, bOr, bYes, dAnd, dOr, dNot, dIf, tName, gsNil, gsCons, gTupD, Dn.tSub, Dn.valOf, asB, ownAt, asI, isPin, sl, dCut, iOf, iNo, fin, endV, runP, runF, runV, runW, startR, startV, dEmp, dChain, res, truR, Dn.tru, itemsOf, sNone, sSeq, sRg1, sRg2, sZip, sEnum, sFor, dApp, dPop, sBrk, sCnt, isNone, atI0, atI1, atI2, ixN3_0, ixN3_1, ixN3_2, ixN2_0, ixN2_1, noPins, e_add, e_addT, e_addL, e_sub, e_mul, e_mulL, e_mulT, e_div, e_mod, e_neg, e_eqI, e_neI, e_eqB, e_eqT, e_eqL, e_neT, e_neL, e_cmp, e_is, e_isnot, e_ixL, e_ixT, e_lenL, e_lenT, e_tupL, e_tupT, e_lstL, e_lstT, e_int, e_intB, e_abs, e_sum, e_divmod, e_gcd, e_max, e_min, e_isi, e_cutL, e_cutT, hy, f]
      · rw [← hg, Nat.gcd_comm x m, Nat.gcd_rec m x, Nat.gcd_comm]
  obtain ⟨ρ', e, z, rfl⟩ := key
  have h1 : (if a < 0 then -a else a) = (a.natAbs : Int) := by split <;> omega
  have h2 : (if b < 0 then -b else b) = (b.natAbs : Int) := by split <;> omega
  simp [F__law_common, d__law_common, dLoc, dCon, dNil, dCons, dOp, dTup, dLst, looks, look, frz, dCall, dCallV, dCallK, reord, sSeq2, sSkip, sExp, sRet, sRetN, sIf, sAsg, sAsgT, bVal, bTru, bNot, bAnd, bOr, bYes, dAnd, dOr, dNot, dIf, tName, gsNil, gsCons, gTupD, Dn.tSub, Dn.valOf, asB, ownAt, asI, isPin, sl, dCut, iOf, iNo, fin, endV, runP, runF, runV, runW, startR, startV, dEmp, dChain, res, truR, Dn.tru, itemsOf, sNone, sSeq, sRg1, sRg2, sZip, sEnum, sFor, dApp, dPop, sBrk, sCnt, isNone, atI0, atI1, atI2, ixN3_0, ixN3_1, ixN3_2, ixN2_0, ixN2_1, noPins, e_add, e_addT, e_addL, e_sub, e_mul, e_mulL, e_mulT, e_div, e_mod, e_neg, e_eqI, e_neI, e_eqB, e_eqT, e_eqL, e_neT, e_neL, e_cmp, e_is, e_isnot, e_ixL, e_ixT, e_lenL, e_lenT, e_tupL, e_tupT, e_lstL, e_lstT, e_int, e_intB, e_abs, e_sum, e_divmod, e_gcd, e_max, e_min, e_isi, e_cutL, e_cutT, h1, h2] at e ⊢
  simp [e]
theorem frac_spec {n d : Nat} {a b : Int} (h : b ≠ 0) (hb : Bd d b) (hd : d ≤ 9000) : F__law_frac [.int a, .int b] = some (.v (enc (Rat.divInt a b))) := by
  have lp := low_pair (a := a) (b := b) h rfl
  have gp : (0 : Int) < (Nat.gcd a.natAbs b.natAbs : Nat) := by have := Nat.gcd_pos_of_pos_right (n := b.natAbs) a.natAbs (by omega); omega
  have gb : Bd d ((Nat.gcd a.natAbs b.natAbs : Nat) : Int) := hb.le (by have := Nat.gcd_le_right (n := b.natAbs) a.natAbs (by omega); simpa using this)
  have d1 : ∀ x : Int, divOk x ((Nat.gcd a.natAbs b.natAbs : Nat) : Int) = true := fun x => div_ok gb hd (by omega)
  have d2 : ∀ x : Int, divOk x (-((Nat.gcd a.natAbs b.natAbs : Nat) : Int)) = true := fun x => div_ok gb.neg hd (by omega)
  by_cases z : 0 < b
  · rw [if_pos z] at lp
    simp [F__law_frac, d__law_frac, dLoc, dCon, dNil, dCons, dOp, dTup, dLst, looks, look, frz, dCall, dCallV, dCallK, reord, sSeq2, sSkip, sExp, sRet, sRetN, sIf, sAsg, sAsgT, bVal, bTru, bNot, bAnd, bOr, bYes, dAnd, dOr, dNot, dIf, tName, gsNil, gsCons, gTupD, Dn.tSub, Dn.valOf, asB, ownAt, asI, isPin, sl, dCut, iOf, iNo, fin, endV, runP, runF, runV, runW, startR, startV, dEmp, dChain, res, truR, Dn.tru, itemsOf, sNone, sSeq, sRg1, sRg2, sZip, sEnum, sFor, dApp, dPop, sBrk, sCnt, isNone, atI0, atI1, atI2, ixN3_0, ixN3_1, ixN3_2, ixN2_0, ixN2_1, noPins, e_add, e_addT, e_addL, e_sub, e_mul, e_mulL, e_mulT, e_div, e_mod, e_neg, e_eqI, e_neI, e_eqB, e_eqT, e_eqL, e_neT, e_neL, e_cmp, e_is, e_isnot, e_ixL, e_ixT, e_lenL, e_lenT, e_tupL, e_tupT, e_lstL, e_lstT, e_int, e_intB, e_abs, e_sum, e_divmod, e_gcd, e_max, e_min, e_isi, e_cutL, e_cutT, common_spec, z, d1, lp.1, lp.2, enc]
  · rw [if_neg z] at lp
    simp [F__law_frac, d__law_frac, dLoc, dCon, dNil, dCons, dOp, dTup, dLst, looks, look, frz, dCall, dCallV, dCallK, reord, sSeq2, sSkip, sExp, sRet, sRetN, sIf, sAsg, sAsgT, bVal, bTru, bNot, bAnd, bOr, bYes, dAnd, dOr, dNot, dIf, tName, gsNil, gsCons, gTupD, Dn.tSub, Dn.valOf, asB, ownAt, asI, isPin, sl, dCut, iOf, iNo, fin, endV, runP, runF, runV, runW, startR, startV, dEmp, dChain, res, truR, Dn.tru, itemsOf, sNone, sSeq, sRg1, sRg2, sZip, sEnum, sFor, dApp, dPop, sBrk, sCnt, isNone, atI0, atI1, atI2, ixN3_0, ixN3_1, ixN3_2, ixN2_0, ixN2_1, noPins, e_add, e_addT, e_addL, e_sub, e_mul, e_mulL, e_mulT, e_div, e_mod, e_neg, e_eqI, e_neI, e_eqB, e_eqT, e_eqL, e_neT, e_neL, e_cmp, e_is, e_isnot, e_ixL, e_ixT, e_lenL, e_lenT, e_tupL, e_tupT, e_lstL, e_lstT, e_int, e_intB, e_abs, e_sum, e_divmod, e_gcd, e_max, e_min, e_isi, e_cutL, e_cutT, common_spec, z, d2, lp.1, lp.2, enc]

theorem enc_ix0 {r : Rat} : atI [PyData.int r.num, .int (r.den : Int)] 0 = some (.int r.num) := atI0
theorem law_add_spec {n d m e : Nat} {r s : Rat} (hr : RB n d r) (hs : RB m e s) (h1 : n + e ≤ 100000) (h2 : m + d ≤ 100000) (h3 : d + e ≤ 9000) : F__law_add [enc r, enc s] = some (.v (enc (r + s))) := by
  have m1 : mulOk r.num s.den = true := mul_ok hr.num hs.den (by omega)
  have m2 : mulOk s.num r.den = true := mul_ok hs.num hr.den (by omega)
  have m3 : mulOk r.den s.den = true := mul_ok hr.den hs.den (by omega)
  have f := frac_spec (n := 0) (a := r.num * s.den + s.num * r.den) (den_mul_ne r s) (hr.den.mul hs.den) h3
  rw [← add_divInt] at f
  simp only [enc] at f ⊢
  simp [F__law_add, d__law_add, dLoc, dCon, dNil, dCons, dOp, dTup, dLst, looks, look, frz, dCall, dCallV, dCallK, reord, sSeq2, sSkip, sExp, sRet, sRetN, sIf, sAsg, sAsgT, bVal, bTru, bNot, bAnd, bOr, bYes, dAnd, dOr, dNot, dIf, tName, gsNil, gsCons, gTupD, Dn.tSub, Dn.valOf, asB, ownAt, asI, isPin, sl, dCut, iOf, iNo, fin, endV, runP, runF, runV, runW, startR, startV, dEmp, dChain, res, truR, Dn.tru, itemsOf, sNone, sSeq, sRg1, sRg2, sZip, sEnum, sFor, dApp, dPop, sBrk, sCnt, isNone, atI0, atI1, atI2, ixN3_0, ixN3_1, ixN3_2, ixN2_0, ixN2_1, noPins, e_add, e_addT, e_addL, e_sub, e_mul, e_mulL, e_mulT, e_div, e_mod, e_neg, e_eqI, e_neI, e_eqB, e_eqT, e_eqL, e_neT, e_neL, e_cmp, e_is, e_isnot, e_ixL, e_ixT, e_lenL, e_lenT, e_tupL, e_tupT, e_lstL, e_lstT, e_int, e_intB, e_abs, e_sum, e_divmod, e_gcd, e_max, e_min, e_isi, e_cutL, e_cutT, m1, m2, m3, f]
theorem law_mul_spec {n d m e : Nat} {r s : Rat} (hr : RB n d r) (hs : RB m e s) (h1 : n + m ≤ 100000) (h3 : d + e ≤ 9000) : F__law_mul [enc r, enc s] = some (.v (enc (r * s))) := by
  have m1 : mulOk r.num s.num = true := mul_ok hr.num hs.num (by omega)
  have m3 : mulOk r.den s.den = true := mul_ok hr.den hs.den (by omega)
  have f := frac_spec (n := 0) (a := r.num * s.num) (den_mul_ne r s) (hr.den.mul hs.den) h3
  rw [← mul_divInt] at f
  simp only [enc] at f ⊢
  simp [F__law_mul, d__law_mul, dLoc, dCon, dNil, dCons, dOp, dTup, dLst, looks, look, frz, dCall, dCallV, dCallK, reord, sSeq2, sSkip, sExp, sRet, sRetN, sIf, sAsg, sAsgT, bVal, bTru, bNot, bAnd, bOr, bYes, dAnd, dOr, dNot, dIf, tName, gsNil, gsCons, gTupD, Dn.tSub, Dn.valOf, asB, ownAt, asI, isPin, sl, dCut, iOf, iNo, fin, endV, runP, runF, runV, runW, startR, startV, dEmp, dChain, res, truR, Dn.tru, itemsOf, sNone, sSeq, sRg1, sRg2, sZip, sEnum, sFor, dApp, dPop, sBrk, sCnt, isNone, atI0, atI1, atI2, ixN3_0, ixN3_1, ixN3_2, ixN2_0, ixN2_1, noPins, e_add, e_addT, e_addL, e_sub, e_mul, e_mulL, e_mulT, e_div, e_mod, e_neg, e_eqI, e_neI, e_eqB, e_eqT, e_eqL, e_neT, e_neL, e_cmp, e_is, e_isnot, e_ixL, e_ixT, e_lenL, e_lenT, e_tupL, e_tupT, e_lstL, e_lstT, e_int, e_intB, e_abs, e_sum, e_divmod, e_gcd, e_max, e_min, e_isi, e_cutL, e_cutT, m1, m3, f]
theorem common_part_spec (a b : Int) : F_common_part [.list [.int a, .int b]] = some (.v (.int (Nat.gcd a.natAbs b.natAbs : Nat))) := by
  simp [F_common_part, d_common_part, dLoc, dCon, dNil, dCons, dOp, dTup, dLst, looks, look, frz, dCall, dCallV, dCallK, reord, sSeq2, sSkip, sExp, sRet, sRetN, sIf, sAsg, sAsgT, bVal, bTru, bNot, bAnd, bOr, bYes, dAnd, dOr, dNot, dIf, tName, gsNil, gsCons, gTupD, Dn.tSub, Dn.valOf, asB, ownAt, asI, isPin, sl, dCut, iOf, iNo, fin, endV, runP, runF, runV, runW, startR, startV, dEmp, dChain, res, truR, Dn.tru, itemsOf, sNone, sSeq, sRg1, sRg2, sZip, sEnum, sFor, dApp, dPop, sBrk, sCnt, isNone, atI0, atI1, atI2, ixN3_0, ixN3_1, ixN3_2, ixN2_0, ixN2_1, noPins, e_add, e_addT, e_addL, e_sub, e_mul, e_mulL, e_mulT, e_div, e_mod, e_neg, e_eqI, e_neI, e_eqB, e_eqT, e_eqL, e_neT, e_neL, e_cmp, e_is, e_isnot, e_ixL, e_ixT, e_lenL, e_lenT, e_tupL, e_tupT, e_lstL, e_lstT, e_int, e_intB, e_abs, e_sum, e_divmod, e_gcd, e_max, e_min, e_isi, e_cutL, e_cutT, loopF]
theorem lowest_spec {d : Nat} {a b : Int} (h : 0 < b) (hb : Bd d b) (hd : d ≤ 9000) : F_lowest [.list [.int a, .int b]] = some (.v (enc (Rat.divInt a b))) := by
  have lp := low_pair (a := a) (b := b) (by omega) rfl
  rw [if_pos h] at lp
  have gp : (0 : Int) < (Nat.gcd a.natAbs b.natAbs : Nat) := by have := Nat.gcd_pos_of_pos_right (n := b.natAbs) a.natAbs (by omega); omega
  have gb : Bd d ((Nat.gcd a.natAbs b.natAbs : Nat) : Int) := hb.le (by have := Nat.gcd_le_right (n := b.natAbs) a.natAbs (by omega); simpa using this)
  have d1 : ∀ x : Int, divOk x ((Nat.gcd a.natAbs b.natAbs : Nat) : Int) = true := fun x => div_ok gb hd (by omega)
  simp [F_lowest, d_lowest, dLoc, dCon, dNil, dCons, dOp, dTup, dLst, looks, look, frz, dCall, dCallV, dCallK, reord, sSeq2, sSkip, sExp, sRet, sRetN, sIf, sAsg, sAsgT, bVal, bTru, bNot, bAnd, bOr, bYes, dAnd, dOr, dNot, dIf, tName, gsNil, gsCons, gTupD, Dn.tSub, Dn.valOf, asB, ownAt, asI, isPin, sl, dCut, iOf, iNo, fin, endV, runP, runF, runV, runW, startR, startV, dEmp, dChain, res, truR, Dn.tru, itemsOf, sNone, sSeq, sRg1, sRg2, sZip, sEnum, sFor, dApp, dPop, sBrk, sCnt, isNone, atI0, atI1, atI2, ixN3_0, ixN3_1, ixN3_2, ixN2_0, ixN2_1, noPins, e_add, e_addT, e_addL, e_sub, e_mul, e_mulL, e_mulT, e_div, e_mod, e_neg, e_eqI, e_neI, e_eqB, e_eqT, e_eqL, e_neT, e_neL, e_cmp, e_is, e_isnot, e_ixL, e_ixT, e_lenL, e_lenT, e_tupL, e_tupT, e_lstL, e_lstT, e_int, e_intB, e_abs, e_sum, e_divmod, e_gcd, e_max, e_min, e_isi, e_cutL, e_cutT, common_part_spec, dComp, loopC, wipeR, d1, lp.1, lp.2, enc]
theorem lowest_over_spec {n d : Nat} {a b : Int} (h : b ≠ 0) (ha : Bd n a) (hb : Bd d b) (hn : n ≤ 100000) (hd : d ≤ 9000) : F_lowest_over [.list [.int a], .int b] = some (.v (enc (Rat.divInt a b))) := by
  by_cases z : 0 < b
  · have m1 : mulOk 1 a = true := mul_ok (n := 1) (Bd.nat (by decide) (by decide)) ha (by omega)
    have m2 : mulOk 1 b = true := mul_ok (n := 1) (Bd.nat (by decide) (by decide)) hb (by omega)
    have l := lowest_spec (a := a) z hb hd
    simp [F_lowest_over, d_lowest_over, dLoc, dCon, dNil, dCons, dOp, dTup, dLst, looks, look, frz, dCall, dCallV, dCallK, reord, sSeq2, sSkip, sExp, sRet, sRetN, sIf, sAsg, sAsgT, bVal, bTru, bNot, bAnd, bOr, bYes, dAnd, dOr, dNot, dIf, tName, gsNil, gsCons, gTupD, Dn.tSub, Dn.valOf, asB, ownAt, asI, isPin, sl, dCut, iOf, iNo, fin, endV, runP, runF, runV, runW, startR, startV, dEmp, dChain, res, truR, Dn.tru, itemsOf, sNone, sSeq, sRg1, sRg2, sZip, sEnum, sFor, dApp, dPop, sBrk, sCnt, isNone, atI0, atI1, atI2, ixN3_0, ixN3_1, ixN3_2, ixN2_0, ixN2_1, noPins, e_add, e_addT, e_addL, e_sub, e_mul, e_mulL, e_mulT, e_div, e_mod, e_neg, e_eqI, e_neI, e_eqB, e_eqT, e_eqL, e_neT, e_neL, e_cmp, e_is, e_isnot, e_ixL, e_ixT, e_lenL, e_lenT, e_tupL, e_tupT, e_lstL, e_lstT, e_int, e_intB, e_abs, e_sum, e_divmod, e_gcd, e_max, e_min, e_isi, e_cutL, e_cutT, z, dComp, loopC, wipeR, m1, m2, l]
  · have m1 : mulOk (-1) a = true := mul_ok (n := 1) (by unfold Bd; decide) ha (by omega)
    have m2 : mulOk (-1) b = true := mul_ok (n := 1) (by unfold Bd; decide) hb (by omega)
    have l := lowest_spec (a := -a) (b := -b) (by omega) hb.neg hd
    rw [Rat.neg_divInt_neg] at l
    simp [F_lowest_over, d_lowest_over, dLoc, dCon, dNil, dCons, dOp, dTup, dLst, looks, look, frz, dCall, dCallV, dCallK, reord, sSeq2, sSkip, sExp, sRet, sRetN, sIf, sAsg, sAsgT, bVal, bTru, bNot, bAnd, bOr, bYes, dAnd, dOr, dNot, dIf, tName, gsNil, gsCons, gTupD, Dn.tSub, Dn.valOf, asB, ownAt, asI, isPin, sl, dCut, iOf, iNo, fin, endV, runP, runF, runV, runW, startR, startV, dEmp, dChain, res, truR, Dn.tru, itemsOf, sNone, sSeq, sRg1, sRg2, sZip, sEnum, sFor, dApp, dPop, sBrk, sCnt, isNone, atI0, atI1, atI2, ixN3_0, ixN3_1, ixN3_2, ixN2_0, ixN2_1, noPins, e_add, e_addT, e_addL, e_sub, e_mul, e_mulL, e_mulT, e_div, e_mod, e_neg, e_eqI, e_neI, e_eqB, e_eqT, e_eqL, e_neT, e_neL, e_cmp, e_is, e_isnot, e_ixL, e_ixT, e_lenL, e_lenT, e_tupL, e_tupT, e_lstL, e_lstT, e_int, e_intB, e_abs, e_sum, e_divmod, e_gcd, e_max, e_min, e_isi, e_cutL, e_cutT, z, dComp, loopC, wipeR, m1, m2, l]
theorem ratio_spec {n d : Nat} {a b : Int} (h : b ≠ 0) (ha : Bd n a) (hb : Bd d b) (hn : n ≤ 100000) (hd : d ≤ 9000) : F_ratio [.int a, .int b] = some (.v (enc (Rat.divInt a b))) := by
  simp [F_ratio, d_ratio, dLoc, dCon, dNil, dCons, dOp, dTup, dLst, looks, look, frz, dCall, dCallV, dCallK, reord, sSeq2, sSkip, sExp, sRet, sRetN, sIf, sAsg, sAsgT, bVal, bTru, bNot, bAnd, bOr, bYes, dAnd, dOr, dNot, dIf, tName, gsNil, gsCons, gTupD, Dn.tSub, Dn.valOf, asB, ownAt, asI, isPin, sl, dCut, iOf, iNo, fin, endV, runP, runF, runV, runW, startR, startV, dEmp, dChain, res, truR, Dn.tru, itemsOf, sNone, sSeq, sRg1, sRg2, sZip, sEnum, sFor, dApp, dPop, sBrk, sCnt, isNone, atI0, atI1, atI2, ixN3_0, ixN3_1, ixN3_2, ixN2_0, ixN2_1, noPins, e_add, e_addT, e_addL, e_sub, e_mul, e_mulL, e_mulT, e_div, e_mod, e_neg, e_eqI, e_neI, e_eqB, e_eqT, e_eqL, e_neT, e_neL, e_cmp, e_is, e_isnot, e_ixL, e_ixT, e_lenL, e_lenT, e_tupL, e_tupT, e_lstL, e_lstT, e_int, e_intB, e_abs, e_sum, e_divmod, e_gcd, e_max, e_min, e_isi, e_cutL, e_cutT, lowest_over_spec h ha hb hn hd]
theorem plus_spec {n d m e : Nat} {r s : Rat} (hr : RB n d r) (hs : RB m e s) (h1 : n + e ≤ 90000) (h2 : m + d ≤ 90000) (h3 : d + e ≤ 9000) : F_plus [enc r, enc s] = some (.v (enc (r + s))) := by
  have m1 : mulOk r.num s.den = true := mul_ok hr.num hs.den (by omega)
  have m2 : mulOk s.num r.den = true := mul_ok hs.num hr.den (by omega)
  have m3 : mulOk r.den s.den = true := mul_ok hr.den hs.den (by omega)
  have f := ratio_spec (a := r.num * s.den + s.num * r.den) (den_mul_ne r s) (((hr.num.mul hs.den).up (Nat.le_max_left _ _)).add ((hs.num.mul hr.den).up (Nat.le_max_right _ _))) (hr.den.mul hs.den) (by omega) h3
  rw [← add_divInt] at f
  simp only [enc] at f ⊢
  simp [F_plus, d_plus, dLoc, dCon, dNil, dCons, dOp, dTup, dLst, looks, look, frz, dCall, dCallV, dCallK, reord, sSeq2, sSkip, sExp, sRet, sRetN, sIf, sAsg, sAsgT, bVal, bTru, bNot, bAnd, bOr, bYes, dAnd, dOr, dNot, dIf, tName, gsNil, gsCons, gTupD, Dn.tSub, Dn.valOf, asB, ownAt, asI, isPin, sl, dCut, iOf, iNo, fin, endV, runP, runF, runV, runW, startR, startV, dEmp, dChain, res, truR, Dn.tru, itemsOf, sNone, sSeq, sRg1, sRg2, sZip, sEnum, sFor, dApp, dPop, sBrk, sCnt, isNone, atI0, atI1, atI2, ixN3_0, ixN3_1, ixN3_2, ixN2_0, ixN2_1, noPins, e_add, e_addT, e_addL, e_sub, e_mul, e_mulL, e_mulT, e_div, e_mod, e_neg, e_eqI, e_neI, e_eqB, e_eqT, e_eqL, e_neT, e_neL, e_cmp, e_is, e_isnot, e_ixL, e_ixT, e_lenL, e_lenT, e_tupL, e_tupT, e_lstL, e_lstT, e_int, e_intB, e_abs, e_sum, e_divmod, e_gcd, e_max, e_min, e_isi, e_cutL, e_cutT, m1, m2, m3, f]
theorem times_spec {n d m e : Nat} {r s : Rat} (hr : RB n d r) (hs : RB m e s) (h1 : n + m ≤ 90000) (h3 : d + e ≤ 9000) : F_times [enc r, enc s] = some (.v (enc (r * s))) := by
  have m1 : mulOk r.num s.num = true := mul_ok hr.num hs.num (by omega)
  have m3 : mulOk r.den s.den = true := mul_ok hr.den hs.den (by omega)
  have f := ratio_spec (a := r.num * s.num) (den_mul_ne r s) (hr.num.mul hs.num) (hr.den.mul hs.den) (by omega) h3
  rw [← mul_divInt] at f
  simp only [enc] at f ⊢
  simp [F_times, d_times, dLoc, dCon, dNil, dCons, dOp, dTup, dLst, looks, look, frz, dCall, dCallV, dCallK, reord, sSeq2, sSkip, sExp, sRet, sRetN, sIf, sAsg, sAsgT, bVal, bTru, bNot, bAnd, bOr, bYes, dAnd, dOr, dNot, dIf, tName, gsNil, gsCons, gTupD, Dn.tSub, Dn.valOf, asB, ownAt, asI, isPin, sl, dCut, iOf, iNo, fin, endV, runP, runF, runV, runW, startR, startV, dEmp, dChain, res, truR, Dn.tru, itemsOf, sNone, sSeq, sRg1, sRg2, sZip, sEnum, sFor, dApp, dPop, sBrk, sCnt, isNone, atI0, atI1, atI2, ixN3_0, ixN3_1, ixN3_2, ixN2_0, ixN2_1, noPins, e_add, e_addT, e_addL, e_sub, e_mul, e_mulL, e_mulT, e_div, e_mod, e_neg, e_eqI, e_neI, e_eqB, e_eqT, e_eqL, e_neT, e_neL, e_cmp, e_is, e_isnot, e_ixL, e_ixT, e_lenL, e_lenT, e_tupL, e_tupT, e_lstL, e_lstT, e_int, e_intB, e_abs, e_sum, e_divmod, e_gcd, e_max, e_min, e_isi, e_cutL, e_cutT, m1, m3, f]
end Pl

set_option Elab.async false
set_option linter.all false
set_option maxRecDepth 100000
set_option maxHeartbeats 4000000
namespace Pl
open PySem PySem.Spec PyProof.Rows L2 Dn

theorem loopC_map {α : Type} {vs : List Nat} {tgt : TGD} {cond : TB} {elt : TD} {ρ : Rho} {f : α → D} {g : α → Option D} : ∀ {l : List α} {acc : List D}, (∀ x ∈ l, stepC vs tgt cond elt (f x) ρ = some (g x, ρ)) → acc.length + l.length ≤ 1000000 →
    loopC vs tgt cond elt (l.map f) ρ acc = some (acc ++ l.filterMap g, ρ) := by
  intro l acc h hl
  -- items as pairs of place and value
  induction l generalizing acc with
  | nil => simp [loopC]
  | cons x l ih =>
    have h1 := h x List.mem_cons_self
    have one := loopC_ev (vs := vs) (tgt := tgt) (cond := cond) (elt := elt) (ρ := ρ) (g := fun _ => g x) (ds := [f x]) (acc := acc) (fun d hd => by rw [List.mem_singleton.mp hd]; exact h1) (by simp at hl ⊢; omega)
    have hl' : acc.length + l.length + 1 ≤ 1000000 := by simpa [Nat.add_assoc] using hl
    have cons_eq : ∀ (d : D) (ds : List D), loopC vs tgt cond elt (d :: ds) ρ acc = match loopC vs tgt cond elt [d] ρ acc with
        | some (a, ρ') => loopC vs tgt cond elt ds ρ' a
        | none => none := by
      intro d ds
      simp only [loopC]
      split <;> rename_i e1
      · split <;> rename_i e2
        · split <;> rename_i e3
          · split <;> rename_i e4
            · split <;> rfl
            · rfl
          · rfl
        · rfl
        · rfl
      · rfl
    rw [List.map_cons, cons_eq, one]
    simp only
    rw [ih (fun y hy => h y (List.mem_cons_of_mem _ hy)) (by
      cases g x <;> simp <;> omega)]
    cases hg : g x <;> simp [List.filterMap_cons, hg]
theorem dComp_map {α : Type} {vs : List Nat} {src : TSr} {tgt : TGD} {cond : TB} {elt : TD} {ρ ρ1 : Rho} {f : α → D} {g : α → Option D} {l : List α} (hs : src ρ = some (l.map f, ρ1)) (hp : noPins ρ1 vs = true) (hl : l.length ≤ 1000000) (h : ∀ x ∈ l, stepC vs tgt cond elt (f x) (wipeR ρ1 vs) = some (g x, wipeR ρ1 vs)) :
    dComp vs src tgt cond elt ρ = some (.o (l.filterMap g), wipeR ρ1 vs) := by
  unfold dComp
  rw [hs]
  simp only
  rw [hp, loopC_map h (by simpa using hl)]
  simp
theorem loopF_fold {α β : Type} {tgt : TGD} {body : TSD} {f : α → D} {S : β → Rho} {step : β → α → β} {ok : β → List α → Prop} (h : ∀ st x l, ok st (x :: l) → ∃ ρ1, tgt (.v (f x)) (S st) = some ρ1 ∧ body ρ1 = some (.nx (S (step st x))) ∧ ok (step st x) l) :
    ∀ (l : List α) (st : β), ok st l → loopF tgt body (l.map f) (S st) = some (.nx (S (l.foldl step st)))
  | [], st, _ => rfl
  | x :: l, st, i => by
    obtain ⟨ρ1, e1, e2, i2⟩ := h st x l i
    rw [List.map_cons, loopF]
    simp only [e1, e2]
    exact loopF_fold h l _ i2

/-! ### rows, tables -/
def row (l : List Rat) : D := .tuple (l.map enc)
def tab (t : List (List Rat)) : D := .tuple (t.map row)
def sumQ (l : List Rat) : Rat := l.foldl (· + ·) 0
def dotQ (x y : List Rat) : Rat := sumQ (List.zipWith (· * ·) x y)
theorem zipD_map (x y : List Rat) : zipD (x.map enc) (y.map enc) = (x.zip y).map fun p => .tuple [enc p.1, enc p.2] := by
  induction x generalizing y with
  | nil => rfl
  | cons a x ih => cases y with
    | nil => rfl
    | cons b y => simp [zipD, ih]
/-- a sum's bounds on the way -/
def SB (N D : Nat) (k : Nat) (acc : Rat) (l : List Rat) : Prop := ∃ i, i + l.length = k ∧ RB (N + D * i + i + 1) (1 + D * i) acc ∧ ∀ x ∈ l, RB N D x
theorem SB.step {N D k : Nat} {acc x : Rat} {l : List Rat} (h : SB N D k acc (x :: l)) : SB N D k (acc + x) l ∧ RB (N + D * k + k + 1) (1 + D * k) acc ∧ RB N D x := by
  obtain ⟨i, hi, ha, hl⟩ := h
  have hx := hl x List.mem_cons_self
  have hk : i + 1 + l.length = k := by rw [← hi, List.length_cons]; omega
  have li : D * i + D ≤ D * k := by
    have : D * (i + 1) ≤ D * k := Nat.mul_le_mul_left D (by omega)
    rw [Nat.mul_add] at this; omega
  have e : D * (i + 1) = D * i + D := by rw [Nat.mul_add]; omega
  refine ⟨⟨i + 1, hk, (ha.add hx).up ?_ ?_, fun y hy => hl y (List.mem_cons_of_mem _ hy)⟩, ha.up (by omega) (by omega), hx⟩
  · rw [e]; omega
  · rw [e]; omega
theorem SB.fin {N D k : Nat} : ∀ {l : List Rat} {acc : Rat}, SB N D k acc l → RB (N + D * k + k + 1) (1 + D * k) (l.foldl (· + ·) acc)
  | [], acc, ⟨i, hi, ha, _⟩ => by
    have : i = k := by simpa using hi
    subst this; exact ha
  | x :: l, acc, h => by rw [List.foldl_cons]; exact h.step.1.fin
theorem SB.start {N D : Nat} {l : List Rat} (h : ∀ x ∈ l, RB N D x) : SB N D l.length 0 l := ⟨0, by simp, RB.zero.up (by omega) (by omega), h⟩
theorem zipWith_zip {α β γ : Type} (f : α → β → γ) (x : List α) (y : List β) : List.zipWith f x y = (x.zip y).map fun p => f p.1 p.2 := by
  induction x generalizing y with
  | nil => rfl
  | cons a x ih => cases y with
    | nil => rfl
    | cons b y => simp [ih]
theorem fold_fst {σ : Type} {f : Rat → σ} (l : List Rat) (a : Rat) (o : σ) : (l.foldl (fun (st : Rat × σ) x => (st.1 + x, f x)) (a, o)).1 = l.foldl (· + ·) a := by
  induction l generalizing a o with
  | nil => rfl
  | cons x l ih => rw [List.foldl_cons, List.foldl_cons, ih]
theorem total_spec {N D : Nat} {l : List Rat} (h : ∀ x ∈ l, RB N D x) (hk : l.length ≤ 1000) (hN : N + D * l.length + l.length + D + 10 ≤ 9000) : F_total [.list (l.map enc)] = some (.v (enc (sumQ l))) ∧ RB (N + D * l.length + l.length + 1) (1 + D * l.length) (sumQ l) := by
  refine ⟨?_, (SB.start h).fin⟩
  have key := loopF_fold (tgt := tName 2) (body := sSeq2 (sAsg (dCall F_plus (dCons (dLoc 1) (dCons (dLoc 2) dNil))) (tName 1)) sSkip) (f := enc) (S := fun (st : Rat × Option PyData) => [some (.val (.list (l.map enc))), some (.val (enc st.1)), st.2.map Slot.val]) (step := fun st x => (st.1 + x, some (enc x)))
    (ok := fun st r => SB N D l.length st.1 r) (fun st x r i => by
      obtain ⟨h1, h2, h3⟩ := i.step
      refine ⟨[some (.val (.list (l.map enc))), some (.val (enc st.1)), some (.val (enc x))], by obtain ⟨a, o⟩ := st; cases o <;> simp [dLoc, dCon, dNil, dCons, dOp, dTup, dLst, looks, look, frz, dCall, dCallV, dCallK, reord, sSeq2, sSkip, sExp, sRet, sRetN, sIf, sAsg, sAsgT, bVal, bTru, bNot, bAnd, bOr, bYes, dAnd, dOr, dNot, dIf, tName, gsNil, gsCons, gTupD, Dn.tSub, Dn.valOf, asB, ownAt, asI, isPin, sl, dCut, iOf, iNo, fin, endV, runP, runF, runV, runW, startR, startV, dEmp, dChain, res, truR, Dn.tru, itemsOf, sNone, sSeq, sRg1, sRg2, sZip, sEnum, sFor, dApp, dPop, sBrk, sCnt, isNone, atI0, atI1, atI2, ixN3_0, ixN3_1, ixN3_2, ixN2_0, ixN2_1, noPins, e_add, e_addT, e_addL, e_sub, e_mul, e_mulL, e_mulT, e_div, e_mod, e_neg, e_eqI, e_neI, e_eqB, e_eqT, e_eqL, e_neT, e_neL, e_cmp, e_is, e_isnot, e_ixL, e_ixT, e_lenL, e_lenT, e_tupL, e_tupT, e_lstL, e_lstT, e_int, e_intB, e_abs, e_sum, e_divmod, e_gcd, e_max, e_min, e_isi, e_cutL, e_cutT], ?_, h1⟩
      have p := plus_spec h2 h3 (by omega) (by omega) (by omega)
      simp [dLoc, dCon, dNil, dCons, dOp, dTup, dLst, looks, look, frz, dCall, dCallV, dCallK, reord, sSeq2, sSkip, sExp, sRet, sRetN, sIf, sAsg, sAsgT, bVal, bTru, bNot, bAnd, bOr, bYes, dAnd, dOr, dNot, dIf, tName, gsNil, gsCons, gTupD, Dn.tSub, Dn.valOf, asB, ownAt, asI, isPin, sl, dCut, iOf, iNo, fin, endV, runP, runF, runV, runW, startR, startV, dEmp, dChain, res, truR, Dn.tru, itemsOf, sNone, sSeq, sRg1, sRg2, sZip, sEnum, sFor, dApp, dPop, sBrk, sCnt, isNone, atI0, atI1, atI2, ixN3_0, ixN3_1, ixN3_2, ixN2_0, ixN2_1, noPins, e_add, e_addT, e_addL, e_sub, e_mul, e_mulL, e_mulT, e_div, e_mod, e_neg, e_eqI, e_neI, e_eqB, e_eqT, e_eqL, e_neT, e_neL, e_cmp, e_is, e_isnot, e_ixL, e_ixT, e_lenL, e_lenT, e_tupL, e_tupT, e_lstL, e_lstT, e_int, e_intB, e_abs, e_sum, e_divmod, e_gcd, e_max, e_min, e_isi, e_cutL, e_cutT, p]) l (0, none) (SB.start h)
  simp only [dLoc, dCon, dNil, dCons, dOp, dTup, dLst, looks, look, frz, dCall, dCallV, dCallK, reord, sSeq2, sSkip, sExp, sRet, sRetN, sIf, sAsg, sAsgT, bVal, bTru, bNot, bAnd, bOr, bYes, dAnd, dOr, dNot, dIf, tName, gsNil, gsCons, gTupD, Dn.tSub, Dn.valOf, asB, ownAt, asI, isPin, sl, dCut, iOf, iNo, fin, endV, runP, runF, runV, runW, startR, startV, dEmp, dChain, res, truR, Dn.tru, itemsOf, sNone, sSeq, sRg1, sRg2, sZip, sEnum, sFor, dApp, dPop, sBrk, sCnt, isNone, atI0, atI1, atI2, ixN3_0, ixN3_1, ixN3_2, ixN2_0, ixN2_1, noPins, e_add, e_addT, e_addL, e_sub, e_mul, e_mulL, e_mulT, e_div, e_mod, e_neg, e_eqI, e_neI, e_eqB, e_eqT, e_eqL, e_neT, e_neL, e_cmp, e_is, e_isnot, e_ixL, e_ixT, e_lenL, e_lenT, e_tupL, e_tupT, e_lstL, e_lstT, e_int, e_intB, e_abs, e_sum, e_divmod, e_gcd, e_max, e_min, e_isi, e_cutL, e_cutT] at key
  have e0 : enc 0 = .tuple [.int 0, .int 1] := rfl
  rw [e0, Option.map_none] at key
  simp [F_total, d_total, dLoc, dCon, dNil, dCons, dOp, dTup, dLst, looks, look, frz, dCall, dCallV, dCallK, reord, sSeq2, sSkip, sExp, sRet, sRetN, sIf, sAsg, sAsgT, bVal, bTru, bNot, bAnd, bOr, bYes, dAnd, dOr, dNot, dIf, tName, gsNil, gsCons, gTupD, Dn.tSub, Dn.valOf, asB, ownAt, asI, isPin, sl, dCut, iOf, iNo, fin, endV, runP, runF, runV, runW, startR, startV, dEmp, dChain, res, truR, Dn.tru, itemsOf, sNone, sSeq, sRg1, sRg2, sZip, sEnum, sFor, dApp, dPop, sBrk, sCnt, isNone, atI0, atI1, atI2, ixN3_0, ixN3_1, ixN3_2, ixN2_0, ixN2_1, noPins, e_add, e_addT, e_addL, e_sub, e_mul, e_mulL, e_mulT, e_div, e_mod, e_neg, e_eqI, e_neI, e_eqB, e_eqT, e_eqL, e_neT, e_neL, e_cmp, e_is, e_isnot, e_ixL, e_ixT, e_lenL, e_lenT, e_tupL, e_tupT, e_lstL, e_lstT, e_int, e_intB, e_abs, e_sum, e_divmod, e_gcd, e_max, e_min, e_isi, e_cutL, e_cutT, key, fold_fst, sumQ]
theorem dot_spec {n d m e : Nat} {x y : List Rat} (hx : ∀ r ∈ x, RB n d r) (hy : ∀ r ∈ y, RB m e r) (hl : x.length = y.length) (hk : x.length ≤ 1000) (hN : (n + m) + (d + e) * x.length + x.length + (d + e) + 10 ≤ 9000) :
    F_dot [row x, row y] = some (.v (enc (dotQ x y))) ∧ RB ((n + m) + (d + e) * x.length + x.length + 1) (1 + (d + e) * x.length) (dotQ x y) := by
  have hz : (List.zipWith (· * ·) x y).length = x.length := by simp [hl]
  have t := total_spec (N := n + m) (D := d + e) (l := List.zipWith (· * ·) x y) (fun r hr => by
    rw [zipWith_zip] at hr
    obtain ⟨p, hp, rfl⟩ := List.mem_map.mp hr
    exact (hx p.1 (List.of_mem_zip hp).1).mul (hy p.2 (List.of_mem_zip hp).2)) (by omega) (by rw [hz]; exact hN)
  rw [hz] at t
  refine ⟨?_, t.2⟩
  have c := dComp_map (vs := [2, 3]) (src := sZip (dLoc 0) (dLoc 1)) (tgt := gTupD 2 (gsCons (tName 2) (gsCons (tName 3) gsNil))) (cond := bYes) (elt := dCall F_times (dCons (dLoc 2) (dCons (dLoc 3) dNil))) (ρ := [some (.val (row x)), some (.val (row y)), none, none])
    (ρ1 := [some (.val (row x)), some (.val (row y)), none, none]) (l := x.zip y) (f := fun p => .tuple [enc p.1, enc p.2]) (g := fun p => some (enc (p.1 * p.2))) (by simp [dLoc, dCon, dNil, dCons, dOp, dTup, dLst, looks, look, frz, dCall, dCallV, dCallK, reord, sSeq2, sSkip, sExp, sRet, sRetN, sIf, sAsg, sAsgT, bVal, bTru, bNot, bAnd, bOr, bYes, dAnd, dOr, dNot, dIf, tName, gsNil, gsCons, gTupD, Dn.tSub, Dn.valOf, asB, ownAt, asI, isPin, sl, dCut, iOf, iNo, fin, endV, runP, runF, runV, runW, startR, startV, dEmp, dChain, res, truR, Dn.tru, itemsOf, sNone, sSeq, sRg1, sRg2, sZip, sEnum, sFor, dApp, dPop, sBrk, sCnt, isNone, atI0, atI1, atI2, ixN3_0, ixN3_1, ixN3_2, ixN2_0, ixN2_1, noPins, e_add, e_addT, e_addL, e_sub, e_mul, e_mulL, e_mulT, e_div, e_mod, e_neg, e_eqI, e_neI, e_eqB, e_eqT, e_eqL, e_neT, e_neL, e_cmp, e_is, e_isnot, e_ixL, e_ixT, e_lenL, e_lenT, e_tupL, e_tupT, e_lstL, e_lstT, e_int, e_intB, e_abs, e_sum, e_divmod, e_gcd, e_max, e_min, e_isi, e_cutL, e_cutT, row, zipD_map]) (by simp [dLoc, dCon, dNil, dCons, dOp, dTup, dLst, looks, look, frz, dCall, dCallV, dCallK, reord, sSeq2, sSkip, sExp, sRet, sRetN, sIf, sAsg, sAsgT, bVal, bTru, bNot, bAnd, bOr, bYes, dAnd, dOr, dNot, dIf, tName, gsNil, gsCons, gTupD, Dn.tSub, Dn.valOf, asB, ownAt, asI, isPin, sl, dCut, iOf, iNo, fin, endV, runP, runF, runV, runW, startR, startV, dEmp, dChain, res, truR, Dn.tru, itemsOf, sNone, sSeq, sRg1, sRg2, sZip, sEnum, sFor, dApp, dPop, sBrk, sCnt, isNone, atI0, atI1, atI2, ixN3_0, ixN3_1, ixN3_2, ixN2_0, ixN2_1, noPins, e_add, e_addT, e_addL, e_sub, e_mul, e_mulL, e_mulT, e_div, e_mod, e_neg, e_eqI, e_neI, e_eqB, e_eqT, e_eqL, e_neT, e_neL, e_cmp, e_is, e_isnot, e_ixL, e_ixT, e_lenL, e_lenT, e_tupL, e_tupT, e_lstL, e_lstT, e_int, e_intB, e_abs, e_sum, e_divmod, e_gcd, e_max, e_min, e_isi, e_cutL, e_cutT]) (by simp; omega) (fun p hp => by
      have q := times_spec (hx p.1 (List.of_mem_zip hp).1) (hy p.2 (List.of_mem_zip hp).2) (by omega) (by omega)
      simp [stepC, dLoc, dCon, dNil, dCons, dOp, dTup, dLst, looks, look, frz, dCall, dCallV, dCallK, reord, sSeq2, sSkip, sExp, sRet, sRetN, sIf, sAsg, sAsgT, bVal, bTru, bNot, bAnd, bOr, bYes, dAnd, dOr, dNot, dIf, tName, gsNil, gsCons, gTupD, Dn.tSub, Dn.valOf, asB, ownAt, asI, isPin, sl, dCut, iOf, iNo, fin, endV, runP, runF, runV, runW, startR, startV, dEmp, dChain, res, truR, Dn.tru, itemsOf, sNone, sSeq, sRg1, sRg2, sZip, sEnum, sFor, dApp, dPop, sBrk, sCnt, isNone, atI0, atI1, atI2, ixN3_0, ixN3_1, ixN3_2, ixN2_0, ixN2_1, noPins, e_add, e_addT, e_addL, e_sub, e_mul, e_mulL, e_mulT, e_div, e_mod, e_neg, e_eqI, e_neI, e_eqB, e_eqT, e_eqL, e_neT, e_neL, e_cmp, e_is, e_isnot, e_ixL, e_ixT, e_lenL, e_lenT, e_tupL, e_tupT, e_lstL, e_lstT, e_int, e_intB, e_abs, e_sum, e_divmod, e_gcd, e_max, e_min, e_isi, e_cutL, e_cutT, wipeR, q])
  have e1 : (x.zip y).filterMap (fun p => some (enc (p.1 * p.2))) = (List.zipWith (· * ·) x y).map enc := by
    rw [filterMap_some, zipWith_zip, List.map_map]
    rfl
  rw [e1] at c
  simp [F_dot, d_dot, dLoc, dCon, dNil, dCons, dOp, dTup, dLst, looks, look, frz, dCall, dCallV, dCallK, reord, sSeq2, sSkip, sExp, sRet, sRetN, sIf, sAsg, sAsgT, bVal, bTru, bNot, bAnd, bOr, bYes, dAnd, dOr, dNot, dIf, tName, gsNil, gsCons, gTupD, Dn.tSub, Dn.valOf, asB, ownAt, asI, isPin, sl, dCut, iOf, iNo, fin, endV, runP, runF, runV, runW, startR, startV, dEmp, dChain, res, truR, Dn.tru, itemsOf, sNone, sSeq, sRg1, sRg2, sZip, sEnum, sFor, dApp, dPop, sBrk, sCnt, isNone, atI0, atI1, atI2, ixN3_0, ixN3_1, ixN3_2, ixN2_0, ixN2_1, noPins, e_add, e_addT, e_addL, e_sub, e_mul, e_mulL, e_mulT, e_div, e_mod, e_neg, e_eqI, e_neI, e_eqB, e_eqT, e_eqL, e_neT, e_neL, e_cmp, e_is, e_isnot, e_ixL, e_ixT, e_lenL, e_lenT, e_tupL, e_tupT, e_lstL, e_lstT, e_int, e_intB, e_abs, e_sum, e_divmod, e_gcd, e_max, e_min, e_isi, e_cutL, e_cutT, c, t.1, dotQ, wipeR, -List.map_zipWith]
end Pl

set_option Elab.async false
set_option linter.all false
set_option maxRecDepth 100000
set_option maxHeartbeats 4000000
namespace Pl
open PySem PySem.Spec PyProof.Rows L2 Dn

theorem rg_ok {n : Nat} (h : n ≤ 1000) : rgOk 0 (n : Int) = true := by unfold rgOk; simp; omega
theorem rg_map (n : Nat) : rgD 0 (n : Int) = (List.range n).map fun i => .int (i : Int) := by unfold rgD; simp
theorem zero_num {a : Rat} : a.num = 0 ↔ a = 0 := Rat.num_eq_zero
theorem law_dot_spec {n d m e : Nat} {x y : List Rat} (hx : ∀ r ∈ x, RB n d r) (hy : ∀ r ∈ y, RB m e r) (hl : x.length = y.length) (hk : x.length ≤ 1000) (hN : (n + m) + (d + e) * x.length + x.length + (d + e) + 10 ≤ 9000) :
    F__law_dot [row x, row y] = some (.v (enc (dotQ x y))) := by
  have hz : (x.zip y).length = x.length := by simp [hl]
  have key := loopF_fold (tgt := gTupD 2 (gsCons (tName 3) (gsCons (tName 4) gsNil))) (body := (sSeq2 (sIf (bAnd (bVal (dOp pNe (dCons (dOp pIx (dCons (dLoc 3) (dCons (dCon (.int 0)) dNil))) (dCons (dCon (.int 0)) dNil)))) (bVal (dOp pNe (dCons (dOp pIx (dCons (dLoc 4) (dCons (dCon (.int 0)) dNil))) (dCons (dCon (.int 0)) dNil))))) (sSeq2 (sAsg (dCall F__law_add (dCons (dLoc 2) (dCons (dCall F__law_mul (dCons (dLoc 3) (dCons (dLoc 4) dNil))) dNil))) (tName 2)) sSkip) sSkip) sSkip))
    (f := fun p : Rat × Rat => .tuple [enc p.1, enc p.2]) (S := fun (st : Rat × Option (Rat × Rat)) => [some (.val (row x)), some (.val (row y)), some (.val (enc st.1)), st.2.map fun p => .val (enc p.1), st.2.map fun p => .val (enc p.2)]) (step := fun st p => (st.1 + p.1 * p.2, some p))
    (ok := fun st r => SB (n + m) (d + e) x.length st.1 (r.map fun p => p.1 * p.2) ∧ ∀ p ∈ r, RB n d p.1 ∧ RB m e p.2) (fun st p r i => by
      obtain ⟨i1, i2⟩ := i
      rw [List.map_cons] at i1
      obtain ⟨h1, h2, h3⟩ := i1.step
      obtain ⟨p1, p2⟩ := i2 p List.mem_cons_self
      refine ⟨[some (.val (row x)), some (.val (row y)), some (.val (enc st.1)), some (.val (enc p.1)), some (.val (enc p.2))], by obtain ⟨a, o⟩ := st; cases o <;> simp [dLoc, dCon, dNil, dCons, dOp, dTup, dLst, looks, look, frz, dCall, dCallV, dCallK, reord, sSeq2, sSkip, sExp, sRet, sRetN, sIf, sAsg, sAsgT, bVal, bTru, bNot, bAnd, bOr, bYes, dAnd, dOr, dNot, dIf, tName, gsNil, gsCons, gTupD, Dn.tSub, Dn.valOf, asB, ownAt, asI, isPin, sl, dCut, iOf, iNo, fin, endV, runP, runF, runV, runW, startR, startV, dEmp, dChain, res, truR, Dn.tru, itemsOf, sNone, sSeq, sRg1, sRg2, sZip, sEnum, sFor, dApp, dPop, sBrk, sCnt, isNone, atI0, atI1, atI2, ixN3_0, ixN3_1, ixN3_2, ixN2_0, ixN2_1, noPins, e_add, e_addT, e_addL, e_sub, e_mul, e_mulL, e_mulT, e_div, e_mod, e_neg, e_eqI, e_neI, e_eqB, e_eqT, e_eqL, e_neT, e_neL, e_cmp, e_is, e_isnot, e_ixL, e_ixT, e_lenL, e_lenT, e_tupL, e_tupT, e_lstL, e_lstT, e_int, e_intB, e_abs, e_sum, e_divmod, e_gcd, e_max, e_min, e_isi, e_cutL, e_cutT], ?_, h1, fun q hq => i2 q (List.mem_cons_of_mem _ hq)⟩
      have q1 := law_mul_spec p1 p2 (by omega) (by omega)
      have q2 := law_add_spec h2 h3 (by omega) (by omega) (by omega)
      have ix1 : ∀ r : Rat, pIx [enc r, .int 0] = some (.v (.int r.num)) := fun r => by simp [enc, dLoc, dCon, dNil, dCons, dOp, dTup, dLst, looks, look, frz, dCall, dCallV, dCallK, reord, sSeq2, sSkip, sExp, sRet, sRetN, sIf, sAsg, sAsgT, bVal, bTru, bNot, bAnd, bOr, bYes, dAnd, dOr, dNot, dIf, tName, gsNil, gsCons, gTupD, Dn.tSub, Dn.valOf, asB, ownAt, asI, isPin, sl, dCut, iOf, iNo, fin, endV, runP, runF, runV, runW, startR, startV, dEmp, dChain, res, truR, Dn.tru, itemsOf, sNone, sSeq, sRg1, sRg2, sZip, sEnum, sFor, dApp, dPop, sBrk, sCnt, isNone, atI0, atI1, atI2, ixN3_0, ixN3_1, ixN3_2, ixN2_0, ixN2_1, noPins, e_add, e_addT, e_addL, e_sub, e_mul, e_mulL, e_mulT, e_div, e_mod, e_neg, e_eqI, e_neI, e_eqB, e_eqT, e_eqL, e_neT, e_neL, e_cmp, e_is, e_isnot, e_ixL, e_ixT, e_lenL, e_lenT, e_tupL, e_tupT, e_lstL, e_lstT, e_int, e_intB, e_abs, e_sum, e_divmod, e_gcd, e_max, e_min, e_isi, e_cutL, e_cutT]
      by_cases z1 : p.1 = 0
      · simp [dLoc, dCon, dNil, dCons, dOp, dTup, dLst, looks, look, frz, dCall, dCallV, dCallK, reord, sSeq2, sSkip, sExp, sRet, sRetN, sIf, sAsg, sAsgT, bVal, bTru, bNot, bAnd, bOr, bYes, dAnd, dOr, dNot, dIf, tName, gsNil, gsCons, gTupD, Dn.tSub, Dn.valOf, asB, ownAt, asI, isPin, sl, dCut, iOf, iNo, fin, endV, runP, runF, runV, runW, startR, startV, dEmp, dChain, res, truR, Dn.tru, itemsOf, sNone, sSeq, sRg1, sRg2, sZip, sEnum, sFor, dApp, dPop, sBrk, sCnt, isNone, atI0, atI1, atI2, ixN3_0, ixN3_1, ixN3_2, ixN2_0, ixN2_1, noPins, e_add, e_addT, e_addL, e_sub, e_mul, e_mulL, e_mulT, e_div, e_mod, e_neg, e_eqI, e_neI, e_eqB, e_eqT, e_eqL, e_neT, e_neL, e_cmp, e_is, e_isnot, e_ixL, e_ixT, e_lenL, e_lenT, e_tupL, e_tupT, e_lstL, e_lstT, e_int, e_intB, e_abs, e_sum, e_divmod, e_gcd, e_max, e_min, e_isi, e_cutL, e_cutT, ix1, z1, show (0 : Rat).num = 0 from rfl, Rat.zero_mul, Rat.add_zero]
      · have n1 : (p.1.num == 0) = false := by simpa using fun z => z1 (zero_num.mp z)
        by_cases z2 : p.2 = 0
        · simp [dLoc, dCon, dNil, dCons, dOp, dTup, dLst, looks, look, frz, dCall, dCallV, dCallK, reord, sSeq2, sSkip, sExp, sRet, sRetN, sIf, sAsg, sAsgT, bVal, bTru, bNot, bAnd, bOr, bYes, dAnd, dOr, dNot, dIf, tName, gsNil, gsCons, gTupD, Dn.tSub, Dn.valOf, asB, ownAt, asI, isPin, sl, dCut, iOf, iNo, fin, endV, runP, runF, runV, runW, startR, startV, dEmp, dChain, res, truR, Dn.tru, itemsOf, sNone, sSeq, sRg1, sRg2, sZip, sEnum, sFor, dApp, dPop, sBrk, sCnt, isNone, atI0, atI1, atI2, ixN3_0, ixN3_1, ixN3_2, ixN2_0, ixN2_1, noPins, e_add, e_addT, e_addL, e_sub, e_mul, e_mulL, e_mulT, e_div, e_mod, e_neg, e_eqI, e_neI, e_eqB, e_eqT, e_eqL, e_neT, e_neL, e_cmp, e_is, e_isnot, e_ixL, e_ixT, e_lenL, e_lenT, e_tupL, e_tupT, e_lstL, e_lstT, e_int, e_intB, e_abs, e_sum, e_divmod, e_gcd, e_max, e_min, e_isi, e_cutL, e_cutT, ix1, z2, n1, show (0 : Rat).num = 0 from rfl, Rat.mul_zero, Rat.add_zero]
        · have n2 : (p.2.num == 0) = false := by simpa using fun z => z2 (zero_num.mp z)
          simp [dLoc, dCon, dNil, dCons, dOp, dTup, dLst, looks, look, frz, dCall, dCallV, dCallK, reord, sSeq2, sSkip, sExp, sRet, sRetN, sIf, sAsg, sAsgT, bVal, bTru, bNot, bAnd, bOr, bYes, dAnd, dOr, dNot, dIf, tName, gsNil, gsCons, gTupD, Dn.tSub, Dn.valOf, asB, ownAt, asI, isPin, sl, dCut, iOf, iNo, fin, endV, runP, runF, runV, runW, startR, startV, dEmp, dChain, res, truR, Dn.tru, itemsOf, sNone, sSeq, sRg1, sRg2, sZip, sEnum, sFor, dApp, dPop, sBrk, sCnt, isNone, atI0, atI1, atI2, ixN3_0, ixN3_1, ixN3_2, ixN2_0, ixN2_1, noPins, e_add, e_addT, e_addL, e_sub, e_mul, e_mulL, e_mulT, e_div, e_mod, e_neg, e_eqI, e_neI, e_eqB, e_eqT, e_eqL, e_neT, e_neL, e_cmp, e_is, e_isnot, e_ixL, e_ixT, e_lenL, e_lenT, e_tupL, e_tupT, e_lstL, e_lstT, e_int, e_intB, e_abs, e_sum, e_divmod, e_gcd, e_max, e_min, e_isi, e_cutL, e_cutT, ix1, n1, n2, q1, q2]) (x.zip y) (0, none) ⟨by
      have s := SB.start (N := n + m) (D := d + e) (l := (x.zip y).map fun p => p.1 * p.2) (fun r hr => by
        obtain ⟨p, hp, rfl⟩ := List.mem_map.mp hr
        exact (hx p.1 (List.of_mem_zip hp).1).mul (hy p.2 (List.of_mem_zip hp).2))
      rw [List.length_map, hz] at s
      exact s, fun p hp => ⟨hx p.1 (List.of_mem_zip hp).1, hy p.2 (List.of_mem_zip hp).2⟩⟩
  have e0 : enc 0 = .tuple [.int 0, .int 1] := rfl
  rw [e0, Option.map_none, Option.map_none] at key
  have ef : ∀ (l : List (Rat × Rat)) (a : Rat) (o : Option (Rat × Rat)), (l.foldl (fun (st : Rat × Option (Rat × Rat)) p => (st.1 + p.1 * p.2, some p)) (a, o)).1 = (l.map fun p => p.1 * p.2).foldl (· + ·) a := by
    intro l
    induction l with
    | nil => intro a o; rfl
    | cons p l ih => intro a o; rw [List.foldl_cons, List.map_cons, List.foldl_cons, ih]
  have es : dotQ x y = ((x.zip y).map fun p => p.1 * p.2).foldl (· + ·) 0 := by rw [dotQ, sumQ, zipWith_zip]
  rw [← zipD_map] at key
  have hr : row x = .tuple (x.map enc) := rfl
  have hr2 : row y = .tuple (y.map enc) := rfl
  rw [hr, hr2] at key ⊢
  simp [F__law_dot, d__law_dot, dLoc, dCon, dNil, dCons, dOp, dTup, dLst, looks, look, frz, dCall, dCallV, dCallK, reord, sSeq2, sSkip, sExp, sRet, sRetN, sIf, sAsg, sAsgT, bVal, bTru, bNot, bAnd, bOr, bYes, dAnd, dOr, dNot, dIf, tName, gsNil, gsCons, gTupD, Dn.tSub, Dn.valOf, asB, ownAt, asI, isPin, sl, dCut, iOf, iNo, fin, endV, runP, runF, runV, runW, startR, startV, dEmp, dChain, res, truR, Dn.tru, itemsOf, sNone, sSeq, sRg1, sRg2, sZip, sEnum, sFor, dApp, dPop, sBrk, sCnt, isNone, atI0, atI1, atI2, ixN3_0, ixN3_1, ixN3_2, ixN2_0, ixN2_1, noPins, e_add, e_addT, e_addL, e_sub, e_mul, e_mulL, e_mulT, e_div, e_mod, e_neg, e_eqI, e_neI, e_eqB, e_eqT, e_eqL, e_neT, e_neL, e_cmp, e_is, e_isnot, e_ixL, e_ixT, e_lenL, e_lenT, e_tupL, e_tupT, e_lstL, e_lstT, e_int, e_intB, e_abs, e_sum, e_divmod, e_gcd, e_max, e_min, e_isi, e_cutL, e_cutT, key, ef, es, -List.map_zipWith]
def flipQ (n : Nat) (t : List (List Rat)) : List (List Rat) := (List.range n).map fun k => t.map fun r => r.getD k 0
theorem col_get {r : List Rat} {k : Nat} (h : k < r.length) : atI (r.map enc) (k : Int) = some (enc (r.getD k 0)) := by
  rw [atI_at rfl, List.getElem?_map, List.getElem?_eq_getElem h]; simp [List.getD, h]
theorem flip_inner {t : List (List Rat)} {n k : Nat} (h1 : t.length ≤ 1000) (hr : ∀ r ∈ t, r.length = n) (hk : k < n) :
    dComp [2] (sSeq (dLoc 0)) (tName 2) bYes (dOp pIx (dCons (dLoc 2) (dCons (dLoc 1) dNil))) [some (.val (tab t)), some (.val (.int (k : Int))), none] = some (.o (t.map fun r => enc (r.getD k 0)), [some (.val (tab t)), some (.val (.int (k : Int))), none]) := by
  have c := dComp_map (vs := [2]) (src := sSeq (dLoc 0)) (tgt := tName 2) (cond := bYes) (elt := dOp pIx (dCons (dLoc 2) (dCons (dLoc 1) dNil))) (ρ := [some (.val (tab t)), some (.val (.int (k : Int))), none]) (ρ1 := [some (.val (tab t)), some (.val (.int (k : Int))), none]) (l := t) (f := row) (g := fun r => some (enc (r.getD k 0)))
    (by simp [dLoc, dCon, dNil, dCons, dOp, dTup, dLst, looks, look, frz, dCall, dCallV, dCallK, reord, sSeq2, sSkip, sExp, sRet, sRetN, sIf, sAsg, sAsgT, bVal, bTru, bNot, bAnd, bOr, bYes, dAnd, dOr, dNot, dIf, tName, gsNil, gsCons, gTupD, Dn.tSub, Dn.valOf, asB, ownAt, asI, isPin, sl, dCut, iOf, iNo, fin, endV, runP, runF, runV, runW, startR, startV, dEmp, dChain, res, truR, Dn.tru, itemsOf, sNone, sSeq, sRg1, sRg2, sZip, sEnum, sFor, dApp, dPop, sBrk, sCnt, isNone, atI0, atI1, atI2, ixN3_0, ixN3_1, ixN3_2, ixN2_0, ixN2_1, noPins, e_add, e_addT, e_addL, e_sub, e_mul, e_mulL, e_mulT, e_div, e_mod, e_neg, e_eqI, e_neI, e_eqB, e_eqT, e_eqL, e_neT, e_neL, e_cmp, e_is, e_isnot, e_ixL, e_ixT, e_lenL, e_lenT, e_tupL, e_tupT, e_lstL, e_lstT, e_int, e_intB, e_abs, e_sum, e_divmod, e_gcd, e_max, e_min, e_isi, e_cutL, e_cutT, tab]) (by simp [dLoc, dCon, dNil, dCons, dOp, dTup, dLst, looks, look, frz, dCall, dCallV, dCallK, reord, sSeq2, sSkip, sExp, sRet, sRetN, sIf, sAsg, sAsgT, bVal, bTru, bNot, bAnd, bOr, bYes, dAnd, dOr, dNot, dIf, tName, gsNil, gsCons, gTupD, Dn.tSub, Dn.valOf, asB, ownAt, asI, isPin, sl, dCut, iOf, iNo, fin, endV, runP, runF, runV, runW, startR, startV, dEmp, dChain, res, truR, Dn.tru, itemsOf, sNone, sSeq, sRg1, sRg2, sZip, sEnum, sFor, dApp, dPop, sBrk, sCnt, isNone, atI0, atI1, atI2, ixN3_0, ixN3_1, ixN3_2, ixN2_0, ixN2_1, noPins, e_add, e_addT, e_addL, e_sub, e_mul, e_mulL, e_mulT, e_div, e_mod, e_neg, e_eqI, e_neI, e_eqB, e_eqT, e_eqL, e_neT, e_neL, e_cmp, e_is, e_isnot, e_ixL, e_ixT, e_lenL, e_lenT, e_tupL, e_tupT, e_lstL, e_lstT, e_int, e_intB, e_abs, e_sum, e_divmod, e_gcd, e_max, e_min, e_isi, e_cutL, e_cutT]) (by omega) (fun r hm => by
      have q := col_get (r := r) (k := k) (by rw [hr r hm]; exact hk)
      simp [stepC, dLoc, dCon, dNil, dCons, dOp, dTup, dLst, looks, look, frz, dCall, dCallV, dCallK, reord, sSeq2, sSkip, sExp, sRet, sRetN, sIf, sAsg, sAsgT, bVal, bTru, bNot, bAnd, bOr, bYes, dAnd, dOr, dNot, dIf, tName, gsNil, gsCons, gTupD, Dn.tSub, Dn.valOf, asB, ownAt, asI, isPin, sl, dCut, iOf, iNo, fin, endV, runP, runF, runV, runW, startR, startV, dEmp, dChain, res, truR, Dn.tru, itemsOf, sNone, sSeq, sRg1, sRg2, sZip, sEnum, sFor, dApp, dPop, sBrk, sCnt, isNone, atI0, atI1, atI2, ixN3_0, ixN3_1, ixN3_2, ixN2_0, ixN2_1, noPins, e_add, e_addT, e_addL, e_sub, e_mul, e_mulL, e_mulT, e_div, e_mod, e_neg, e_eqI, e_neI, e_eqB, e_eqT, e_eqL, e_neT, e_neL, e_cmp, e_is, e_isnot, e_ixL, e_ixT, e_lenL, e_lenT, e_tupL, e_tupT, e_lstL, e_lstT, e_int, e_intB, e_abs, e_sum, e_divmod, e_gcd, e_max, e_min, e_isi, e_cutL, e_cutT, wipeR, row, q])
  rw [filterMap_some] at c
  simpa [wipeR] using c
theorem turned_of_spec {t : List (List Rat)} {n : Nat} (h0 : t ≠ []) (h1 : t.length ≤ 1000) (hn : n ≤ 1000) (hr : ∀ r ∈ t, r.length = n) : F_turned_of [tab t] = some (.v (tab (flipQ n t))) := by
  obtain ⟨r0, t', rfl⟩ : ∃ r0 t', t = r0 :: t' := by cases t with
    | nil => exact absurd rfl h0
    | cons a b => exact ⟨a, b, rfl⟩
  have e0 : pIx [tab (r0 :: t'), .int 0] = some (.v (row r0)) := by simp [tab, dLoc, dCon, dNil, dCons, dOp, dTup, dLst, looks, look, frz, dCall, dCallV, dCallK, reord, sSeq2, sSkip, sExp, sRet, sRetN, sIf, sAsg, sAsgT, bVal, bTru, bNot, bAnd, bOr, bYes, dAnd, dOr, dNot, dIf, tName, gsNil, gsCons, gTupD, Dn.tSub, Dn.valOf, asB, ownAt, asI, isPin, sl, dCut, iOf, iNo, fin, endV, runP, runF, runV, runW, startR, startV, dEmp, dChain, res, truR, Dn.tru, itemsOf, sNone, sSeq, sRg1, sRg2, sZip, sEnum, sFor, dApp, dPop, sBrk, sCnt, isNone, atI0, atI1, atI2, ixN3_0, ixN3_1, ixN3_2, ixN2_0, ixN2_1, noPins, e_add, e_addT, e_addL, e_sub, e_mul, e_mulL, e_mulT, e_div, e_mod, e_neg, e_eqI, e_neI, e_eqB, e_eqT, e_eqL, e_neT, e_neL, e_cmp, e_is, e_isnot, e_ixL, e_ixT, e_lenL, e_lenT, e_tupL, e_tupT, e_lstL, e_lstT, e_int, e_intB, e_abs, e_sum, e_divmod, e_gcd, e_max, e_min, e_isi, e_cutL, e_cutT]
  have el : pLen [row r0] = some (.v (.int (n : Int))) := by simp [row, dLoc, dCon, dNil, dCons, dOp, dTup, dLst, looks, look, frz, dCall, dCallV, dCallK, reord, sSeq2, sSkip, sExp, sRet, sRetN, sIf, sAsg, sAsgT, bVal, bTru, bNot, bAnd, bOr, bYes, dAnd, dOr, dNot, dIf, tName, gsNil, gsCons, gTupD, Dn.tSub, Dn.valOf, asB, ownAt, asI, isPin, sl, dCut, iOf, iNo, fin, endV, runP, runF, runV, runW, startR, startV, dEmp, dChain, res, truR, Dn.tru, itemsOf, sNone, sSeq, sRg1, sRg2, sZip, sEnum, sFor, dApp, dPop, sBrk, sCnt, isNone, atI0, atI1, atI2, ixN3_0, ixN3_1, ixN3_2, ixN2_0, ixN2_1, noPins, e_add, e_addT, e_addL, e_sub, e_mul, e_mulL, e_mulT, e_div, e_mod, e_neg, e_eqI, e_neI, e_eqB, e_eqT, e_eqL, e_neT, e_neL, e_cmp, e_is, e_isnot, e_ixL, e_ixT, e_lenL, e_lenT, e_tupL, e_tupT, e_lstL, e_lstT, e_int, e_intB, e_abs, e_sum, e_divmod, e_gcd, e_max, e_min, e_isi, e_cutL, e_cutT, hr r0 List.mem_cons_self]
  have c := dComp_map (vs := [1]) (src := sRg1 (dOp pLen (dCons (dOp pIx (dCons (dLoc 0) (dCons (dCon (.int 0)) dNil))) dNil))) (tgt := tName 1) (cond := bYes) (elt := dOp pTuple (dCons (dComp [2] (sSeq (dLoc 0)) (tName 2) bYes (dOp pIx (dCons (dLoc 2) (dCons (dLoc 1) dNil)))) dNil)) (ρ := [some (.val (tab (r0 :: t'))), none, none]) (ρ1 := [some (.val (tab (r0 :: t'))), none, none])
    (l := List.range n) (f := fun (k : Nat) => .int (k : Int)) (g := fun (k : Nat) => some (row ((r0 :: t').map fun r => r.getD k 0))) (by simp [dLoc, dCon, dNil, dCons, dOp, dTup, dLst, looks, look, frz, dCall, dCallV, dCallK, reord, sSeq2, sSkip, sExp, sRet, sRetN, sIf, sAsg, sAsgT, bVal, bTru, bNot, bAnd, bOr, bYes, dAnd, dOr, dNot, dIf, tName, gsNil, gsCons, gTupD, Dn.tSub, Dn.valOf, asB, ownAt, asI, isPin, sl, dCut, iOf, iNo, fin, endV, runP, runF, runV, runW, startR, startV, dEmp, dChain, res, truR, Dn.tru, itemsOf, sNone, sSeq, sRg1, sRg2, sZip, sEnum, sFor, dApp, dPop, sBrk, sCnt, isNone, atI0, atI1, atI2, ixN3_0, ixN3_1, ixN3_2, ixN2_0, ixN2_1, noPins, e_add, e_addT, e_addL, e_sub, e_mul, e_mulL, e_mulT, e_div, e_mod, e_neg, e_eqI, e_neI, e_eqB, e_eqT, e_eqL, e_neT, e_neL, e_cmp, e_is, e_isnot, e_ixL, e_ixT, e_lenL, e_lenT, e_tupL, e_tupT, e_lstL, e_lstT, e_int, e_intB, e_abs, e_sum, e_divmod, e_gcd, e_max, e_min, e_isi, e_cutL, e_cutT, e0, el, rg_ok hn, rg_map]) (by simp [dLoc, dCon, dNil, dCons, dOp, dTup, dLst, looks, look, frz, dCall, dCallV, dCallK, reord, sSeq2, sSkip, sExp, sRet, sRetN, sIf, sAsg, sAsgT, bVal, bTru, bNot, bAnd, bOr, bYes, dAnd, dOr, dNot, dIf, tName, gsNil, gsCons, gTupD, Dn.tSub, Dn.valOf, asB, ownAt, asI, isPin, sl, dCut, iOf, iNo, fin, endV, runP, runF, runV, runW, startR, startV, dEmp, dChain, res, truR, Dn.tru, itemsOf, sNone, sSeq, sRg1, sRg2, sZip, sEnum, sFor, dApp, dPop, sBrk, sCnt, isNone, atI0, atI1, atI2, ixN3_0, ixN3_1, ixN3_2, ixN2_0, ixN2_1, noPins, e_add, e_addT, e_addL, e_sub, e_mul, e_mulL, e_mulT, e_div, e_mod, e_neg, e_eqI, e_neI, e_eqB, e_eqT, e_eqL, e_neT, e_neL, e_cmp, e_is, e_isnot, e_ixL, e_ixT, e_lenL, e_lenT, e_tupL, e_tupT, e_lstL, e_lstT, e_int, e_intB, e_abs, e_sum, e_divmod, e_gcd, e_max, e_min, e_isi, e_cutL, e_cutT]) (by simp; omega) (fun k hk => by
      have q := flip_inner (t := r0 :: t') (n := n) (k := k) h1 hr (List.mem_range.mp hk)
      simp [stepC, dLoc, dCon, dNil, dCons, dOp, dTup, dLst, looks, look, frz, dCall, dCallV, dCallK, reord, sSeq2, sSkip, sExp, sRet, sRetN, sIf, sAsg, sAsgT, bVal, bTru, bNot, bAnd, bOr, bYes, dAnd, dOr, dNot, dIf, tName, gsNil, gsCons, gTupD, Dn.tSub, Dn.valOf, asB, ownAt, asI, isPin, sl, dCut, iOf, iNo, fin, endV, runP, runF, runV, runW, startR, startV, dEmp, dChain, res, truR, Dn.tru, itemsOf, sNone, sSeq, sRg1, sRg2, sZip, sEnum, sFor, dApp, dPop, sBrk, sCnt, isNone, atI0, atI1, atI2, ixN3_0, ixN3_1, ixN3_2, ixN2_0, ixN2_1, noPins, e_add, e_addT, e_addL, e_sub, e_mul, e_mulL, e_mulT, e_div, e_mod, e_neg, e_eqI, e_neI, e_eqB, e_eqT, e_eqL, e_neT, e_neL, e_cmp, e_is, e_isnot, e_ixL, e_ixT, e_lenL, e_lenT, e_tupL, e_tupT, e_lstL, e_lstT, e_int, e_intB, e_abs, e_sum, e_divmod, e_gcd, e_max, e_min, e_isi, e_cutL, e_cutT, q, wipeR, row, Function.comp_def])
  rw [filterMap_some] at c
  have ee : (List.range n).map (fun k => row ((r0 :: t').map fun r => r.getD k 0)) = (flipQ n (r0 :: t')).map row := by simp [flipQ]
  rw [ee] at c
  simp [F_turned_of, d_turned_of, dLoc, dCon, dNil, dCons, dOp, dTup, dLst, looks, look, frz, dCall, dCallV, dCallK, reord, sSeq2, sSkip, sExp, sRet, sRetN, sIf, sAsg, sAsgT, bVal, bTru, bNot, bAnd, bOr, bYes, dAnd, dOr, dNot, dIf, tName, gsNil, gsCons, gTupD, Dn.tSub, Dn.valOf, asB, ownAt, asI, isPin, sl, dCut, iOf, iNo, fin, endV, runP, runF, runV, runW, startR, startV, dEmp, dChain, res, truR, Dn.tru, itemsOf, sNone, sSeq, sRg1, sRg2, sZip, sEnum, sFor, dApp, dPop, sBrk, sCnt, isNone, atI0, atI1, atI2, ixN3_0, ixN3_1, ixN3_2, ixN2_0, ixN2_1, noPins, e_add, e_addT, e_addL, e_sub, e_mul, e_mulL, e_mulT, e_div, e_mod, e_neg, e_eqI, e_neI, e_eqB, e_eqT, e_eqL, e_neT, e_neL, e_cmp, e_is, e_isnot, e_ixL, e_ixT, e_lenL, e_lenT, e_tupL, e_tupT, e_lstL, e_lstT, e_int, e_intB, e_abs, e_sum, e_divmod, e_gcd, e_max, e_min, e_isi, e_cutL, e_cutT, c, wipeR]
  rfl
theorem law_flip_spec {t : List (List Rat)} {n : Nat} (h1 : t.length = n) (hn : n ≤ 1000) (hr : ∀ r ∈ t, r.length = n) : F__law_flip [tab t] = some (.v (tab (flipQ n t))) := by
  have el : pLen [tab t] = some (.v (.int (n : Int))) := by simp [tab, dLoc, dCon, dNil, dCons, dOp, dTup, dLst, looks, look, frz, dCall, dCallV, dCallK, reord, sSeq2, sSkip, sExp, sRet, sRetN, sIf, sAsg, sAsgT, bVal, bTru, bNot, bAnd, bOr, bYes, dAnd, dOr, dNot, dIf, tName, gsNil, gsCons, gTupD, Dn.tSub, Dn.valOf, asB, ownAt, asI, isPin, sl, dCut, iOf, iNo, fin, endV, runP, runF, runV, runW, startR, startV, dEmp, dChain, res, truR, Dn.tru, itemsOf, sNone, sSeq, sRg1, sRg2, sZip, sEnum, sFor, dApp, dPop, sBrk, sCnt, isNone, atI0, atI1, atI2, ixN3_0, ixN3_1, ixN3_2, ixN2_0, ixN2_1, noPins, e_add, e_addT, e_addL, e_sub, e_mul, e_mulL, e_mulT, e_div, e_mod, e_neg, e_eqI, e_neI, e_eqB, e_eqT, e_eqL, e_neT, e_neL, e_cmp, e_is, e_isnot, e_ixL, e_ixT, e_lenL, e_lenT, e_tupL, e_tupT, e_lstL, e_lstT, e_int, e_intB, e_abs, e_sum, e_divmod, e_gcd, e_max, e_min, e_isi, e_cutL, e_cutT, h1]
  have c := dComp_map (vs := [1]) (src := sRg1 (dOp pLen (dCons (dLoc 0) dNil))) (tgt := tName 1) (cond := bYes) (elt := dOp pTuple (dCons (dComp [2] (sSeq (dLoc 0)) (tName 2) bYes (dOp pIx (dCons (dLoc 2) (dCons (dLoc 1) dNil)))) dNil)) (ρ := [some (.val (tab t)), none, none]) (ρ1 := [some (.val (tab t)), none, none])
    (l := List.range n) (f := fun (k : Nat) => .int (k : Int)) (g := fun (k : Nat) => some (row (t.map fun r => r.getD k 0))) (by simp [dLoc, dCon, dNil, dCons, dOp, dTup, dLst, looks, look, frz, dCall, dCallV, dCallK, reord, sSeq2, sSkip, sExp, sRet, sRetN, sIf, sAsg, sAsgT, bVal, bTru, bNot, bAnd, bOr, bYes, dAnd, dOr, dNot, dIf, tName, gsNil, gsCons, gTupD, Dn.tSub, Dn.valOf, asB, ownAt, asI, isPin, sl, dCut, iOf, iNo, fin, endV, runP, runF, runV, runW, startR, startV, dEmp, dChain, res, truR, Dn.tru, itemsOf, sNone, sSeq, sRg1, sRg2, sZip, sEnum, sFor, dApp, dPop, sBrk, sCnt, isNone, atI0, atI1, atI2, ixN3_0, ixN3_1, ixN3_2, ixN2_0, ixN2_1, noPins, e_add, e_addT, e_addL, e_sub, e_mul, e_mulL, e_mulT, e_div, e_mod, e_neg, e_eqI, e_neI, e_eqB, e_eqT, e_eqL, e_neT, e_neL, e_cmp, e_is, e_isnot, e_ixL, e_ixT, e_lenL, e_lenT, e_tupL, e_tupT, e_lstL, e_lstT, e_int, e_intB, e_abs, e_sum, e_divmod, e_gcd, e_max, e_min, e_isi, e_cutL, e_cutT, el, rg_ok hn, rg_map]) (by simp [dLoc, dCon, dNil, dCons, dOp, dTup, dLst, looks, look, frz, dCall, dCallV, dCallK, reord, sSeq2, sSkip, sExp, sRet, sRetN, sIf, sAsg, sAsgT, bVal, bTru, bNot, bAnd, bOr, bYes, dAnd, dOr, dNot, dIf, tName, gsNil, gsCons, gTupD, Dn.tSub, Dn.valOf, asB, ownAt, asI, isPin, sl, dCut, iOf, iNo, fin, endV, runP, runF, runV, runW, startR, startV, dEmp, dChain, res, truR, Dn.tru, itemsOf, sNone, sSeq, sRg1, sRg2, sZip, sEnum, sFor, dApp, dPop, sBrk, sCnt, isNone, atI0, atI1, atI2, ixN3_0, ixN3_1, ixN3_2, ixN2_0, ixN2_1, noPins, e_add, e_addT, e_addL, e_sub, e_mul, e_mulL, e_mulT, e_div, e_mod, e_neg, e_eqI, e_neI, e_eqB, e_eqT, e_eqL, e_neT, e_neL, e_cmp, e_is, e_isnot, e_ixL, e_ixT, e_lenL, e_lenT, e_tupL, e_tupT, e_lstL, e_lstT, e_int, e_intB, e_abs, e_sum, e_divmod, e_gcd, e_max, e_min, e_isi, e_cutL, e_cutT]) (by simp; omega) (fun k hk => by
      have q := flip_inner (t := t) (n := n) (k := k) (by omega) hr (List.mem_range.mp hk)
      simp [stepC, dLoc, dCon, dNil, dCons, dOp, dTup, dLst, looks, look, frz, dCall, dCallV, dCallK, reord, sSeq2, sSkip, sExp, sRet, sRetN, sIf, sAsg, sAsgT, bVal, bTru, bNot, bAnd, bOr, bYes, dAnd, dOr, dNot, dIf, tName, gsNil, gsCons, gTupD, Dn.tSub, Dn.valOf, asB, ownAt, asI, isPin, sl, dCut, iOf, iNo, fin, endV, runP, runF, runV, runW, startR, startV, dEmp, dChain, res, truR, Dn.tru, itemsOf, sNone, sSeq, sRg1, sRg2, sZip, sEnum, sFor, dApp, dPop, sBrk, sCnt, isNone, atI0, atI1, atI2, ixN3_0, ixN3_1, ixN3_2, ixN2_0, ixN2_1, noPins, e_add, e_addT, e_addL, e_sub, e_mul, e_mulL, e_mulT, e_div, e_mod, e_neg, e_eqI, e_neI, e_eqB, e_eqT, e_eqL, e_neT, e_neL, e_cmp, e_is, e_isnot, e_ixL, e_ixT, e_lenL, e_lenT, e_tupL, e_tupT, e_lstL, e_lstT, e_int, e_intB, e_abs, e_sum, e_divmod, e_gcd, e_max, e_min, e_isi, e_cutL, e_cutT, q, wipeR, row, Function.comp_def])
  rw [filterMap_some] at c
  have ee : (List.range n).map (fun k => row (t.map fun r => r.getD k 0)) = (flipQ n t).map row := by simp [flipQ]
  rw [ee] at c
  simp [F__law_flip, d__law_flip, dLoc, dCon, dNil, dCons, dOp, dTup, dLst, looks, look, frz, dCall, dCallV, dCallK, reord, sSeq2, sSkip, sExp, sRet, sRetN, sIf, sAsg, sAsgT, bVal, bTru, bNot, bAnd, bOr, bYes, dAnd, dOr, dNot, dIf, tName, gsNil, gsCons, gTupD, Dn.tSub, Dn.valOf, asB, ownAt, asI, isPin, sl, dCut, iOf, iNo, fin, endV, runP, runF, runV, runW, startR, startV, dEmp, dChain, res, truR, Dn.tru, itemsOf, sNone, sSeq, sRg1, sRg2, sZip, sEnum, sFor, dApp, dPop, sBrk, sCnt, isNone, atI0, atI1, atI2, ixN3_0, ixN3_1, ixN3_2, ixN2_0, ixN2_1, noPins, e_add, e_addT, e_addL, e_sub, e_mul, e_mulL, e_mulT, e_div, e_mod, e_neg, e_eqI, e_neI, e_eqB, e_eqT, e_eqL, e_neT, e_neL, e_cmp, e_is, e_isnot, e_ixL, e_ixT, e_lenL, e_lenT, e_tupL, e_tupT, e_lstL, e_lstT, e_int, e_intB, e_abs, e_sum, e_divmod, e_gcd, e_max, e_min, e_isi, e_cutL, e_cutT, c, wipeR]
  rfl
end Pl

set_option Elab.async false
set_option linter.all false
set_option maxRecDepth 100000
set_option maxHeartbeats 4000000
namespace Pl
open PySem PySem.Spec PyProof.Rows L2 Dn

/-! ### what is a table -/
def isI : D → Bool
  | .int _ => true
  | _ => false
def isFr : D → Bool
  | .tuple [.int a, .int b] => decide (0 < b) && (Nat.gcd a.natAbs b.natAbs == 1)
  | _ => false
def isRow (n : Nat) : D → Bool
  | .tuple ds => ds.length == n && ds.all isFr
  | _ => false
def isTab : D → Bool
  | .tuple ds => decide (1 ≤ ds.length) && decide (ds.length ≤ 5) && ds.all (isRow ds.length)
  | _ => false
/-- whole numbers of at most n figures, tuples of at most L things, F deep -/
def OKD (n L : Nat) : Nat → D → Prop
  | _, .int i => Bd n i
  | F + 1, .tuple ds => ds.length ≤ L ∧ ∀ d ∈ ds, OKD n L F d
  | 0, .tuple _ => False
  | _, _ => True
theorem OKD.tup {n L F : Nat} {ds : List D} (h : OKD n L F (.tuple ds)) : ds.length ≤ L ∧ ∃ G, F = G + 1 ∧ ∀ d ∈ ds, OKD n L G d := by
  cases F with
  | zero => exact h.elim
  | succ G => exact ⟨h.1, G, rfl, h.2⟩
theorem OKD.int {n L F : Nat} {i : Int} (h : OKD n L F (.int i)) : Bd n i := by cases F <;> exact h
theorem is_whole_spec (d : D) : F_is_whole [d] = some (.v (.bool (isI d))) := by
  cases d <;> simp [F_is_whole, d_is_whole, dLoc, dCon, dNil, dCons, dOp, dTup, dLst, looks, look, frz, dCall, dCallV, dCallK, reord, sSeq2, sSkip, sExp, sRet, sRetN, sIf, sAsg, sAsgT, bVal, bTru, bNot, bAnd, bOr, bYes, dAnd, dOr, dNot, dIf, tName, gsNil, gsCons, gTupD, Dn.tSub, Dn.valOf, asB, ownAt, asI, isPin, sl, dCut, iOf, iNo, fin, endV, runP, runF, runV, runW, startR, startV, dEmp, dChain, res, truR, Dn.tru, itemsOf, sNone, sSeq, sRg1, sRg2, sZip, sEnum, sFor, dApp, dPop, sBrk, sCnt, isNone, atI0, atI1, atI2, ixN3_0, ixN3_1, ixN3_2, ixN2_0, ixN2_1, noPins, e_add, e_addT, e_addL, e_sub, e_mul, e_mulL, e_mulT, e_div, e_mod, e_neg, e_eqI, e_neI, e_eqB, e_eqT, e_eqL, e_neT, e_neL, e_cmp, e_is, e_isnot, e_ixL, e_ixT, e_lenL, e_lenT, e_tupL, e_tupT, e_lstL, e_lstT, e_int, e_intB, e_abs, e_sum, e_divmod, e_gcd, e_max, e_min, e_isi, e_cutL, e_cutT, isTy, isTyN, tyName, isI]
theorem law_is_whole_spec (d : D) : F__law_is_whole [d] = some (.v (.bool (isI d))) := by
  cases d <;> simp [F__law_is_whole, d__law_is_whole, dLoc, dCon, dNil, dCons, dOp, dTup, dLst, looks, look, frz, dCall, dCallV, dCallK, reord, sSeq2, sSkip, sExp, sRet, sRetN, sIf, sAsg, sAsgT, bVal, bTru, bNot, bAnd, bOr, bYes, dAnd, dOr, dNot, dIf, tName, gsNil, gsCons, gTupD, Dn.tSub, Dn.valOf, asB, ownAt, asI, isPin, sl, dCut, iOf, iNo, fin, endV, runP, runF, runV, runW, startR, startV, dEmp, dChain, res, truR, Dn.tru, itemsOf, sNone, sSeq, sRg1, sRg2, sZip, sEnum, sFor, dApp, dPop, sBrk, sCnt, isNone, atI0, atI1, atI2, ixN3_0, ixN3_1, ixN3_2, ixN2_0, ixN2_1, noPins, e_add, e_addT, e_addL, e_sub, e_mul, e_mulL, e_mulT, e_div, e_mod, e_neg, e_eqI, e_neI, e_eqB, e_eqT, e_eqL, e_neT, e_neL, e_cmp, e_is, e_isnot, e_ixL, e_ixT, e_lenL, e_lenT, e_tupL, e_tupT, e_lstL, e_lstT, e_int, e_intB, e_abs, e_sum, e_divmod, e_gcd, e_max, e_min, e_isi, e_cutL, e_cutT, isTy, isTyN, tyName, isI]
theorem tup_or (d : D) : (∃ ds, d = .tuple ds) ∨ ((∀ ds, d ≠ .tuple ds) ∧ isTy "tuple" d = false) := by
  cases d <;> first | exact .inl ⟨_, rfl⟩ | exact .inr (And.intro (fun _ h => nomatch h) rfl)
theorem isTy_tup (ds : List D) : isTy "tuple" (.tuple ds) = true := rfl
theorem filter_empty {α : Type} {p : α → Bool} (l : List α) : (l.filter fun x => !p x).isEmpty = l.all p := by
  induction l with
  | nil => rfl
  | cons x l ih => by_cases h : p x <;> simp [List.filter_cons, h, ih]
/-- [each for each in value if not P(each)] -/
theorem comp_not {C : List D → Option R} {p : D → Bool} {ds : List D} {ρ : Rho} {i j : Nat} {e : D} (hρ : ρ = [some (.val (.tuple ds)), some (.val e), none]) (hl : ds.length ≤ 1000000) (h : ∀ d ∈ ds, C [d] = some (.v (.bool (p d)))) :
    dComp [2] (sSeq (dLoc 0)) (tName 2) (bNot (bTru (dCall C (dCons (dLoc 2) dNil)))) (dLoc 2) ρ = some (.o (ds.filter fun d => !p d), ρ) := by
  subst hρ
  have c := dComp_map (vs := [2]) (src := sSeq (dLoc 0)) (tgt := tName 2) (cond := bNot (bTru (dCall C (dCons (dLoc 2) dNil)))) (elt := dLoc 2) (ρ := [some (.val (.tuple ds)), some (.val e), none]) (ρ1 := [some (.val (.tuple ds)), some (.val e), none]) (l := ds) (f := id) (g := fun d => if !p d then some d else none)
    (by simp [dLoc, dCon, dNil, dCons, dOp, dTup, dLst, looks, look, frz, dCall, dCallV, dCallK, reord, sSeq2, sSkip, sExp, sRet, sRetN, sIf, sAsg, sAsgT, bVal, bTru, bNot, bAnd, bOr, bYes, dAnd, dOr, dNot, dIf, tName, gsNil, gsCons, gTupD, Dn.tSub, Dn.valOf, asB, ownAt, asI, isPin, sl, dCut, iOf, iNo, fin, endV, runP, runF, runV, runW, startR, startV, dEmp, dChain, res, truR, Dn.tru, itemsOf, sNone, sSeq, sRg1, sRg2, sZip, sEnum, sFor, dApp, dPop, sBrk, sCnt, isNone, atI0, atI1, atI2, ixN3_0, ixN3_1, ixN3_2, ixN2_0, ixN2_1, noPins, e_add, e_addT, e_addL, e_sub, e_mul, e_mulL, e_mulT, e_div, e_mod, e_neg, e_eqI, e_neI, e_eqB, e_eqT, e_eqL, e_neT, e_neL, e_cmp, e_is, e_isnot, e_ixL, e_ixT, e_lenL, e_lenT, e_tupL, e_tupT, e_lstL, e_lstT, e_int, e_intB, e_abs, e_sum, e_divmod, e_gcd, e_max, e_min, e_isi, e_cutL, e_cutT]) (by simp [dLoc, dCon, dNil, dCons, dOp, dTup, dLst, looks, look, frz, dCall, dCallV, dCallK, reord, sSeq2, sSkip, sExp, sRet, sRetN, sIf, sAsg, sAsgT, bVal, bTru, bNot, bAnd, bOr, bYes, dAnd, dOr, dNot, dIf, tName, gsNil, gsCons, gTupD, Dn.tSub, Dn.valOf, asB, ownAt, asI, isPin, sl, dCut, iOf, iNo, fin, endV, runP, runF, runV, runW, startR, startV, dEmp, dChain, res, truR, Dn.tru, itemsOf, sNone, sSeq, sRg1, sRg2, sZip, sEnum, sFor, dApp, dPop, sBrk, sCnt, isNone, atI0, atI1, atI2, ixN3_0, ixN3_1, ixN3_2, ixN2_0, ixN2_1, noPins, e_add, e_addT, e_addL, e_sub, e_mul, e_mulL, e_mulT, e_div, e_mod, e_neg, e_eqI, e_neI, e_eqB, e_eqT, e_eqL, e_neT, e_neL, e_cmp, e_is, e_isnot, e_ixL, e_ixT, e_lenL, e_lenT, e_tupL, e_tupT, e_lstL, e_lstT, e_int, e_intB, e_abs, e_sum, e_divmod, e_gcd, e_max, e_min, e_isi, e_cutL, e_cutT]) hl (fun d hd => by
      have q := h d hd
      cases hp : p d <;> simp [stepC, dLoc, dCon, dNil, dCons, dOp, dTup, dLst, looks, look, frz, dCall, dCallV, dCallK, reord, sSeq2, sSkip, sExp, sRet, sRetN, sIf, sAsg, sAsgT, bVal, bTru, bNot, bAnd, bOr, bYes, dAnd, dOr, dNot, dIf, tName, gsNil, gsCons, gTupD, Dn.tSub, Dn.valOf, asB, ownAt, asI, isPin, sl, dCut, iOf, iNo, fin, endV, runP, runF, runV, runW, startR, startV, dEmp, dChain, res, truR, Dn.tru, itemsOf, sNone, sSeq, sRg1, sRg2, sZip, sEnum, sFor, dApp, dPop, sBrk, sCnt, isNone, atI0, atI1, atI2, ixN3_0, ixN3_1, ixN3_2, ixN2_0, ixN2_1, noPins, e_add, e_addT, e_addL, e_sub, e_mul, e_mulL, e_mulT, e_div, e_mod, e_neg, e_eqI, e_neI, e_eqB, e_eqT, e_eqL, e_neT, e_neL, e_cmp, e_is, e_isnot, e_ixL, e_ixT, e_lenL, e_lenT, e_tupL, e_tupT, e_lstL, e_lstT, e_int, e_intB, e_abs, e_sum, e_divmod, e_gcd, e_max, e_min, e_isi, e_cutL, e_cutT, wipeR, q, hp])
  rw [filterMap_if] at c
  simpa [wipeR] using c
theorem are_wholes_spec {d : D} {m : Int} (hl : ∀ ds, d = .tuple ds → ds.length ≤ 1000) : F_are_wholes [d, .int m] = some (.v (.bool (match d with | .tuple ds => ((ds.length : Int) == m) && ds.all isI | _ => false))) := by
  rcases tup_or d with ⟨ds, rfl⟩ | ⟨h, h2⟩
  · have c := comp_not (C := F_is_whole) (p := isI) (ds := ds) (e := .int m) (i := 0) (j := 0) rfl (by have := hl ds rfl; omega) (fun d _ => is_whole_spec d)
    by_cases z : (ds.length : Int) == m
    · simp [F_are_wholes, d_are_wholes, dLoc, dCon, dNil, dCons, dOp, dTup, dLst, looks, look, frz, dCall, dCallV, dCallK, reord, sSeq2, sSkip, sExp, sRet, sRetN, sIf, sAsg, sAsgT, bVal, bTru, bNot, bAnd, bOr, bYes, dAnd, dOr, dNot, dIf, tName, gsNil, gsCons, gTupD, Dn.tSub, Dn.valOf, asB, ownAt, asI, isPin, sl, dCut, iOf, iNo, fin, endV, runP, runF, runV, runW, startR, startV, dEmp, dChain, res, truR, Dn.tru, itemsOf, sNone, sSeq, sRg1, sRg2, sZip, sEnum, sFor, dApp, dPop, sBrk, sCnt, isNone, atI0, atI1, atI2, ixN3_0, ixN3_1, ixN3_2, ixN2_0, ixN2_1, noPins, e_add, e_addT, e_addL, e_sub, e_mul, e_mulL, e_mulT, e_div, e_mod, e_neg, e_eqI, e_neI, e_eqB, e_eqT, e_eqL, e_neT, e_neL, e_cmp, e_is, e_isnot, e_ixL, e_ixT, e_lenL, e_lenT, e_tupL, e_tupT, e_lstL, e_lstT, e_int, e_intB, e_abs, e_sum, e_divmod, e_gcd, e_max, e_min, e_isi, e_cutL, e_cutT, isTy_tup, z, c, filter_empty]
    · simp [F_are_wholes, d_are_wholes, dLoc, dCon, dNil, dCons, dOp, dTup, dLst, looks, look, frz, dCall, dCallV, dCallK, reord, sSeq2, sSkip, sExp, sRet, sRetN, sIf, sAsg, sAsgT, bVal, bTru, bNot, bAnd, bOr, bYes, dAnd, dOr, dNot, dIf, tName, gsNil, gsCons, gTupD, Dn.tSub, Dn.valOf, asB, ownAt, asI, isPin, sl, dCut, iOf, iNo, fin, endV, runP, runF, runV, runW, startR, startV, dEmp, dChain, res, truR, Dn.tru, itemsOf, sNone, sSeq, sRg1, sRg2, sZip, sEnum, sFor, dApp, dPop, sBrk, sCnt, isNone, atI0, atI1, atI2, ixN3_0, ixN3_1, ixN3_2, ixN2_0, ixN2_1, noPins, e_add, e_addT, e_addL, e_sub, e_mul, e_mulL, e_mulT, e_div, e_mod, e_neg, e_eqI, e_neI, e_eqB, e_eqT, e_eqL, e_neT, e_neL, e_cmp, e_is, e_isnot, e_ixL, e_ixT, e_lenL, e_lenT, e_tupL, e_tupT, e_lstL, e_lstT, e_int, e_intB, e_abs, e_sum, e_divmod, e_gcd, e_max, e_min, e_isi, e_cutL, e_cutT, isTy_tup, z]
  · cases d <;> first | (exact absurd rfl (h _)) | simp [F_are_wholes, d_are_wholes, dLoc, dCon, dNil, dCons, dOp, dTup, dLst, looks, look, frz, dCall, dCallV, dCallK, reord, sSeq2, sSkip, sExp, sRet, sRetN, sIf, sAsg, sAsgT, bVal, bTru, bNot, bAnd, bOr, bYes, dAnd, dOr, dNot, dIf, tName, gsNil, gsCons, gTupD, Dn.tSub, Dn.valOf, asB, ownAt, asI, isPin, sl, dCut, iOf, iNo, fin, endV, runP, runF, runV, runW, startR, startV, dEmp, dChain, res, truR, Dn.tru, itemsOf, sNone, sSeq, sRg1, sRg2, sZip, sEnum, sFor, dApp, dPop, sBrk, sCnt, isNone, atI0, atI1, atI2, ixN3_0, ixN3_1, ixN3_2, ixN2_0, ixN2_1, noPins, e_add, e_addT, e_addL, e_sub, e_mul, e_mulL, e_mulT, e_div, e_mod, e_neg, e_eqI, e_neI, e_eqB, e_eqT, e_eqL, e_neT, e_neL, e_cmp, e_is, e_isnot, e_ixL, e_ixT, e_lenL, e_lenT, e_tupL, e_tupT, e_lstL, e_lstT, e_int, e_intB, e_abs, e_sum, e_divmod, e_gcd, e_max, e_min, e_isi, e_cutL, e_cutT, h2]
theorem two_ints {ds : List D} (h1 : ds.length = 2) (h2 : ds.all isI = true) : ∃ a b, ds = [.int a, .int b] := by
  match ds, h1 with
  | [x, y], _ =>
    simp only [List.all_cons, List.all_nil, Bool.and_true, Bool.and_eq_true] at h2
    cases x <;> cases y <;> first | exact ⟨_, _, rfl⟩ | (simp [isI] at h2)
theorem is_fr_not {ds : List D} (h : ¬ (ds.length = 2 ∧ ds.all isI = true)) : isFr (.tuple ds) = false := by
  match ds, h with
  | [], _ => rfl
  | [x], _ => cases x <;> rfl
  | [.int a, .int b], h => exact absurd ⟨rfl, rfl⟩ h
  | [x, y], h => cases x <;> cases y <;> first | rfl | exact absurd ⟨rfl, rfl⟩ h
  | x :: y :: z :: r, _ => cases x <;> cases y <;> rfl
theorem is_fraction_spec {d : D} (hl : ∀ ds, d = .tuple ds → ds.length ≤ 1000) : F_is_fraction [d] = some (.v (.bool (isFr d))) := by
  have w := are_wholes_spec (m := 2) hl
  rcases tup_or d with ⟨ds, rfl⟩ | ⟨h, h2⟩
  · by_cases z : ds.length = 2 ∧ ds.all isI = true
    · obtain ⟨a, b, rfl⟩ := two_ints z.1 z.2
      simp only [List.length_cons, List.length_nil] at w
      have w' : F_are_wholes [.tuple [.int a, .int b], .int 2] = some (.v (.bool true)) := by rw [w]; rfl
      by_cases hb : 0 < b
      · have e : ∀ g : Nat, ((g : Int) == 1) = (g == 1) := fun g => by rw [Bool.eq_iff_iff]; simp; omega
        simp [F_is_fraction, d_is_fraction, dLoc, dCon, dNil, dCons, dOp, dTup, dLst, looks, look, frz, dCall, dCallV, dCallK, reord, sSeq2, sSkip, sExp, sRet, sRetN, sIf, sAsg, sAsgT, bVal, bTru, bNot, bAnd, bOr, bYes, dAnd, dOr, dNot, dIf, tName, gsNil, gsCons, gTupD, Dn.tSub, Dn.valOf, asB, ownAt, asI, isPin, sl, dCut, iOf, iNo, fin, endV, runP, runF, runV, runW, startR, startV, dEmp, dChain, res, truR, Dn.tru, itemsOf, sNone, sSeq, sRg1, sRg2, sZip, sEnum, sFor, dApp, dPop, sBrk, sCnt, isNone, atI0, atI1, atI2, ixN3_0, ixN3_1, ixN3_2, ixN2_0, ixN2_1, noPins, e_add, e_addT, e_addL, e_sub, e_mul, e_mulL, e_mulT, e_div, e_mod, e_neg, e_eqI, e_neI, e_eqB, e_eqT, e_eqL, e_neT, e_neL, e_cmp, e_is, e_isnot, e_ixL, e_ixT, e_lenL, e_lenT, e_tupL, e_tupT, e_lstL, e_lstT, e_int, e_intB, e_abs, e_sum, e_divmod, e_gcd, e_max, e_min, e_isi, e_cutL, e_cutT, w', hb, isFr, e]
      · simp [F_is_fraction, d_is_fraction, dLoc, dCon, dNil, dCons, dOp, dTup, dLst, looks, look, frz, dCall, dCallV, dCallK, reord, sSeq2, sSkip, sExp, sRet, sRetN, sIf, sAsg, sAsgT, bVal, bTru, bNot, bAnd, bOr, bYes, dAnd, dOr, dNot, dIf, tName, gsNil, gsCons, gTupD, Dn.tSub, Dn.valOf, asB, ownAt, asI, isPin, sl, dCut, iOf, iNo, fin, endV, runP, runF, runV, runW, startR, startV, dEmp, dChain, res, truR, Dn.tru, itemsOf, sNone, sSeq, sRg1, sRg2, sZip, sEnum, sFor, dApp, dPop, sBrk, sCnt, isNone, atI0, atI1, atI2, ixN3_0, ixN3_1, ixN3_2, ixN2_0, ixN2_1, noPins, e_add, e_addT, e_addL, e_sub, e_mul, e_mulL, e_mulT, e_div, e_mod, e_neg, e_eqI, e_neI, e_eqB, e_eqT, e_eqL, e_neT, e_neL, e_cmp, e_is, e_isnot, e_ixL, e_ixT, e_lenL, e_lenT, e_tupL, e_tupT, e_lstL, e_lstT, e_int, e_intB, e_abs, e_sum, e_divmod, e_gcd, e_max, e_min, e_isi, e_cutL, e_cutT, w', hb, isFr]
    · have w' : F_are_wholes [.tuple ds, .int 2] = some (.v (.bool false)) := by
        rw [w]
        simp only [Option.some.injEq, R.v.injEq, PyData.bool.injEq, Bool.and_eq_false_iff]
        by_cases q : ds.length = 2
        · refine .inr ?_
          cases t : ds.all isI with
          | false => rfl
          | true => exact absurd ⟨q, t⟩ z
        · exact .inl (by simp; omega)
      simp [F_is_fraction, d_is_fraction, dLoc, dCon, dNil, dCons, dOp, dTup, dLst, looks, look, frz, dCall, dCallV, dCallK, reord, sSeq2, sSkip, sExp, sRet, sRetN, sIf, sAsg, sAsgT, bVal, bTru, bNot, bAnd, bOr, bYes, dAnd, dOr, dNot, dIf, tName, gsNil, gsCons, gTupD, Dn.tSub, Dn.valOf, asB, ownAt, asI, isPin, sl, dCut, iOf, iNo, fin, endV, runP, runF, runV, runW, startR, startV, dEmp, dChain, res, truR, Dn.tru, itemsOf, sNone, sSeq, sRg1, sRg2, sZip, sEnum, sFor, dApp, dPop, sBrk, sCnt, isNone, atI0, atI1, atI2, ixN3_0, ixN3_1, ixN3_2, ixN2_0, ixN2_1, noPins, e_add, e_addT, e_addL, e_sub, e_mul, e_mulL, e_mulT, e_div, e_mod, e_neg, e_eqI, e_neI, e_eqB, e_eqT, e_eqL, e_neT, e_neL, e_cmp, e_is, e_isnot, e_ixL, e_ixT, e_lenL, e_lenT, e_tupL, e_tupT, e_lstL, e_lstT, e_int, e_intB, e_abs, e_sum, e_divmod, e_gcd, e_max, e_min, e_isi, e_cutL, e_cutT, w', is_fr_not z]
  · cases d <;> first | (exact absurd rfl (h _)) | simp [F_is_fraction, d_is_fraction, dLoc, dCon, dNil, dCons, dOp, dTup, dLst, looks, look, frz, dCall, dCallV, dCallK, reord, sSeq2, sSkip, sExp, sRet, sRetN, sIf, sAsg, sAsgT, bVal, bTru, bNot, bAnd, bOr, bYes, dAnd, dOr, dNot, dIf, tName, gsNil, gsCons, gTupD, Dn.tSub, Dn.valOf, asB, ownAt, asI, isPin, sl, dCut, iOf, iNo, fin, endV, runP, runF, runV, runW, startR, startV, dEmp, dChain, res, truR, Dn.tru, itemsOf, sNone, sSeq, sRg1, sRg2, sZip, sEnum, sFor, dApp, dPop, sBrk, sCnt, isNone, atI0, atI1, atI2, ixN3_0, ixN3_1, ixN3_2, ixN2_0, ixN2_1, noPins, e_add, e_addT, e_addL, e_sub, e_mul, e_mulL, e_mulT, e_div, e_mod, e_neg, e_eqI, e_neI, e_eqB, e_eqT, e_eqL, e_neT, e_neL, e_cmp, e_is, e_isnot, e_ixL, e_ixT, e_lenL, e_lenT, e_tupL, e_tupT, e_lstL, e_lstT, e_int, e_intB, e_abs, e_sum, e_divmod, e_gcd, e_max, e_min, e_isi, e_cutL, e_cutT, w, isFr]
end Pl

set_option Elab.async false
set_option linter.all false
set_option maxRecDepth 100000
set_option maxHeartbeats 4000000
namespace Pl
open PySem PySem.Spec PyProof.Rows L2 Dn
theorem map_bools {α : Type} (f : α → Bool) (l : List α) : l.map (fun d => PyData.bool (f d)) = (l.map f).map PyData.bool := by rw [List.map_map]; rfl
theorem OKD.len {n L F : Nat} {d : D} (h : OKD n L F d) (hL : L ≤ 1000) : ∀ ds, d = .tuple ds → ds.length ≤ 1000 := fun ds e => by
  subst e
  exact Nat.le_trans h.tup.1 hL
theorem are_fractions_spec {d : D} {n L F m : Nat} (h : OKD n L F d) (hL : L ≤ 1000) : F_are_fractions [d, .int (m : Int)] = some (.v (.bool (isRow m d))) := by
  rcases tup_or d with ⟨ds, rfl⟩ | ⟨h1, h2⟩
  · obtain ⟨hl, G, rfl, hs⟩ := h.tup
    have c := comp_not (C := F_is_fraction) (p := isFr) (ds := ds) (e := .int (m : Int)) (i := 0) (j := 0) rfl (by omega) (fun d hd => is_fraction_spec ((hs d hd).len hL))
    have e : ((ds.length : Int) == (m : Int)) = (ds.length == m) := by rw [Bool.eq_iff_iff]; simp; omega
    cases z : ds.length == m
    · simp [F_are_fractions, d_are_fractions, dLoc, dCon, dNil, dCons, dOp, dTup, dLst, looks, look, frz, dCall, dCallV, dCallK, reord, sSeq2, sSkip, sExp, sRet, sRetN, sIf, sAsg, sAsgT, bVal, bTru, bNot, bAnd, bOr, bYes, dAnd, dOr, dNot, dIf, tName, gsNil, gsCons, gTupD, Dn.tSub, Dn.valOf, asB, ownAt, asI, isPin, sl, dCut, iOf, iNo, fin, endV, runP, runF, runV, runW, startR, startV, dEmp, dChain, res, truR, Dn.tru, itemsOf, sNone, sSeq, sRg1, sRg2, sZip, sEnum, sFor, dApp, dPop, sBrk, sCnt, isNone, atI0, atI1, atI2, ixN3_0, ixN3_1, ixN3_2, ixN2_0, ixN2_1, noPins, e_add, e_addT, e_addL, e_sub, e_mul, e_mulL, e_mulT, e_div, e_mod, e_neg, e_eqI, e_neI, e_eqB, e_eqT, e_eqL, e_neT, e_neL, e_cmp, e_is, e_isnot, e_ixL, e_ixT, e_lenL, e_lenT, e_tupL, e_tupT, e_lstL, e_lstT, e_int, e_intB, e_abs, e_sum, e_divmod, e_gcd, e_max, e_min, e_isi, e_cutL, e_cutT, isTy_tup, e, z, isRow]
    · simp [F_are_fractions, d_are_fractions, dLoc, dCon, dNil, dCons, dOp, dTup, dLst, looks, look, frz, dCall, dCallV, dCallK, reord, sSeq2, sSkip, sExp, sRet, sRetN, sIf, sAsg, sAsgT, bVal, bTru, bNot, bAnd, bOr, bYes, dAnd, dOr, dNot, dIf, tName, gsNil, gsCons, gTupD, Dn.tSub, Dn.valOf, asB, ownAt, asI, isPin, sl, dCut, iOf, iNo, fin, endV, runP, runF, runV, runW, startR, startV, dEmp, dChain, res, truR, Dn.tru, itemsOf, sNone, sSeq, sRg1, sRg2, sZip, sEnum, sFor, dApp, dPop, sBrk, sCnt, isNone, atI0, atI1, atI2, ixN3_0, ixN3_1, ixN3_2, ixN2_0, ixN2_1, noPins, e_add, e_addT, e_addL, e_sub, e_mul, e_mulL, e_mulT, e_div, e_mod, e_neg, e_eqI, e_neI, e_eqB, e_eqT, e_eqL, e_neT, e_neL, e_cmp, e_is, e_isnot, e_ixL, e_ixT, e_lenL, e_lenT, e_tupL, e_tupT, e_lstL, e_lstT, e_int, e_intB, e_abs, e_sum, e_divmod, e_gcd, e_max, e_min, e_isi, e_cutL, e_cutT, isTy_tup, e, z, c, filter_empty, isRow]
  · cases d <;> first | (exact absurd rfl (h1 _)) | simp [F_are_fractions, d_are_fractions, dLoc, dCon, dNil, dCons, dOp, dTup, dLst, looks, look, frz, dCall, dCallV, dCallK, reord, sSeq2, sSkip, sExp, sRet, sRetN, sIf, sAsg, sAsgT, bVal, bTru, bNot, bAnd, bOr, bYes, dAnd, dOr, dNot, dIf, tName, gsNil, gsCons, gTupD, Dn.tSub, Dn.valOf, asB, ownAt, asI, isPin, sl, dCut, iOf, iNo, fin, endV, runP, runF, runV, runW, startR, startV, dEmp, dChain, res, truR, Dn.tru, itemsOf, sNone, sSeq, sRg1, sRg2, sZip, sEnum, sFor, dApp, dPop, sBrk, sCnt, isNone, atI0, atI1, atI2, ixN3_0, ixN3_1, ixN3_2, ixN2_0, ixN2_1, noPins, e_add, e_addT, e_addL, e_sub, e_mul, e_mulL, e_mulT, e_div, e_mod, e_neg, e_eqI, e_neI, e_eqB, e_eqT, e_eqL, e_neT, e_neL, e_cmp, e_is, e_isnot, e_ixL, e_ixT, e_lenL, e_lenT, e_tupL, e_tupT, e_lstL, e_lstT, e_int, e_intB, e_abs, e_sum, e_divmod, e_gcd, e_max, e_min, e_isi, e_cutL, e_cutT, h2, isRow]
theorem comp_not1 {C : List D → Option R} {p : D → Bool} {ds : List D} (hl : ds.length ≤ 1000000) (h : ∀ d ∈ ds, C [d, .int (ds.length : Int)] = some (.v (.bool (p d)))) :
    dComp [1] (sSeq (dLoc 0)) (tName 1) (bNot (bTru (dCall C (dCons (dLoc 1) (dCons (dOp pLen (dCons (dLoc 0) dNil)) dNil))))) (dLoc 1) [some (.val (.tuple ds)), none] = some (.o (ds.filter fun d => !p d), [some (.val (.tuple ds)), none]) := by
  have c := dComp_map (vs := [1]) (src := sSeq (dLoc 0)) (tgt := tName 1) (cond := bNot (bTru (dCall C (dCons (dLoc 1) (dCons (dOp pLen (dCons (dLoc 0) dNil)) dNil))))) (elt := dLoc 1) (ρ := [some (.val (.tuple ds)), none]) (ρ1 := [some (.val (.tuple ds)), none]) (l := ds) (f := id) (g := fun d => if !p d then some d else none)
    (by simp [dLoc, dCon, dNil, dCons, dOp, dTup, dLst, looks, look, frz, dCall, dCallV, dCallK, reord, sSeq2, sSkip, sExp, sRet, sRetN, sIf, sAsg, sAsgT, bVal, bTru, bNot, bAnd, bOr, bYes, dAnd, dOr, dNot, dIf, tName, gsNil, gsCons, gTupD, Dn.tSub, Dn.valOf, asB, ownAt, asI, isPin, sl, dCut, iOf, iNo, fin, endV, runP, runF, runV, runW, startR, startV, dEmp, dChain, res, truR, Dn.tru, itemsOf, sNone, sSeq, sRg1, sRg2, sZip, sEnum, sFor, dApp, dPop, sBrk, sCnt, isNone, atI0, atI1, atI2, ixN3_0, ixN3_1, ixN3_2, ixN2_0, ixN2_1, noPins, e_add, e_addT, e_addL, e_sub, e_mul, e_mulL, e_mulT, e_div, e_mod, e_neg, e_eqI, e_neI, e_eqB, e_eqT, e_eqL, e_neT, e_neL, e_cmp, e_is, e_isnot, e_ixL, e_ixT, e_lenL, e_lenT, e_tupL, e_tupT, e_lstL, e_lstT, e_int, e_intB, e_abs, e_sum, e_divmod, e_gcd, e_max, e_min, e_isi, e_cutL, e_cutT]) (by simp [dLoc, dCon, dNil, dCons, dOp, dTup, dLst, looks, look, frz, dCall, dCallV, dCallK, reord, sSeq2, sSkip, sExp, sRet, sRetN, sIf, sAsg, sAsgT, bVal, bTru, bNot, bAnd, bOr, bYes, dAnd, dOr, dNot, dIf, tName, gsNil, gsCons, gTupD, Dn.tSub, Dn.valOf, asB, ownAt, asI, isPin, sl, dCut, iOf, iNo, fin, endV, runP, runF, runV, runW, startR, startV, dEmp, dChain, res, truR, Dn.tru, itemsOf, sNone, sSeq, sRg1, sRg2, sZip, sEnum, sFor, dApp, dPop, sBrk, sCnt, isNone, atI0, atI1, atI2, ixN3_0, ixN3_1, ixN3_2, ixN2_0, ixN2_1, noPins, e_add, e_addT, e_addL, e_sub, e_mul, e_mulL, e_mulT, e_div, e_mod, e_neg, e_eqI, e_neI, e_eqB, e_eqT, e_eqL, e_neT, e_neL, e_cmp, e_is, e_isnot, e_ixL, e_ixT, e_lenL, e_lenT, e_tupL, e_tupT, e_lstL, e_lstT, e_int, e_intB, e_abs, e_sum, e_divmod, e_gcd, e_max, e_min, e_isi, e_cutL, e_cutT]) hl (fun d hd => by
      have q := h d hd
      cases hp : p d <;> simp [stepC, dLoc, dCon, dNil, dCons, dOp, dTup, dLst, looks, look, frz, dCall, dCallV, dCallK, reord, sSeq2, sSkip, sExp, sRet, sRetN, sIf, sAsg, sAsgT, bVal, bTru, bNot, bAnd, bOr, bYes, dAnd, dOr, dNot, dIf, tName, gsNil, gsCons, gTupD, Dn.tSub, Dn.valOf, asB, ownAt, asI, isPin, sl, dCut, iOf, iNo, fin, endV, runP, runF, runV, runW, startR, startV, dEmp, dChain, res, truR, Dn.tru, itemsOf, sNone, sSeq, sRg1, sRg2, sZip, sEnum, sFor, dApp, dPop, sBrk, sCnt, isNone, atI0, atI1, atI2, ixN3_0, ixN3_1, ixN3_2, ixN2_0, ixN2_1, noPins, e_add, e_addT, e_addL, e_sub, e_mul, e_mulL, e_mulT, e_div, e_mod, e_neg, e_eqI, e_neI, e_eqB, e_eqT, e_eqL, e_neT, e_neL, e_cmp, e_is, e_isnot, e_ixL, e_ixT, e_lenL, e_lenT, e_tupL, e_tupT, e_lstL, e_lstT, e_int, e_intB, e_abs, e_sum, e_divmod, e_gcd, e_max, e_min, e_isi, e_cutL, e_cutT, wipeR, q, hp])
  rw [filterMap_if] at c
  simpa [wipeR] using c
theorem is_table_spec {d : D} {n L F : Nat} (h : OKD n L F d) (hL : L ≤ 1000) : F_is_table [d] = some (.v (.bool (isTab d))) := by
  rcases tup_or d with ⟨ds, rfl⟩ | ⟨h1, h2⟩
  · obtain ⟨hl, G, rfl, hs⟩ := h.tup
    have c := comp_not1 (C := F_are_fractions) (p := isRow ds.length) (ds := ds) (by omega) (fun d hd => are_fractions_spec (hs d hd) hL)
    by_cases z1 : 1 ≤ ds.length
    · have y1 : decide ((1 : Int) ≤ (ds.length : Int)) = true := decide_eq_true (by omega)
      by_cases z2 : ds.length ≤ 5
      · have y2 : decide ((ds.length : Int) ≤ 5) = true := decide_eq_true (by omega)
        simp [F_is_table, d_is_table, dLoc, dCon, dNil, dCons, dOp, dTup, dLst, looks, look, frz, dCall, dCallV, dCallK, reord, sSeq2, sSkip, sExp, sRet, sRetN, sIf, sAsg, sAsgT, bVal, bTru, bNot, bAnd, bOr, bYes, dAnd, dOr, dNot, dIf, tName, gsNil, gsCons, gTupD, Dn.tSub, Dn.valOf, asB, ownAt, asI, isPin, sl, dCut, iOf, iNo, fin, endV, runP, runF, runV, runW, startR, startV, dEmp, dChain, res, truR, Dn.tru, itemsOf, sNone, sSeq, sRg1, sRg2, sZip, sEnum, sFor, dApp, dPop, sBrk, sCnt, isNone, atI0, atI1, atI2, ixN3_0, ixN3_1, ixN3_2, ixN2_0, ixN2_1, noPins, e_add, e_addT, e_addL, e_sub, e_mul, e_mulL, e_mulT, e_div, e_mod, e_neg, e_eqI, e_neI, e_eqB, e_eqT, e_eqL, e_neT, e_neL, e_cmp, e_is, e_isnot, e_ixL, e_ixT, e_lenL, e_lenT, e_tupL, e_tupT, e_lstL, e_lstT, e_int, e_intB, e_abs, e_sum, e_divmod, e_gcd, e_max, e_min, e_isi, e_cutL, e_cutT, isTy_tup, y1, y2, z1, z2, c, filter_empty, isTab]
      · have y2 : decide ((ds.length : Int) ≤ 5) = false := decide_eq_false (by omega)
        simp [F_is_table, d_is_table, dLoc, dCon, dNil, dCons, dOp, dTup, dLst, looks, look, frz, dCall, dCallV, dCallK, reord, sSeq2, sSkip, sExp, sRet, sRetN, sIf, sAsg, sAsgT, bVal, bTru, bNot, bAnd, bOr, bYes, dAnd, dOr, dNot, dIf, tName, gsNil, gsCons, gTupD, Dn.tSub, Dn.valOf, asB, ownAt, asI, isPin, sl, dCut, iOf, iNo, fin, endV, runP, runF, runV, runW, startR, startV, dEmp, dChain, res, truR, Dn.tru, itemsOf, sNone, sSeq, sRg1, sRg2, sZip, sEnum, sFor, dApp, dPop, sBrk, sCnt, isNone, atI0, atI1, atI2, ixN3_0, ixN3_1, ixN3_2, ixN2_0, ixN2_1, noPins, e_add, e_addT, e_addL, e_sub, e_mul, e_mulL, e_mulT, e_div, e_mod, e_neg, e_eqI, e_neI, e_eqB, e_eqT, e_eqL, e_neT, e_neL, e_cmp, e_is, e_isnot, e_ixL, e_ixT, e_lenL, e_lenT, e_tupL, e_tupT, e_lstL, e_lstT, e_int, e_intB, e_abs, e_sum, e_divmod, e_gcd, e_max, e_min, e_isi, e_cutL, e_cutT, isTy_tup, y1, y2, z1, z2, isTab]
    · have y1 : decide ((1 : Int) ≤ (ds.length : Int)) = false := decide_eq_false (by omega)
      simp [F_is_table, d_is_table, dLoc, dCon, dNil, dCons, dOp, dTup, dLst, looks, look, frz, dCall, dCallV, dCallK, reord, sSeq2, sSkip, sExp, sRet, sRetN, sIf, sAsg, sAsgT, bVal, bTru, bNot, bAnd, bOr, bYes, dAnd, dOr, dNot, dIf, tName, gsNil, gsCons, gTupD, Dn.tSub, Dn.valOf, asB, ownAt, asI, isPin, sl, dCut, iOf, iNo, fin, endV, runP, runF, runV, runW, startR, startV, dEmp, dChain, res, truR, Dn.tru, itemsOf, sNone, sSeq, sRg1, sRg2, sZip, sEnum, sFor, dApp, dPop, sBrk, sCnt, isNone, atI0, atI1, atI2, ixN3_0, ixN3_1, ixN3_2, ixN2_0, ixN2_1, noPins, e_add, e_addT, e_addL, e_sub, e_mul, e_mulL, e_mulT, e_div, e_mod, e_neg, e_eqI, e_neI, e_eqB, e_eqT, e_eqL, e_neT, e_neL, e_cmp, e_is, e_isnot, e_ixL, e_ixT, e_lenL, e_lenT, e_tupL, e_tupT, e_lstL, e_lstT, e_int, e_intB, e_abs, e_sum, e_divmod, e_gcd, e_max, e_min, e_isi, e_cutL, e_cutT, isTy_tup, y1, z1, isTab]
  · cases d <;> first | (exact absurd rfl (h1 _)) | simp [F_is_table, d_is_table, dLoc, dCon, dNil, dCons, dOp, dTup, dLst, looks, look, frz, dCall, dCallV, dCallK, reord, sSeq2, sSkip, sExp, sRet, sRetN, sIf, sAsg, sAsgT, bVal, bTru, bNot, bAnd, bOr, bYes, dAnd, dOr, dNot, dIf, tName, gsNil, gsCons, gTupD, Dn.tSub, Dn.valOf, asB, ownAt, asI, isPin, sl, dCut, iOf, iNo, fin, endV, runP, runF, runV, runW, startR, startV, dEmp, dChain, res, truR, Dn.tru, itemsOf, sNone, sSeq, sRg1, sRg2, sZip, sEnum, sFor, dApp, dPop, sBrk, sCnt, isNone, atI0, atI1, atI2, ixN3_0, ixN3_1, ixN3_2, ixN2_0, ixN2_1, noPins, e_add, e_addT, e_addL, e_sub, e_mul, e_mulL, e_mulT, e_div, e_mod, e_neg, e_eqI, e_neI, e_eqB, e_eqT, e_eqL, e_neT, e_neL, e_cmp, e_is, e_isnot, e_ixL, e_ixT, e_lenL, e_lenT, e_tupL, e_tupT, e_lstL, e_lstT, e_int, e_intB, e_abs, e_sum, e_divmod, e_gcd, e_max, e_min, e_isi, e_cutL, e_cutT, h2, isTab]

/-! ### the law's own words for it -/
theorem shaped_bools (l : List Bool) : SeqAt.shaped (.list (l.map PyData.bool)) = true := by
  have h1 : PyData.canLayAll0 (l.map PyData.bool) = true := by
    induction l with
    | nil => rfl
    | cons b l ih => rw [List.map_cons, PyData.canLayAll0, ih]; rfl
  have h2 : PyData.depthAll (l.map PyData.bool) ≤ 0 := depthA_map fun _ _ => Nat.le_refl _
  unfold SeqAt.shaped
  rw [show PyData.canLay0 (.list (l.map PyData.bool)) = true by simpa [PyData.canLay0] using h1, Bool.true_and]
  refine decide_eq_true ?_
  show PyData.depthAll (l.map PyData.bool) + 1 ≤ 64
  omega
theorem any_false (l : List Bool) : ((l.map PyData.bool).any fun z => PyData.eqv z (.bool false)) = !(l.all id) := by
  induction l with
  | nil => rfl
  | cons b l ih => rw [List.map_cons, List.any_cons, ih]; cases b <;> simp [PyData.eqv]
theorem in_bools (l : List Bool) : pIn [.bool false, .list (l.map .bool)] = some (.v (.bool (!(l.all id)))) := by
  rw [← any_false]; exact if_pos (by rw [shaped_bools]; rfl)
theorem notin_bools (l : List Bool) : pNotIn [.bool false, .list (l.map .bool)] = some (.v (.bool (l.all id))) := by
  have e := any_false l
  have : pNotIn [.bool false, .list (l.map .bool)] = some (.v (.bool (!((l.map PyData.bool).any fun z => PyData.eqv z (.bool false))))) := if_pos (by rw [shaped_bools]; rfl)
  rw [this, e, Bool.not_not]
theorem frac_same {a b : Int} (hb : 0 < b) : ((Rat.divInt a b).num == a && ((Rat.divInt a b).den : Int) == b) = (Nat.gcd a.natAbs b.natAbs == 1) := by
  rw [Bool.eq_iff_iff]
  simp only [Bool.and_eq_true, beq_iff_eq]
  constructor
  · rintro ⟨h1, h2⟩
    have r := (Rat.divInt a b).reduced
    rw [h1] at r
    have e : (Rat.divInt a b).den = b.natAbs := by omega
    rw [e] at r
    exact r
  · intro g
    have lp := low_pair (a := a) (b := b) (by omega) rfl
    rw [if_pos hb, g] at lp
    have f : ∀ x : Int, x.fdiv ((1 : Nat) : Int) = x := fun x => by rw [show ((1 : Nat) : Int) = 1 from rfl, Int.fdiv_one]
    rw [f, f] at lp
    exact ⟨lp.1.symm, lp.2.symm⟩
theorem eqv2 {a b c e : Int} : PyData.eqv (.tuple [.int a, .int b]) (.tuple [.int c, .int e]) = (a == c && b == e) := by simp [PyData.eqv, PyData.eqvAll]
theorem shaped2 {a b : Int} : SeqAt.shaped (.tuple [.int a, .int b]) = true := rfl
theorem law_is_frac_spec {d : D} {n L F : Nat} (h : OKD n L F d) (hL : L ≤ 1000) (hn : n ≤ 9000) : F__law_is_frac [d] = some (.v (.bool (isFr d))) := by
  rcases tup_or d with ⟨ds, rfl⟩ | ⟨h1, h2⟩
  · obtain ⟨hl, G, rfl, hs⟩ := h.tup
    have c := dComp_map (vs := [1]) (src := sSeq (dLoc 0)) (tgt := tName 1) (cond := bYes) (elt := dCall F__law_is_whole (dCons (dLoc 1) dNil)) (ρ := [some (.val (.tuple ds)), none]) (ρ1 := [some (.val (.tuple ds)), none]) (l := ds) (f := id) (g := fun d => some (.bool (isI d)))
      (by simp [dLoc, dCon, dNil, dCons, dOp, dTup, dLst, looks, look, frz, dCall, dCallV, dCallK, reord, sSeq2, sSkip, sExp, sRet, sRetN, sIf, sAsg, sAsgT, bVal, bTru, bNot, bAnd, bOr, bYes, dAnd, dOr, dNot, dIf, tName, gsNil, gsCons, gTupD, Dn.tSub, Dn.valOf, asB, ownAt, asI, isPin, sl, dCut, iOf, iNo, fin, endV, runP, runF, runV, runW, startR, startV, dEmp, dChain, res, truR, Dn.tru, itemsOf, sNone, sSeq, sRg1, sRg2, sZip, sEnum, sFor, dApp, dPop, sBrk, sCnt, isNone, atI0, atI1, atI2, ixN3_0, ixN3_1, ixN3_2, ixN2_0, ixN2_1, noPins, e_add, e_addT, e_addL, e_sub, e_mul, e_mulL, e_mulT, e_div, e_mod, e_neg, e_eqI, e_neI, e_eqB, e_eqT, e_eqL, e_neT, e_neL, e_cmp, e_is, e_isnot, e_ixL, e_ixT, e_lenL, e_lenT, e_tupL, e_tupT, e_lstL, e_lstT, e_int, e_intB, e_abs, e_sum, e_divmod, e_gcd, e_max, e_min, e_isi, e_cutL, e_cutT]) (by simp [dLoc, dCon, dNil, dCons, dOp, dTup, dLst, looks, look, frz, dCall, dCallV, dCallK, reord, sSeq2, sSkip, sExp, sRet, sRetN, sIf, sAsg, sAsgT, bVal, bTru, bNot, bAnd, bOr, bYes, dAnd, dOr, dNot, dIf, tName, gsNil, gsCons, gTupD, Dn.tSub, Dn.valOf, asB, ownAt, asI, isPin, sl, dCut, iOf, iNo, fin, endV, runP, runF, runV, runW, startR, startV, dEmp, dChain, res, truR, Dn.tru, itemsOf, sNone, sSeq, sRg1, sRg2, sZip, sEnum, sFor, dApp, dPop, sBrk, sCnt, isNone, atI0, atI1, atI2, ixN3_0, ixN3_1, ixN3_2, ixN2_0, ixN2_1, noPins, e_add, e_addT, e_addL, e_sub, e_mul, e_mulL, e_mulT, e_div, e_mod, e_neg, e_eqI, e_neI, e_eqB, e_eqT, e_eqL, e_neT, e_neL, e_cmp, e_is, e_isnot, e_ixL, e_ixT, e_lenL, e_lenT, e_tupL, e_tupT, e_lstL, e_lstT, e_int, e_intB, e_abs, e_sum, e_divmod, e_gcd, e_max, e_min, e_isi, e_cutL, e_cutT]) (by omega) (fun d hd => by simp [stepC, dLoc, dCon, dNil, dCons, dOp, dTup, dLst, looks, look, frz, dCall, dCallV, dCallK, reord, sSeq2, sSkip, sExp, sRet, sRetN, sIf, sAsg, sAsgT, bVal, bTru, bNot, bAnd, bOr, bYes, dAnd, dOr, dNot, dIf, tName, gsNil, gsCons, gTupD, Dn.tSub, Dn.valOf, asB, ownAt, asI, isPin, sl, dCut, iOf, iNo, fin, endV, runP, runF, runV, runW, startR, startV, dEmp, dChain, res, truR, Dn.tru, itemsOf, sNone, sSeq, sRg1, sRg2, sZip, sEnum, sFor, dApp, dPop, sBrk, sCnt, isNone, atI0, atI1, atI2, ixN3_0, ixN3_1, ixN3_2, ixN2_0, ixN2_1, noPins, e_add, e_addT, e_addL, e_sub, e_mul, e_mulL, e_mulT, e_div, e_mod, e_neg, e_eqI, e_neI, e_eqB, e_eqT, e_eqL, e_neT, e_neL, e_cmp, e_is, e_isnot, e_ixL, e_ixT, e_lenL, e_lenT, e_tupL, e_tupT, e_lstL, e_lstT, e_int, e_intB, e_abs, e_sum, e_divmod, e_gcd, e_max, e_min, e_isi, e_cutL, e_cutT, wipeR, law_is_whole_spec])
    rw [filterMap_some, map_bools (isI) ds] at c
    have b := in_bools (ds.map isI)
    have ea : (ds.map isI).all id = ds.all isI := by simp [List.all_map]
    rw [ea] at b
    by_cases z : ds.length = 2
    · have e2 : ((ds.length : Int) == 2) = true := by rw [z]; rfl
      by_cases y : ds.all isI = true
      · obtain ⟨a, b', rfl⟩ := two_ints z y
        have hb' : Bd n b' := (hs (.int b') (by simp)).int
        have b2 : pIn [.bool false, .list [.bool true, .bool true]] = some (.v (.bool false)) := in_bools [true, true]
        by_cases p : 0 < b'
        · have f := frac_spec (n := 0) (a := a) (b := b') (by omega) hb' hn
          simp only [enc] at f
          have q := e_eq (d := .tuple [.int (Rat.divInt a b').num, .int ((Rat.divInt a b').den : Int)]) (e := .tuple [.int a, .int b']) shaped2 shaped2
          rw [eqv2, frac_same p] at q
          simp [F__law_is_frac, d__law_is_frac, dLoc, dCon, dNil, dCons, dOp, dTup, dLst, looks, look, frz, dCall, dCallV, dCallK, reord, sSeq2, sSkip, sExp, sRet, sRetN, sIf, sAsg, sAsgT, bVal, bTru, bNot, bAnd, bOr, bYes, dAnd, dOr, dNot, dIf, tName, gsNil, gsCons, gTupD, Dn.tSub, Dn.valOf, asB, ownAt, asI, isPin, sl, dCut, iOf, iNo, fin, endV, runP, runF, runV, runW, startR, startV, dEmp, dChain, res, truR, Dn.tru, itemsOf, sNone, sSeq, sRg1, sRg2, sZip, sEnum, sFor, dApp, dPop, sBrk, sCnt, isNone, atI0, atI1, atI2, ixN3_0, ixN3_1, ixN3_2, ixN2_0, ixN2_1, noPins, e_add, e_addT, e_addL, e_sub, e_mul, e_mulL, e_mulT, e_div, e_mod, e_neg, e_eqI, e_neI, e_eqB, e_eqT, e_eqL, e_neT, e_neL, e_cmp, e_is, e_isnot, e_ixL, e_ixT, e_lenL, e_lenT, e_tupL, e_tupT, e_lstL, e_lstT, e_int, e_intB, e_abs, e_sum, e_divmod, e_gcd, e_max, e_min, e_isi, e_cutL, e_cutT, isTy_tup, c, b2, isI, p, f, q, isFr, wipeR, -List.map_map]
        · simp [F__law_is_frac, d__law_is_frac, dLoc, dCon, dNil, dCons, dOp, dTup, dLst, looks, look, frz, dCall, dCallV, dCallK, reord, sSeq2, sSkip, sExp, sRet, sRetN, sIf, sAsg, sAsgT, bVal, bTru, bNot, bAnd, bOr, bYes, dAnd, dOr, dNot, dIf, tName, gsNil, gsCons, gTupD, Dn.tSub, Dn.valOf, asB, ownAt, asI, isPin, sl, dCut, iOf, iNo, fin, endV, runP, runF, runV, runW, startR, startV, dEmp, dChain, res, truR, Dn.tru, itemsOf, sNone, sSeq, sRg1, sRg2, sZip, sEnum, sFor, dApp, dPop, sBrk, sCnt, isNone, atI0, atI1, atI2, ixN3_0, ixN3_1, ixN3_2, ixN2_0, ixN2_1, noPins, e_add, e_addT, e_addL, e_sub, e_mul, e_mulL, e_mulT, e_div, e_mod, e_neg, e_eqI, e_neI, e_eqB, e_eqT, e_eqL, e_neT, e_neL, e_cmp, e_is, e_isnot, e_ixL, e_ixT, e_lenL, e_lenT, e_tupL, e_tupT, e_lstL, e_lstT, e_int, e_intB, e_abs, e_sum, e_divmod, e_gcd, e_max, e_min, e_isi, e_cutL, e_cutT, isTy_tup, c, b2, isI, p, isFr, wipeR, -List.map_map]
      · have y' : ds.all isI = false := by simpa using y
        have nf := is_fr_not (ds := ds) (fun q => y q.2)
        rw [y'] at b
        simp [F__law_is_frac, d__law_is_frac, dLoc, dCon, dNil, dCons, dOp, dTup, dLst, looks, look, frz, dCall, dCallV, dCallK, reord, sSeq2, sSkip, sExp, sRet, sRetN, sIf, sAsg, sAsgT, bVal, bTru, bNot, bAnd, bOr, bYes, dAnd, dOr, dNot, dIf, tName, gsNil, gsCons, gTupD, Dn.tSub, Dn.valOf, asB, ownAt, asI, isPin, sl, dCut, iOf, iNo, fin, endV, runP, runF, runV, runW, startR, startV, dEmp, dChain, res, truR, Dn.tru, itemsOf, sNone, sSeq, sRg1, sRg2, sZip, sEnum, sFor, dApp, dPop, sBrk, sCnt, isNone, atI0, atI1, atI2, ixN3_0, ixN3_1, ixN3_2, ixN2_0, ixN2_1, noPins, e_add, e_addT, e_addL, e_sub, e_mul, e_mulL, e_mulT, e_div, e_mod, e_neg, e_eqI, e_neI, e_eqB, e_eqT, e_eqL, e_neT, e_neL, e_cmp, e_is, e_isnot, e_ixL, e_ixT, e_lenL, e_lenT, e_tupL, e_tupT, e_lstL, e_lstT, e_int, e_intB, e_abs, e_sum, e_divmod, e_gcd, e_max, e_min, e_isi, e_cutL, e_cutT, isTy_tup, c, b, e2, nf, wipeR, -List.map_map]
    · have e2 : ((ds.length : Int) == 2) = false := by simp; omega
      have nf := is_fr_not (ds := ds) (fun q => z q.1)
      simp [F__law_is_frac, d__law_is_frac, dLoc, dCon, dNil, dCons, dOp, dTup, dLst, looks, look, frz, dCall, dCallV, dCallK, reord, sSeq2, sSkip, sExp, sRet, sRetN, sIf, sAsg, sAsgT, bVal, bTru, bNot, bAnd, bOr, bYes, dAnd, dOr, dNot, dIf, tName, gsNil, gsCons, gTupD, Dn.tSub, Dn.valOf, asB, ownAt, asI, isPin, sl, dCut, iOf, iNo, fin, endV, runP, runF, runV, runW, startR, startV, dEmp, dChain, res, truR, Dn.tru, itemsOf, sNone, sSeq, sRg1, sRg2, sZip, sEnum, sFor, dApp, dPop, sBrk, sCnt, isNone, atI0, atI1, atI2, ixN3_0, ixN3_1, ixN3_2, ixN2_0, ixN2_1, noPins, e_add, e_addT, e_addL, e_sub, e_mul, e_mulL, e_mulT, e_div, e_mod, e_neg, e_eqI, e_neI, e_eqB, e_eqT, e_eqL, e_neT, e_neL, e_cmp, e_is, e_isnot, e_ixL, e_ixT, e_lenL, e_lenT, e_tupL, e_tupT, e_lstL, e_lstT, e_int, e_intB, e_abs, e_sum, e_divmod, e_gcd, e_max, e_min, e_isi, e_cutL, e_cutT, isTy_tup, e2, nf]
  · cases d <;> first | (exact absurd rfl (h1 _)) | simp [F__law_is_frac, d__law_is_frac, dLoc, dCon, dNil, dCons, dOp, dTup, dLst, looks, look, frz, dCall, dCallV, dCallK, reord, sSeq2, sSkip, sExp, sRet, sRetN, sIf, sAsg, sAsgT, bVal, bTru, bNot, bAnd, bOr, bYes, dAnd, dOr, dNot, dIf, tName, gsNil, gsCons, gTupD, Dn.tSub, Dn.valOf, asB, ownAt, asI, isPin, sl, dCut, iOf, iNo, fin, endV, runP, runF, runV, runW, startR, startV, dEmp, dChain, res, truR, Dn.tru, itemsOf, sNone, sSeq, sRg1, sRg2, sZip, sEnum, sFor, dApp, dPop, sBrk, sCnt, isNone, atI0, atI1, atI2, ixN3_0, ixN3_1, ixN3_2, ixN2_0, ixN2_1, noPins, e_add, e_addT, e_addL, e_sub, e_mul, e_mulL, e_mulT, e_div, e_mod, e_neg, e_eqI, e_neI, e_eqB, e_eqT, e_eqL, e_neT, e_neL, e_cmp, e_is, e_isnot, e_ixL, e_ixT, e_lenL, e_lenT, e_tupL, e_tupT, e_lstL, e_lstT, e_int, e_intB, e_abs, e_sum, e_divmod, e_gcd, e_max, e_min, e_isi, e_cutL, e_cutT, h2, isFr]
theorem law_is_line_spec {d : D} {n L F m : Nat} (h : OKD n L F d) (hL : L ≤ 1000) (hn : n ≤ 9000) : F__law_is_line [d, .int (m : Int)] = some (.v (.bool (isRow m d))) := by
  rcases tup_or d with ⟨ds, rfl⟩ | ⟨h1, h2⟩
  · obtain ⟨hl, G, rfl, hs⟩ := h.tup
    have c := dComp_map (vs := [2]) (src := sSeq (dLoc 0)) (tgt := tName 2) (cond := bYes) (elt := dCall F__law_is_frac (dCons (dLoc 2) dNil)) (ρ := [some (.val (.tuple ds)), some (.val (.int (m : Int))), none]) (ρ1 := [some (.val (.tuple ds)), some (.val (.int (m : Int))), none]) (l := ds) (f := id) (g := fun d => some (.bool (isFr d)))
      (by simp [dLoc, dCon, dNil, dCons, dOp, dTup, dLst, looks, look, frz, dCall, dCallV, dCallK, reord, sSeq2, sSkip, sExp, sRet, sRetN, sIf, sAsg, sAsgT, bVal, bTru, bNot, bAnd, bOr, bYes, dAnd, dOr, dNot, dIf, tName, gsNil, gsCons, gTupD, Dn.tSub, Dn.valOf, asB, ownAt, asI, isPin, sl, dCut, iOf, iNo, fin, endV, runP, runF, runV, runW, startR, startV, dEmp, dChain, res, truR, Dn.tru, itemsOf, sNone, sSeq, sRg1, sRg2, sZip, sEnum, sFor, dApp, dPop, sBrk, sCnt, isNone, atI0, atI1, atI2, ixN3_0, ixN3_1, ixN3_2, ixN2_0, ixN2_1, noPins, e_add, e_addT, e_addL, e_sub, e_mul, e_mulL, e_mulT, e_div, e_mod, e_neg, e_eqI, e_neI, e_eqB, e_eqT, e_eqL, e_neT, e_neL, e_cmp, e_is, e_isnot, e_ixL, e_ixT, e_lenL, e_lenT, e_tupL, e_tupT, e_lstL, e_lstT, e_int, e_intB, e_abs, e_sum, e_divmod, e_gcd, e_max, e_min, e_isi, e_cutL, e_cutT]) (by simp [dLoc, dCon, dNil, dCons, dOp, dTup, dLst, looks, look, frz, dCall, dCallV, dCallK, reord, sSeq2, sSkip, sExp, sRet, sRetN, sIf, sAsg, sAsgT, bVal, bTru, bNot, bAnd, bOr, bYes, dAnd, dOr, dNot, dIf, tName, gsNil, gsCons, gTupD, Dn.tSub, Dn.valOf, asB, ownAt, asI, isPin, sl, dCut, iOf, iNo, fin, endV, runP, runF, runV, runW, startR, startV, dEmp, dChain, res, truR, Dn.tru, itemsOf, sNone, sSeq, sRg1, sRg2, sZip, sEnum, sFor, dApp, dPop, sBrk, sCnt, isNone, atI0, atI1, atI2, ixN3_0, ixN3_1, ixN3_2, ixN2_0, ixN2_1, noPins, e_add, e_addT, e_addL, e_sub, e_mul, e_mulL, e_mulT, e_div, e_mod, e_neg, e_eqI, e_neI, e_eqB, e_eqT, e_eqL, e_neT, e_neL, e_cmp, e_is, e_isnot, e_ixL, e_ixT, e_lenL, e_lenT, e_tupL, e_tupT, e_lstL, e_lstT, e_int, e_intB, e_abs, e_sum, e_divmod, e_gcd, e_max, e_min, e_isi, e_cutL, e_cutT]) (by omega) (fun d hd => by
        have q := law_is_frac_spec (hs d hd) hL hn
        simp [stepC, dLoc, dCon, dNil, dCons, dOp, dTup, dLst, looks, look, frz, dCall, dCallV, dCallK, reord, sSeq2, sSkip, sExp, sRet, sRetN, sIf, sAsg, sAsgT, bVal, bTru, bNot, bAnd, bOr, bYes, dAnd, dOr, dNot, dIf, tName, gsNil, gsCons, gTupD, Dn.tSub, Dn.valOf, asB, ownAt, asI, isPin, sl, dCut, iOf, iNo, fin, endV, runP, runF, runV, runW, startR, startV, dEmp, dChain, res, truR, Dn.tru, itemsOf, sNone, sSeq, sRg1, sRg2, sZip, sEnum, sFor, dApp, dPop, sBrk, sCnt, isNone, atI0, atI1, atI2, ixN3_0, ixN3_1, ixN3_2, ixN2_0, ixN2_1, noPins, e_add, e_addT, e_addL, e_sub, e_mul, e_mulL, e_mulT, e_div, e_mod, e_neg, e_eqI, e_neI, e_eqB, e_eqT, e_eqL, e_neT, e_neL, e_cmp, e_is, e_isnot, e_ixL, e_ixT, e_lenL, e_lenT, e_tupL, e_tupT, e_lstL, e_lstT, e_int, e_intB, e_abs, e_sum, e_divmod, e_gcd, e_max, e_min, e_isi, e_cutL, e_cutT, wipeR, q])
    rw [filterMap_some, map_bools (isFr) ds] at c
    have b := notin_bools (ds.map isFr)
    have ea : (ds.map isFr).all id = ds.all isFr := by simp [List.all_map]
    rw [ea] at b
    have e : ((ds.length : Int) == (m : Int)) = (ds.length == m) := by rw [Bool.eq_iff_iff]; simp; omega
    cases z : ds.length == m
    · simp [F__law_is_line, d__law_is_line, dLoc, dCon, dNil, dCons, dOp, dTup, dLst, looks, look, frz, dCall, dCallV, dCallK, reord, sSeq2, sSkip, sExp, sRet, sRetN, sIf, sAsg, sAsgT, bVal, bTru, bNot, bAnd, bOr, bYes, dAnd, dOr, dNot, dIf, tName, gsNil, gsCons, gTupD, Dn.tSub, Dn.valOf, asB, ownAt, asI, isPin, sl, dCut, iOf, iNo, fin, endV, runP, runF, runV, runW, startR, startV, dEmp, dChain, res, truR, Dn.tru, itemsOf, sNone, sSeq, sRg1, sRg2, sZip, sEnum, sFor, dApp, dPop, sBrk, sCnt, isNone, atI0, atI1, atI2, ixN3_0, ixN3_1, ixN3_2, ixN2_0, ixN2_1, noPins, e_add, e_addT, e_addL, e_sub, e_mul, e_mulL, e_mulT, e_div, e_mod, e_neg, e_eqI, e_neI, e_eqB, e_eqT, e_eqL, e_neT, e_neL, e_cmp, e_is, e_isnot, e_ixL, e_ixT, e_lenL, e_lenT, e_tupL, e_tupT, e_lstL, e_lstT, e_int, e_intB, e_abs, e_sum, e_divmod, e_gcd, e_max, e_min, e_isi, e_cutL, e_cutT, isTy_tup, e, z, isRow]
    · simp [F__law_is_line, d__law_is_line, dLoc, dCon, dNil, dCons, dOp, dTup, dLst, looks, look, frz, dCall, dCallV, dCallK, reord, sSeq2, sSkip, sExp, sRet, sRetN, sIf, sAsg, sAsgT, bVal, bTru, bNot, bAnd, bOr, bYes, dAnd, dOr, dNot, dIf, tName, gsNil, gsCons, gTupD, Dn.tSub, Dn.valOf, asB, ownAt, asI, isPin, sl, dCut, iOf, iNo, fin, endV, runP, runF, runV, runW, startR, startV, dEmp, dChain, res, truR, Dn.tru, itemsOf, sNone, sSeq, sRg1, sRg2, sZip, sEnum, sFor, dApp, dPop, sBrk, sCnt, isNone, atI0, atI1, atI2, ixN3_0, ixN3_1, ixN3_2, ixN2_0, ixN2_1, noPins, e_add, e_addT, e_addL, e_sub, e_mul, e_mulL, e_mulT, e_div, e_mod, e_neg, e_eqI, e_neI, e_eqB, e_eqT, e_eqL, e_neT, e_neL, e_cmp, e_is, e_isnot, e_ixL, e_ixT, e_lenL, e_lenT, e_tupL, e_tupT, e_lstL, e_lstT, e_int, e_intB, e_abs, e_sum, e_divmod, e_gcd, e_max, e_min, e_isi, e_cutL, e_cutT, isTy_tup, e, z, c, b, isRow, wipeR, -List.map_map]
  · cases d <;> first | (exact absurd rfl (h1 _)) | simp [F__law_is_line, d__law_is_line, dLoc, dCon, dNil, dCons, dOp, dTup, dLst, looks, look, frz, dCall, dCallV, dCallK, reord, sSeq2, sSkip, sExp, sRet, sRetN, sIf, sAsg, sAsgT, bVal, bTru, bNot, bAnd, bOr, bYes, dAnd, dOr, dNot, dIf, tName, gsNil, gsCons, gTupD, Dn.tSub, Dn.valOf, asB, ownAt, asI, isPin, sl, dCut, iOf, iNo, fin, endV, runP, runF, runV, runW, startR, startV, dEmp, dChain, res, truR, Dn.tru, itemsOf, sNone, sSeq, sRg1, sRg2, sZip, sEnum, sFor, dApp, dPop, sBrk, sCnt, isNone, atI0, atI1, atI2, ixN3_0, ixN3_1, ixN3_2, ixN2_0, ixN2_1, noPins, e_add, e_addT, e_addL, e_sub, e_mul, e_mulL, e_mulT, e_div, e_mod, e_neg, e_eqI, e_neI, e_eqB, e_eqT, e_eqL, e_neT, e_neL, e_cmp, e_is, e_isnot, e_ixL, e_ixT, e_lenL, e_lenT, e_tupL, e_tupT, e_lstL, e_lstT, e_int, e_intB, e_abs, e_sum, e_divmod, e_gcd, e_max, e_min, e_isi, e_cutL, e_cutT, h2, isRow]
theorem law_is_grid_spec {d : D} {n L F : Nat} (h : OKD n L F d) (hL : L ≤ 1000) (hn : n ≤ 9000) : F__law_is_grid [d] = some (.v (.bool (isTab d))) := by
  rcases tup_or d with ⟨ds, rfl⟩ | ⟨h1, h2⟩
  · obtain ⟨hl, G, rfl, hs⟩ := h.tup
    have c := dComp_map (vs := [1]) (src := sSeq (dLoc 0)) (tgt := tName 1) (cond := bYes) (elt := dCall F__law_is_line (dCons (dLoc 1) (dCons (dOp pLen (dCons (dLoc 0) dNil)) dNil))) (ρ := [some (.val (.tuple ds)), none]) (ρ1 := [some (.val (.tuple ds)), none]) (l := ds) (f := id) (g := fun d => some (.bool (isRow ds.length d)))
      (by simp [dLoc, dCon, dNil, dCons, dOp, dTup, dLst, looks, look, frz, dCall, dCallV, dCallK, reord, sSeq2, sSkip, sExp, sRet, sRetN, sIf, sAsg, sAsgT, bVal, bTru, bNot, bAnd, bOr, bYes, dAnd, dOr, dNot, dIf, tName, gsNil, gsCons, gTupD, Dn.tSub, Dn.valOf, asB, ownAt, asI, isPin, sl, dCut, iOf, iNo, fin, endV, runP, runF, runV, runW, startR, startV, dEmp, dChain, res, truR, Dn.tru, itemsOf, sNone, sSeq, sRg1, sRg2, sZip, sEnum, sFor, dApp, dPop, sBrk, sCnt, isNone, atI0, atI1, atI2, ixN3_0, ixN3_1, ixN3_2, ixN2_0, ixN2_1, noPins, e_add, e_addT, e_addL, e_sub, e_mul, e_mulL, e_mulT, e_div, e_mod, e_neg, e_eqI, e_neI, e_eqB, e_eqT, e_eqL, e_neT, e_neL, e_cmp, e_is, e_isnot, e_ixL, e_ixT, e_lenL, e_lenT, e_tupL, e_tupT, e_lstL, e_lstT, e_int, e_intB, e_abs, e_sum, e_divmod, e_gcd, e_max, e_min, e_isi, e_cutL, e_cutT]) (by simp [dLoc, dCon, dNil, dCons, dOp, dTup, dLst, looks, look, frz, dCall, dCallV, dCallK, reord, sSeq2, sSkip, sExp, sRet, sRetN, sIf, sAsg, sAsgT, bVal, bTru, bNot, bAnd, bOr, bYes, dAnd, dOr, dNot, dIf, tName, gsNil, gsCons, gTupD, Dn.tSub, Dn.valOf, asB, ownAt, asI, isPin, sl, dCut, iOf, iNo, fin, endV, runP, runF, runV, runW, startR, startV, dEmp, dChain, res, truR, Dn.tru, itemsOf, sNone, sSeq, sRg1, sRg2, sZip, sEnum, sFor, dApp, dPop, sBrk, sCnt, isNone, atI0, atI1, atI2, ixN3_0, ixN3_1, ixN3_2, ixN2_0, ixN2_1, noPins, e_add, e_addT, e_addL, e_sub, e_mul, e_mulL, e_mulT, e_div, e_mod, e_neg, e_eqI, e_neI, e_eqB, e_eqT, e_eqL, e_neT, e_neL, e_cmp, e_is, e_isnot, e_ixL, e_ixT, e_lenL, e_lenT, e_tupL, e_tupT, e_lstL, e_lstT, e_int, e_intB, e_abs, e_sum, e_divmod, e_gcd, e_max, e_min, e_isi, e_cutL, e_cutT]) (by omega) (fun d hd => by
        have q := law_is_line_spec (m := ds.length) (hs d hd) hL hn
        simp [stepC, dLoc, dCon, dNil, dCons, dOp, dTup, dLst, looks, look, frz, dCall, dCallV, dCallK, reord, sSeq2, sSkip, sExp, sRet, sRetN, sIf, sAsg, sAsgT, bVal, bTru, bNot, bAnd, bOr, bYes, dAnd, dOr, dNot, dIf, tName, gsNil, gsCons, gTupD, Dn.tSub, Dn.valOf, asB, ownAt, asI, isPin, sl, dCut, iOf, iNo, fin, endV, runP, runF, runV, runW, startR, startV, dEmp, dChain, res, truR, Dn.tru, itemsOf, sNone, sSeq, sRg1, sRg2, sZip, sEnum, sFor, dApp, dPop, sBrk, sCnt, isNone, atI0, atI1, atI2, ixN3_0, ixN3_1, ixN3_2, ixN2_0, ixN2_1, noPins, e_add, e_addT, e_addL, e_sub, e_mul, e_mulL, e_mulT, e_div, e_mod, e_neg, e_eqI, e_neI, e_eqB, e_eqT, e_eqL, e_neT, e_neL, e_cmp, e_is, e_isnot, e_ixL, e_ixT, e_lenL, e_lenT, e_tupL, e_tupT, e_lstL, e_lstT, e_int, e_intB, e_abs, e_sum, e_divmod, e_gcd, e_max, e_min, e_isi, e_cutL, e_cutT, wipeR, q])
    rw [filterMap_some, map_bools (isRow ds.length) ds] at c
    have b := notin_bools (ds.map (isRow ds.length))
    have ea : (ds.map (isRow ds.length)).all id = ds.all (isRow ds.length) := by simp [List.all_map]
    rw [ea] at b
    by_cases z1 : 1 ≤ ds.length
    · have y1 : decide (0 < ds.length) = true := decide_eq_true (by omega)
      by_cases z2 : ds.length ≤ 5
      · have y2 : decide ((ds.length : Int) < 6) = true := decide_eq_true (by omega)
        simp [F__law_is_grid, d__law_is_grid, dLoc, dCon, dNil, dCons, dOp, dTup, dLst, looks, look, frz, dCall, dCallV, dCallK, reord, sSeq2, sSkip, sExp, sRet, sRetN, sIf, sAsg, sAsgT, bVal, bTru, bNot, bAnd, bOr, bYes, dAnd, dOr, dNot, dIf, tName, gsNil, gsCons, gTupD, Dn.tSub, Dn.valOf, asB, ownAt, asI, isPin, sl, dCut, iOf, iNo, fin, endV, runP, runF, runV, runW, startR, startV, dEmp, dChain, res, truR, Dn.tru, itemsOf, sNone, sSeq, sRg1, sRg2, sZip, sEnum, sFor, dApp, dPop, sBrk, sCnt, isNone, atI0, atI1, atI2, ixN3_0, ixN3_1, ixN3_2, ixN2_0, ixN2_1, noPins, e_add, e_addT, e_addL, e_sub, e_mul, e_mulL, e_mulT, e_div, e_mod, e_neg, e_eqI, e_neI, e_eqB, e_eqT, e_eqL, e_neT, e_neL, e_cmp, e_is, e_isnot, e_ixL, e_ixT, e_lenL, e_lenT, e_tupL, e_tupT, e_lstL, e_lstT, e_int, e_intB, e_abs, e_sum, e_divmod, e_gcd, e_max, e_min, e_isi, e_cutL, e_cutT, isTy_tup, y1, y2, z1, z2, c, b, isTab, wipeR, -List.map_map]
      · have y2 : decide ((ds.length : Int) < 6) = false := decide_eq_false (by omega)
        simp [F__law_is_grid, d__law_is_grid, dLoc, dCon, dNil, dCons, dOp, dTup, dLst, looks, look, frz, dCall, dCallV, dCallK, reord, sSeq2, sSkip, sExp, sRet, sRetN, sIf, sAsg, sAsgT, bVal, bTru, bNot, bAnd, bOr, bYes, dAnd, dOr, dNot, dIf, tName, gsNil, gsCons, gTupD, Dn.tSub, Dn.valOf, asB, ownAt, asI, isPin, sl, dCut, iOf, iNo, fin, endV, runP, runF, runV, runW, startR, startV, dEmp, dChain, res, truR, Dn.tru, itemsOf, sNone, sSeq, sRg1, sRg2, sZip, sEnum, sFor, dApp, dPop, sBrk, sCnt, isNone, atI0, atI1, atI2, ixN3_0, ixN3_1, ixN3_2, ixN2_0, ixN2_1, noPins, e_add, e_addT, e_addL, e_sub, e_mul, e_mulL, e_mulT, e_div, e_mod, e_neg, e_eqI, e_neI, e_eqB, e_eqT, e_eqL, e_neT, e_neL, e_cmp, e_is, e_isnot, e_ixL, e_ixT, e_lenL, e_lenT, e_tupL, e_tupT, e_lstL, e_lstT, e_int, e_intB, e_abs, e_sum, e_divmod, e_gcd, e_max, e_min, e_isi, e_cutL, e_cutT, isTy_tup, y1, y2, z1, z2, isTab]
    · have y1 : decide (0 < ds.length) = false := decide_eq_false (by omega)
      simp [F__law_is_grid, d__law_is_grid, dLoc, dCon, dNil, dCons, dOp, dTup, dLst, looks, look, frz, dCall, dCallV, dCallK, reord, sSeq2, sSkip, sExp, sRet, sRetN, sIf, sAsg, sAsgT, bVal, bTru, bNot, bAnd, bOr, bYes, dAnd, dOr, dNot, dIf, tName, gsNil, gsCons, gTupD, Dn.tSub, Dn.valOf, asB, ownAt, asI, isPin, sl, dCut, iOf, iNo, fin, endV, runP, runF, runV, runW, startR, startV, dEmp, dChain, res, truR, Dn.tru, itemsOf, sNone, sSeq, sRg1, sRg2, sZip, sEnum, sFor, dApp, dPop, sBrk, sCnt, isNone, atI0, atI1, atI2, ixN3_0, ixN3_1, ixN3_2, ixN2_0, ixN2_1, noPins, e_add, e_addT, e_addL, e_sub, e_mul, e_mulL, e_mulT, e_div, e_mod, e_neg, e_eqI, e_neI, e_eqB, e_eqT, e_eqL, e_neT, e_neL, e_cmp, e_is, e_isnot, e_ixL, e_ixT, e_lenL, e_lenT, e_tupL, e_tupT, e_lstL, e_lstT, e_int, e_intB, e_abs, e_sum, e_divmod, e_gcd, e_max, e_min, e_isi, e_cutL, e_cutT, isTy_tup, y1, z1, isTab]
  · cases d <;> first | (exact absurd rfl (h1 _)) | simp [F__law_is_grid, d__law_is_grid, dLoc, dCon, dNil, dCons, dOp, dTup, dLst, looks, look, frz, dCall, dCallV, dCallK, reord, sSeq2, sSkip, sExp, sRet, sRetN, sIf, sAsg, sAsgT, bVal, bTru, bNot, bAnd, bOr, bYes, dAnd, dOr, dNot, dIf, tName, gsNil, gsCons, gTupD, Dn.tSub, Dn.valOf, asB, ownAt, asI, isPin, sl, dCut, iOf, iNo, fin, endV, runP, runF, runV, runW, startR, startV, dEmp, dChain, res, truR, Dn.tru, itemsOf, sNone, sSeq, sRg1, sRg2, sZip, sEnum, sFor, dApp, dPop, sBrk, sCnt, isNone, atI0, atI1, atI2, ixN3_0, ixN3_1, ixN3_2, ixN2_0, ixN2_1, noPins, e_add, e_addT, e_addL, e_sub, e_mul, e_mulL, e_mulT, e_div, e_mod, e_neg, e_eqI, e_neI, e_eqB, e_eqT, e_eqL, e_neT, e_neL, e_cmp, e_is, e_isnot, e_ixL, e_ixT, e_lenL, e_lenT, e_tupL, e_tupT, e_lstL, e_lstT, e_int, e_intB, e_abs, e_sum, e_divmod, e_gcd, e_max, e_min, e_isi, e_cutL, e_cutT, h2, isTab]
end Pl

set_option Elab.async false
set_option linter.all false
set_option maxRecDepth 100000
set_option maxHeartbeats 4000000
namespace Pl
open PySem PySem.Spec PyProof.Rows L2 Dn
structure Sq (n : Nat) (t : List (List Rat)) : Prop where
  len : t.length = n
  row : ∀ r ∈ t, r.length = n
def TB (n d : Nat) (t : List (List Rat)) : Prop := ∀ r ∈ t, ∀ x ∈ r, RB n d x
def prodQ (n : Nat) (a b : List (List Rat)) : List (List Rat) := a.map fun r => (flipQ n b).map fun c => dotQ r c
theorem flip_sq {n : Nat} {t : List (List Rat)} (h : Sq n t) : Sq n (flipQ n t) := ⟨by simp [flipQ], fun r hr => by
  obtain ⟨k, _, rfl⟩ := List.mem_map.mp hr
  rw [List.length_map, h.len]⟩
theorem prod_sq {n : Nat} {a b : List (List Rat)} (ha : Sq n a) (hb : Sq n b) : Sq n (prodQ n a b) := ⟨by simp [prodQ, ha.len], fun r hr => by
  obtain ⟨x, _, rfl⟩ := List.mem_map.mp hr
  rw [List.length_map, (flip_sq hb).len]⟩
theorem flip_tb {n p q : Nat} {t : List (List Rat)} (h : Sq n t) (b : TB p q t) : TB p q (flipQ n t) := fun r hr x hx => by
  obtain ⟨k, hk, rfl⟩ := List.mem_map.mp hr
  obtain ⟨y, hy, rfl⟩ := List.mem_map.mp hx
  have hk := List.mem_range.mp hk
  have l : k < y.length := by rw [h.row y hy]; exact hk
  have e : y.getD k 0 = y[k] := by simp [List.getD, l]
  rw [e]
  exact b y hy _ (List.getElem_mem _)
theorem dot_rb {n d m e : Nat} {x y : List Rat} (hx : ∀ r ∈ x, RB n d r) (hy : ∀ r ∈ y, RB m e r) (hl : x.length = y.length) : RB ((n + m) + (d + e) * x.length + x.length + 1) (1 + (d + e) * x.length) (dotQ x y) := by
  have hz : (List.zipWith (· * ·) x y).length = x.length := by simp [hl]
  have s := (SB.start (N := n + m) (D := d + e) (l := List.zipWith (· * ·) x y) (fun r hr => by
    rw [zipWith_zip] at hr
    obtain ⟨p, hp, rfl⟩ := List.mem_map.mp hr
    exact (hx p.1 (List.of_mem_zip hp).1).mul (hy p.2 (List.of_mem_zip hp).2))).fin
  rw [hz] at s
  exact s
theorem prod_tb {n p q m e : Nat} {a b : List (List Rat)} (ha : Sq n a) (hb : Sq n b) (ta : TB p q a) (tb : TB m e b) : TB ((p + m) + (q + e) * n + n + 1) (1 + (q + e) * n) (prodQ n a b) := fun r hr x hx => by
  obtain ⟨y, hy, rfl⟩ := List.mem_map.mp hr
  obtain ⟨c, hc, rfl⟩ := List.mem_map.mp hx
  have hf := flip_sq hb
  have := dot_rb (ta y hy) (flip_tb hb tb c hc) (by rw [ha.row y hy, hf.row c hc])
  rw [ha.row y hy] at this
  exact this
theorem prod_rows {F : List D → Option R} {a c : List (List Rat)} (ha : a.length ≤ 1000) (hc : c.length ≤ 1000) (hF : ∀ r ∈ a, ∀ y ∈ c, F [row r, row y] = some (.v (enc (dotQ r y)))) (s : Option Slot) :
    dComp [3] (sSeq (dLoc 0)) (tName 3) bYes (dOp pTuple (dCons (dComp [4] (sSeq (dLoc 2)) (tName 4) bYes (dCall F (dCons (dLoc 3) (dCons (dLoc 4) dNil)))) dNil)) [some (.val (tab a)), s, some (.val (tab c)), none, none] =
      some (.o ((a.map fun r => c.map fun y => dotQ r y).map row), [some (.val (tab a)), s, some (.val (tab c)), none, none]) := by
  have inner : ∀ r ∈ a, dComp [4] (sSeq (dLoc 2)) (tName 4) bYes (dCall F (dCons (dLoc 3) (dCons (dLoc 4) dNil))) [some (.val (tab a)), s, some (.val (tab c)), some (.val (row r)), none] =
      some (.o ((c.map fun y => dotQ r y).map enc), [some (.val (tab a)), s, some (.val (tab c)), some (.val (row r)), none]) := fun r hr => by
    have i := dComp_map (vs := [4]) (src := sSeq (dLoc 2)) (tgt := tName 4) (cond := bYes) (elt := dCall F (dCons (dLoc 3) (dCons (dLoc 4) dNil))) (ρ := [some (.val (tab a)), s, some (.val (tab c)), some (.val (row r)), none]) (ρ1 := [some (.val (tab a)), s, some (.val (tab c)), some (.val (row r)), none]) (l := c) (f := row) (g := fun y => some (enc (dotQ r y)))
      (by simp [dLoc, dCon, dNil, dCons, dOp, dTup, dLst, looks, look, frz, dCall, dCallV, dCallK, reord, sSeq2, sSkip, sExp, sRet, sRetN, sIf, sAsg, sAsgT, bVal, bTru, bNot, bAnd, bOr, bYes, dAnd, dOr, dNot, dIf, tName, gsNil, gsCons, gTupD, Dn.tSub, Dn.valOf, asB, ownAt, asI, isPin, sl, dCut, iOf, iNo, fin, endV, runP, runF, runV, runW, startR, startV, dEmp, dChain, res, truR, Dn.tru, itemsOf, sNone, sSeq, sRg1, sRg2, sZip, sEnum, sFor, dApp, dPop, sBrk, sCnt, isNone, atI0, atI1, atI2, ixN3_0, ixN3_1, ixN3_2, ixN2_0, ixN2_1, noPins, e_add, e_addT, e_addL, e_sub, e_mul, e_mulL, e_mulT, e_div, e_mod, e_neg, e_eqI, e_neI, e_eqB, e_eqT, e_eqL, e_neT, e_neL, e_cmp, e_is, e_isnot, e_ixL, e_ixT, e_lenL, e_lenT, e_tupL, e_tupT, e_lstL, e_lstT, e_int, e_intB, e_abs, e_sum, e_divmod, e_gcd, e_max, e_min, e_isi, e_cutL, e_cutT, tab]) (by simp [dLoc, dCon, dNil, dCons, dOp, dTup, dLst, looks, look, frz, dCall, dCallV, dCallK, reord, sSeq2, sSkip, sExp, sRet, sRetN, sIf, sAsg, sAsgT, bVal, bTru, bNot, bAnd, bOr, bYes, dAnd, dOr, dNot, dIf, tName, gsNil, gsCons, gTupD, Dn.tSub, Dn.valOf, asB, ownAt, asI, isPin, sl, dCut, iOf, iNo, fin, endV, runP, runF, runV, runW, startR, startV, dEmp, dChain, res, truR, Dn.tru, itemsOf, sNone, sSeq, sRg1, sRg2, sZip, sEnum, sFor, dApp, dPop, sBrk, sCnt, isNone, atI0, atI1, atI2, ixN3_0, ixN3_1, ixN3_2, ixN2_0, ixN2_1, noPins, e_add, e_addT, e_addL, e_sub, e_mul, e_mulL, e_mulT, e_div, e_mod, e_neg, e_eqI, e_neI, e_eqB, e_eqT, e_eqL, e_neT, e_neL, e_cmp, e_is, e_isnot, e_ixL, e_ixT, e_lenL, e_lenT, e_tupL, e_tupT, e_lstL, e_lstT, e_int, e_intB, e_abs, e_sum, e_divmod, e_gcd, e_max, e_min, e_isi, e_cutL, e_cutT]) (by omega) (fun y hy => by
        have q := hF r hr y hy
        simp [stepC, dLoc, dCon, dNil, dCons, dOp, dTup, dLst, looks, look, frz, dCall, dCallV, dCallK, reord, sSeq2, sSkip, sExp, sRet, sRetN, sIf, sAsg, sAsgT, bVal, bTru, bNot, bAnd, bOr, bYes, dAnd, dOr, dNot, dIf, tName, gsNil, gsCons, gTupD, Dn.tSub, Dn.valOf, asB, ownAt, asI, isPin, sl, dCut, iOf, iNo, fin, endV, runP, runF, runV, runW, startR, startV, dEmp, dChain, res, truR, Dn.tru, itemsOf, sNone, sSeq, sRg1, sRg2, sZip, sEnum, sFor, dApp, dPop, sBrk, sCnt, isNone, atI0, atI1, atI2, ixN3_0, ixN3_1, ixN3_2, ixN2_0, ixN2_1, noPins, e_add, e_addT, e_addL, e_sub, e_mul, e_mulL, e_mulT, e_div, e_mod, e_neg, e_eqI, e_neI, e_eqB, e_eqT, e_eqL, e_neT, e_neL, e_cmp, e_is, e_isnot, e_ixL, e_ixT, e_lenL, e_lenT, e_tupL, e_tupT, e_lstL, e_lstT, e_int, e_intB, e_abs, e_sum, e_divmod, e_gcd, e_max, e_min, e_isi, e_cutL, e_cutT, wipeR, q])
    rw [filterMap_some] at i
    rw [List.map_map]
    simpa [wipeR, Function.comp_def] using i
  have o := dComp_map (vs := [3]) (src := sSeq (dLoc 0)) (tgt := tName 3) (cond := bYes) (elt := dOp pTuple (dCons (dComp [4] (sSeq (dLoc 2)) (tName 4) bYes (dCall F (dCons (dLoc 3) (dCons (dLoc 4) dNil)))) dNil)) (ρ := [some (.val (tab a)), s, some (.val (tab c)), none, none]) (ρ1 := [some (.val (tab a)), s, some (.val (tab c)), none, none]) (l := a) (f := row) (g := fun r => some (row (c.map fun y => dotQ r y)))
    (by simp [dLoc, dCon, dNil, dCons, dOp, dTup, dLst, looks, look, frz, dCall, dCallV, dCallK, reord, sSeq2, sSkip, sExp, sRet, sRetN, sIf, sAsg, sAsgT, bVal, bTru, bNot, bAnd, bOr, bYes, dAnd, dOr, dNot, dIf, tName, gsNil, gsCons, gTupD, Dn.tSub, Dn.valOf, asB, ownAt, asI, isPin, sl, dCut, iOf, iNo, fin, endV, runP, runF, runV, runW, startR, startV, dEmp, dChain, res, truR, Dn.tru, itemsOf, sNone, sSeq, sRg1, sRg2, sZip, sEnum, sFor, dApp, dPop, sBrk, sCnt, isNone, atI0, atI1, atI2, ixN3_0, ixN3_1, ixN3_2, ixN2_0, ixN2_1, noPins, e_add, e_addT, e_addL, e_sub, e_mul, e_mulL, e_mulT, e_div, e_mod, e_neg, e_eqI, e_neI, e_eqB, e_eqT, e_eqL, e_neT, e_neL, e_cmp, e_is, e_isnot, e_ixL, e_ixT, e_lenL, e_lenT, e_tupL, e_tupT, e_lstL, e_lstT, e_int, e_intB, e_abs, e_sum, e_divmod, e_gcd, e_max, e_min, e_isi, e_cutL, e_cutT, tab]) (by simp [dLoc, dCon, dNil, dCons, dOp, dTup, dLst, looks, look, frz, dCall, dCallV, dCallK, reord, sSeq2, sSkip, sExp, sRet, sRetN, sIf, sAsg, sAsgT, bVal, bTru, bNot, bAnd, bOr, bYes, dAnd, dOr, dNot, dIf, tName, gsNil, gsCons, gTupD, Dn.tSub, Dn.valOf, asB, ownAt, asI, isPin, sl, dCut, iOf, iNo, fin, endV, runP, runF, runV, runW, startR, startV, dEmp, dChain, res, truR, Dn.tru, itemsOf, sNone, sSeq, sRg1, sRg2, sZip, sEnum, sFor, dApp, dPop, sBrk, sCnt, isNone, atI0, atI1, atI2, ixN3_0, ixN3_1, ixN3_2, ixN2_0, ixN2_1, noPins, e_add, e_addT, e_addL, e_sub, e_mul, e_mulL, e_mulT, e_div, e_mod, e_neg, e_eqI, e_neI, e_eqB, e_eqT, e_eqL, e_neT, e_neL, e_cmp, e_is, e_isnot, e_ixL, e_ixT, e_lenL, e_lenT, e_tupL, e_tupT, e_lstL, e_lstT, e_int, e_intB, e_abs, e_sum, e_divmod, e_gcd, e_max, e_min, e_isi, e_cutL, e_cutT]) (by omega) (fun r hr => by
      have q := inner r hr
      simp [stepC, dLoc, dCon, dNil, dCons, dOp, dTup, dLst, looks, look, frz, dCall, dCallV, dCallK, reord, sSeq2, sSkip, sExp, sRet, sRetN, sIf, sAsg, sAsgT, bVal, bTru, bNot, bAnd, bOr, bYes, dAnd, dOr, dNot, dIf, tName, gsNil, gsCons, gTupD, Dn.tSub, Dn.valOf, asB, ownAt, asI, isPin, sl, dCut, iOf, iNo, fin, endV, runP, runF, runV, runW, startR, startV, dEmp, dChain, res, truR, Dn.tru, itemsOf, sNone, sSeq, sRg1, sRg2, sZip, sEnum, sFor, dApp, dPop, sBrk, sCnt, isNone, atI0, atI1, atI2, ixN3_0, ixN3_1, ixN3_2, ixN2_0, ixN2_1, noPins, e_add, e_addT, e_addL, e_sub, e_mul, e_mulL, e_mulT, e_div, e_mod, e_neg, e_eqI, e_neI, e_eqB, e_eqT, e_eqL, e_neT, e_neL, e_cmp, e_is, e_isnot, e_ixL, e_ixT, e_lenL, e_lenT, e_tupL, e_tupT, e_lstL, e_lstT, e_int, e_intB, e_abs, e_sum, e_divmod, e_gcd, e_max, e_min, e_isi, e_cutL, e_cutT, wipeR, q, -List.map_map]
      rfl)
  rw [filterMap_some] at o
  have e : a.map (fun r => row (c.map fun y => dotQ r y)) = (a.map fun r => c.map fun y => dotQ r y).map row := by rw [List.map_map]; rfl
  rw [e] at o
  simpa [wipeR, -List.map_map] using o
theorem product_of_spec {n p q m e : Nat} {a b : List (List Rat)} (ha : Sq n a) (hb : Sq n b) (ta : TB p q a) (tb : TB m e b) (h0 : 1 ≤ n) (hn : n ≤ 1000) (hN : (p + m) + (q + e) * n + n + (q + e) + 10 ≤ 9000) :
    F_product_of [tab a, tab b] = some (.v (tab (prodQ n a b))) := by
  have t := turned_of_spec (t := b) (n := n) (by intro z; have := hb.len; rw [z] at this; simp at this; omega) (by rw [hb.len]; omega) hn hb.row
  have hf := flip_sq hb
  have o := prod_rows (F := F_dot) (a := a) (c := flipQ n b) (by rw [ha.len]; omega) (by rw [hf.len]; omega) (fun r hr y hy => (dot_spec (ta r hr) (flip_tb hb tb y hy) (by rw [ha.row r hr, hf.row y hy]) (by rw [ha.row r hr]; omega) (by rw [ha.row r hr]; exact hN)).1) (some (.val (tab b)))
  simp [F_product_of, d_product_of, dLoc, dCon, dNil, dCons, dOp, dTup, dLst, looks, look, frz, dCall, dCallV, dCallK, reord, sSeq2, sSkip, sExp, sRet, sRetN, sIf, sAsg, sAsgT, bVal, bTru, bNot, bAnd, bOr, bYes, dAnd, dOr, dNot, dIf, tName, gsNil, gsCons, gTupD, Dn.tSub, Dn.valOf, asB, ownAt, asI, isPin, sl, dCut, iOf, iNo, fin, endV, runP, runF, runV, runW, startR, startV, dEmp, dChain, res, truR, Dn.tru, itemsOf, sNone, sSeq, sRg1, sRg2, sZip, sEnum, sFor, dApp, dPop, sBrk, sCnt, isNone, atI0, atI1, atI2, ixN3_0, ixN3_1, ixN3_2, ixN2_0, ixN2_1, noPins, e_add, e_addT, e_addL, e_sub, e_mul, e_mulL, e_mulT, e_div, e_mod, e_neg, e_eqI, e_neI, e_eqB, e_eqT, e_eqL, e_neT, e_neL, e_cmp, e_is, e_isnot, e_ixL, e_ixT, e_lenL, e_lenT, e_tupL, e_tupT, e_lstL, e_lstT, e_int, e_intB, e_abs, e_sum, e_divmod, e_gcd, e_max, e_min, e_isi, e_cutL, e_cutT, t, o, -List.map_map]
  rfl
theorem law_prod_spec {n p q m e : Nat} {a b : List (List Rat)} (ha : Sq n a) (hb : Sq n b) (ta : TB p q a) (tb : TB m e b) (hn : n ≤ 1000) (hN : (p + m) + (q + e) * n + n + (q + e) + 10 ≤ 9000) :
    F__law_prod [tab a, tab b] = some (.v (tab (prodQ n a b))) := by
  have t := law_flip_spec (t := b) (n := n) hb.len hn hb.row
  have hf := flip_sq hb
  have o := prod_rows (F := F__law_dot) (a := a) (c := flipQ n b) (by rw [ha.len]; omega) (by rw [hf.len]; omega) (fun r hr y hy => law_dot_spec (ta r hr) (flip_tb hb tb y hy) (by rw [ha.row r hr, hf.row y hy]) (by rw [ha.row r hr]; omega) (by rw [ha.row r hr]; exact hN)) (some (.val (tab b)))
  simp [F__law_prod, d__law_prod, dLoc, dCon, dNil, dCons, dOp, dTup, dLst, looks, look, frz, dCall, dCallV, dCallK, reord, sSeq2, sSkip, sExp, sRet, sRetN, sIf, sAsg, sAsgT, bVal, bTru, bNot, bAnd, bOr, bYes, dAnd, dOr, dNot, dIf, tName, gsNil, gsCons, gTupD, Dn.tSub, Dn.valOf, asB, ownAt, asI, isPin, sl, dCut, iOf, iNo, fin, endV, runP, runF, runV, runW, startR, startV, dEmp, dChain, res, truR, Dn.tru, itemsOf, sNone, sSeq, sRg1, sRg2, sZip, sEnum, sFor, dApp, dPop, sBrk, sCnt, isNone, atI0, atI1, atI2, ixN3_0, ixN3_1, ixN3_2, ixN2_0, ixN2_1, noPins, e_add, e_addT, e_addL, e_sub, e_mul, e_mulL, e_mulT, e_div, e_mod, e_neg, e_eqI, e_neI, e_eqB, e_eqT, e_eqL, e_neT, e_neL, e_cmp, e_is, e_isnot, e_ixL, e_ixT, e_lenL, e_lenT, e_tupL, e_tupT, e_lstL, e_lstT, e_int, e_intB, e_abs, e_sum, e_divmod, e_gcd, e_max, e_min, e_isi, e_cutL, e_cutT, t, o, -List.map_map]
  rfl
theorem isFr_enc (r : Rat) : isFr (enc r) = true := by
  have := r.reduced
  have p := r.den_pos
  simp only [enc, isFr, Bool.and_eq_true, decide_eq_true_eq, beq_iff_eq]
  exact ⟨by omega, this⟩
theorem isTab_tab {n : Nat} {t : List (List Rat)} (h : Sq n t) (h1 : 1 ≤ n) (h5 : n ≤ 5) : isTab (tab t) = true := by
  unfold tab
  simp only [isTab, List.length_map, h.len, Bool.and_eq_true, decide_eq_true_eq]
  refine ⟨⟨h1, h5⟩, ?_⟩
  simp only [List.all_map, List.all_eq_true, Function.comp_apply]
  intro r hr
  unfold row
  simp only [isRow, List.length_map, h.row r hr, beq_self_eq_true, Bool.true_and, List.all_map, List.all_eq_true, Function.comp_apply]
  exact fun x _ => isFr_enc x
theorem okd_enc {n m L : Nat} {r : Rat} (h : RB n m r) (F : Nat) (hL : 2 ≤ L) : OKD (max n m) L (F + 1) (enc r) := by
  refine ⟨hL, fun d hd => ?_⟩
  simp only [List.mem_cons, List.not_mem_nil, or_false] at hd
  rcases hd with rfl | rfl
  · cases F <;> exact h.num.up (Nat.le_max_left _ _)
  · cases F <;> exact h.den.up (Nat.le_max_right _ _)
theorem okd_tab {n p q L : Nat} {t : List (List Rat)} (h : Sq n t) (b : TB p q t) (F : Nat) (hL : 2 ≤ L) (hn : n ≤ L) : OKD (max p q) L (F + 3) (tab t) := by
  refine ⟨by rw [List.length_map, h.len]; exact hn, fun d hd => ?_⟩
  obtain ⟨r, hr, rfl⟩ := List.mem_map.mp hd
  refine ⟨by rw [List.length_map, h.row r hr]; exact hn, fun d hd => ?_⟩
  obtain ⟨x, hx, rfl⟩ := List.mem_map.mp hd
  exact okd_enc (b r hr x hx) F hL
theorem is_table_tab {n p q : Nat} {t : List (List Rat)} (h : Sq n t) (b : TB p q t) (h1 : 1 ≤ n) (h5 : n ≤ 5) : F_is_table [tab t] = some (.v (.bool true)) := by
  rw [is_table_spec (okd_tab (L := 5) h b 0 (by decide) h5) (by decide), isTab_tab h h1 h5]
theorem check_table_tab {n p q : Nat} {t : List (List Rat)} (h : Sq n t) (b : TB p q t) (h1 : 1 ≤ n) (h5 : n ≤ 5) : F_check_table [tab t] = some (.v .none) := by
  simp [F_check_table, d_check_table, dLoc, dCon, dNil, dCons, dOp, dTup, dLst, looks, look, frz, dCall, dCallV, dCallK, reord, sSeq2, sSkip, sExp, sRet, sRetN, sIf, sAsg, sAsgT, bVal, bTru, bNot, bAnd, bOr, bYes, dAnd, dOr, dNot, dIf, tName, gsNil, gsCons, gTupD, Dn.tSub, Dn.valOf, asB, ownAt, asI, isPin, sl, dCut, iOf, iNo, fin, endV, runP, runF, runV, runW, startR, startV, dEmp, dChain, res, truR, Dn.tru, itemsOf, sNone, sSeq, sRg1, sRg2, sZip, sEnum, sFor, dApp, dPop, sBrk, sCnt, isNone, atI0, atI1, atI2, ixN3_0, ixN3_1, ixN3_2, ixN2_0, ixN2_1, noPins, e_add, e_addT, e_addL, e_sub, e_mul, e_mulL, e_mulT, e_div, e_mod, e_neg, e_eqI, e_neI, e_eqB, e_eqT, e_eqL, e_neT, e_neL, e_cmp, e_is, e_isnot, e_ixL, e_ixT, e_lenL, e_lenT, e_tupL, e_tupT, e_lstL, e_lstT, e_int, e_intB, e_abs, e_sum, e_divmod, e_gcd, e_max, e_min, e_isi, e_cutL, e_cutT, is_table_tab h b h1 h5]
theorem product_spec {n p q m e : Nat} {a b : List (List Rat)} (ha : Sq n a) (hb : Sq n b) (ta : TB p q a) (tb : TB m e b) (h0 : 1 ≤ n) (hn : n ≤ 5) (hN : (p + m) + (q + e) * n + n + (q + e) + 10 ≤ 9000) :
    F_product [tab a, tab b] = some (.v (tab (prodQ n a b))) := by
  have l1 : pLen [tab a] = some (.v (.int (n : Int))) := by simp [tab, dLoc, dCon, dNil, dCons, dOp, dTup, dLst, looks, look, frz, dCall, dCallV, dCallK, reord, sSeq2, sSkip, sExp, sRet, sRetN, sIf, sAsg, sAsgT, bVal, bTru, bNot, bAnd, bOr, bYes, dAnd, dOr, dNot, dIf, tName, gsNil, gsCons, gTupD, Dn.tSub, Dn.valOf, asB, ownAt, asI, isPin, sl, dCut, iOf, iNo, fin, endV, runP, runF, runV, runW, startR, startV, dEmp, dChain, res, truR, Dn.tru, itemsOf, sNone, sSeq, sRg1, sRg2, sZip, sEnum, sFor, dApp, dPop, sBrk, sCnt, isNone, atI0, atI1, atI2, ixN3_0, ixN3_1, ixN3_2, ixN2_0, ixN2_1, noPins, e_add, e_addT, e_addL, e_sub, e_mul, e_mulL, e_mulT, e_div, e_mod, e_neg, e_eqI, e_neI, e_eqB, e_eqT, e_eqL, e_neT, e_neL, e_cmp, e_is, e_isnot, e_ixL, e_ixT, e_lenL, e_lenT, e_tupL, e_tupT, e_lstL, e_lstT, e_int, e_intB, e_abs, e_sum, e_divmod, e_gcd, e_max, e_min, e_isi, e_cutL, e_cutT, ha.len]
  have l2 : pLen [tab b] = some (.v (.int (n : Int))) := by simp [tab, dLoc, dCon, dNil, dCons, dOp, dTup, dLst, looks, look, frz, dCall, dCallV, dCallK, reord, sSeq2, sSkip, sExp, sRet, sRetN, sIf, sAsg, sAsgT, bVal, bTru, bNot, bAnd, bOr, bYes, dAnd, dOr, dNot, dIf, tName, gsNil, gsCons, gTupD, Dn.tSub, Dn.valOf, asB, ownAt, asI, isPin, sl, dCut, iOf, iNo, fin, endV, runP, runF, runV, runW, startR, startV, dEmp, dChain, res, truR, Dn.tru, itemsOf, sNone, sSeq, sRg1, sRg2, sZip, sEnum, sFor, dApp, dPop, sBrk, sCnt, isNone, atI0, atI1, atI2, ixN3_0, ixN3_1, ixN3_2, ixN2_0, ixN2_1, noPins, e_add, e_addT, e_addL, e_sub, e_mul, e_mulL, e_mulT, e_div, e_mod, e_neg, e_eqI, e_neI, e_eqB, e_eqT, e_eqL, e_neT, e_neL, e_cmp, e_is, e_isnot, e_ixL, e_ixT, e_lenL, e_lenT, e_tupL, e_tupT, e_lstL, e_lstT, e_int, e_intB, e_abs, e_sum, e_divmod, e_gcd, e_max, e_min, e_isi, e_cutL, e_cutT, hb.len]
  simp [F_product, d_product, dLoc, dCon, dNil, dCons, dOp, dTup, dLst, looks, look, frz, dCall, dCallV, dCallK, reord, sSeq2, sSkip, sExp, sRet, sRetN, sIf, sAsg, sAsgT, bVal, bTru, bNot, bAnd, bOr, bYes, dAnd, dOr, dNot, dIf, tName, gsNil, gsCons, gTupD, Dn.tSub, Dn.valOf, asB, ownAt, asI, isPin, sl, dCut, iOf, iNo, fin, endV, runP, runF, runV, runW, startR, startV, dEmp, dChain, res, truR, Dn.tru, itemsOf, sNone, sSeq, sRg1, sRg2, sZip, sEnum, sFor, dApp, dPop, sBrk, sCnt, isNone, atI0, atI1, atI2, ixN3_0, ixN3_1, ixN3_2, ixN2_0, ixN2_1, noPins, e_add, e_addT, e_addL, e_sub, e_mul, e_mulL, e_mulT, e_div, e_mod, e_neg, e_eqI, e_neI, e_eqB, e_eqT, e_eqL, e_neT, e_neL, e_cmp, e_is, e_isnot, e_ixL, e_ixT, e_lenL, e_lenT, e_tupL, e_tupT, e_lstL, e_lstT, e_int, e_intB, e_abs, e_sum, e_divmod, e_gcd, e_max, e_min, e_isi, e_cutL, e_cutT, check_table_tab ha ta h0 hn, is_table_tab hb tb h0 hn, l1, l2, product_of_spec ha hb ta tb h0 (by omega) hN]
theorem turned_spec {n p q : Nat} {a : List (List Rat)} (ha : Sq n a) (ta : TB p q a) (h0 : 1 ≤ n) (hn : n ≤ 5) : F_turned [tab a] = some (.v (tab (flipQ n a))) := by
  have t := turned_of_spec (t := a) (n := n) (by intro z; have := ha.len; rw [z] at this; simp at this; omega) (by rw [ha.len]; omega) (by omega) ha.row
  simp [F_turned, d_turned, dLoc, dCon, dNil, dCons, dOp, dTup, dLst, looks, look, frz, dCall, dCallV, dCallK, reord, sSeq2, sSkip, sExp, sRet, sRetN, sIf, sAsg, sAsgT, bVal, bTru, bNot, bAnd, bOr, bYes, dAnd, dOr, dNot, dIf, tName, gsNil, gsCons, gTupD, Dn.tSub, Dn.valOf, asB, ownAt, asI, isPin, sl, dCut, iOf, iNo, fin, endV, runP, runF, runV, runW, startR, startV, dEmp, dChain, res, truR, Dn.tru, itemsOf, sNone, sSeq, sRg1, sRg2, sZip, sEnum, sFor, dApp, dPop, sBrk, sCnt, isNone, atI0, atI1, atI2, ixN3_0, ixN3_1, ixN3_2, ixN2_0, ixN2_1, noPins, e_add, e_addT, e_addL, e_sub, e_mul, e_mulL, e_mulT, e_div, e_mod, e_neg, e_eqI, e_neI, e_eqB, e_eqT, e_eqL, e_neT, e_neL, e_cmp, e_is, e_isnot, e_ixL, e_ixT, e_lenL, e_lenT, e_tupL, e_tupT, e_lstL, e_lstT, e_int, e_intB, e_abs, e_sum, e_divmod, e_gcd, e_max, e_min, e_isi, e_cutL, e_cutT, check_table_tab ha ta h0 hn, t]
def unitQ (n : Nat) : List (List Rat) := (List.range n).map fun j => (List.range n).map fun k => if k = j then 1 else 0
theorem unit_sq (n : Nat) : Sq n (unitQ n) := ⟨by simp [unitQ], fun r hr => by
  obtain ⟨j, _, rfl⟩ := List.mem_map.mp hr
  simp⟩
theorem unit_tb (n : Nat) : TB 1 1 (unitQ n) := fun r hr x hx => by
  obtain ⟨j, _, rfl⟩ := List.mem_map.mp hr
  obtain ⟨k, _, rfl⟩ := List.mem_map.mp hx
  split
  · exact ⟨by unfold Bd; decide, by unfold Bd; decide⟩
  · exact ⟨by unfold Bd; decide, by unfold Bd; decide⟩
theorem law_unit_spec {n : Nat} (hn : n ≤ 1000) : F__law_unit [.int (n : Int)] = some (.v (tab (unitQ n))) := by
  have inner : ∀ j : Nat, dComp [2] (sRg1 (dLoc 0)) (tName 2) bYes (dTup (dCons (dIf (bVal (dOp pEq (dCons (dLoc 2) (dCons (dLoc 1) dNil)))) (dCon (.int 1)) (dCon (.int 0))) (dCons (dCon (.int 1)) dNil))) [some (.val (.int (n : Int))), some (.val (.int (j : Int))), none] =
      some (.o ((List.range n).map fun k => enc (if k = j then 1 else 0)), [some (.val (.int (n : Int))), some (.val (.int (j : Int))), none]) := fun j => by
    have i := dComp_map (vs := [2]) (src := sRg1 (dLoc 0)) (tgt := tName 2) (cond := bYes) (elt := dTup (dCons (dIf (bVal (dOp pEq (dCons (dLoc 2) (dCons (dLoc 1) dNil)))) (dCon (.int 1)) (dCon (.int 0))) (dCons (dCon (.int 1)) dNil))) (ρ := [some (.val (.int (n : Int))), some (.val (.int (j : Int))), none]) (ρ1 := [some (.val (.int (n : Int))), some (.val (.int (j : Int))), none])
      (l := List.range n) (f := fun (k : Nat) => .int (k : Int)) (g := fun (k : Nat) => some (enc (if k = j then 1 else 0))) (by simp [dLoc, dCon, dNil, dCons, dOp, dTup, dLst, looks, look, frz, dCall, dCallV, dCallK, reord, sSeq2, sSkip, sExp, sRet, sRetN, sIf, sAsg, sAsgT, bVal, bTru, bNot, bAnd, bOr, bYes, dAnd, dOr, dNot, dIf, tName, gsNil, gsCons, gTupD, Dn.tSub, Dn.valOf, asB, ownAt, asI, isPin, sl, dCut, iOf, iNo, fin, endV, runP, runF, runV, runW, startR, startV, dEmp, dChain, res, truR, Dn.tru, itemsOf, sNone, sSeq, sRg1, sRg2, sZip, sEnum, sFor, dApp, dPop, sBrk, sCnt, isNone, atI0, atI1, atI2, ixN3_0, ixN3_1, ixN3_2, ixN2_0, ixN2_1, noPins, e_add, e_addT, e_addL, e_sub, e_mul, e_mulL, e_mulT, e_div, e_mod, e_neg, e_eqI, e_neI, e_eqB, e_eqT, e_eqL, e_neT, e_neL, e_cmp, e_is, e_isnot, e_ixL, e_ixT, e_lenL, e_lenT, e_tupL, e_tupT, e_lstL, e_lstT, e_int, e_intB, e_abs, e_sum, e_divmod, e_gcd, e_max, e_min, e_isi, e_cutL, e_cutT, rg_ok hn, rg_map]) (by simp [dLoc, dCon, dNil, dCons, dOp, dTup, dLst, looks, look, frz, dCall, dCallV, dCallK, reord, sSeq2, sSkip, sExp, sRet, sRetN, sIf, sAsg, sAsgT, bVal, bTru, bNot, bAnd, bOr, bYes, dAnd, dOr, dNot, dIf, tName, gsNil, gsCons, gTupD, Dn.tSub, Dn.valOf, asB, ownAt, asI, isPin, sl, dCut, iOf, iNo, fin, endV, runP, runF, runV, runW, startR, startV, dEmp, dChain, res, truR, Dn.tru, itemsOf, sNone, sSeq, sRg1, sRg2, sZip, sEnum, sFor, dApp, dPop, sBrk, sCnt, isNone, atI0, atI1, atI2, ixN3_0, ixN3_1, ixN3_2, ixN2_0, ixN2_1, noPins, e_add, e_addT, e_addL, e_sub, e_mul, e_mulL, e_mulT, e_div, e_mod, e_neg, e_eqI, e_neI, e_eqB, e_eqT, e_eqL, e_neT, e_neL, e_cmp, e_is, e_isnot, e_ixL, e_ixT, e_lenL, e_lenT, e_tupL, e_tupT, e_lstL, e_lstT, e_int, e_intB, e_abs, e_sum, e_divmod, e_gcd, e_max, e_min, e_isi, e_cutL, e_cutT]) (by simp; omega) (fun k hk => by
        by_cases z : k = j
        · have e : ((k : Int) == (j : Int)) = true := beq_iff_eq.mpr (by omega)
          simp [stepC, dLoc, dCon, dNil, dCons, dOp, dTup, dLst, looks, look, frz, dCall, dCallV, dCallK, reord, sSeq2, sSkip, sExp, sRet, sRetN, sIf, sAsg, sAsgT, bVal, bTru, bNot, bAnd, bOr, bYes, dAnd, dOr, dNot, dIf, tName, gsNil, gsCons, gTupD, Dn.tSub, Dn.valOf, asB, ownAt, asI, isPin, sl, dCut, iOf, iNo, fin, endV, runP, runF, runV, runW, startR, startV, dEmp, dChain, res, truR, Dn.tru, itemsOf, sNone, sSeq, sRg1, sRg2, sZip, sEnum, sFor, dApp, dPop, sBrk, sCnt, isNone, atI0, atI1, atI2, ixN3_0, ixN3_1, ixN3_2, ixN2_0, ixN2_1, noPins, e_add, e_addT, e_addL, e_sub, e_mul, e_mulL, e_mulT, e_div, e_mod, e_neg, e_eqI, e_neI, e_eqB, e_eqT, e_eqL, e_neT, e_neL, e_cmp, e_is, e_isnot, e_ixL, e_ixT, e_lenL, e_lenT, e_tupL, e_tupT, e_lstL, e_lstT, e_int, e_intB, e_abs, e_sum, e_divmod, e_gcd, e_max, e_min, e_isi, e_cutL, e_cutT, wipeR, e, z]; rfl
        · have e : ((k : Int) == (j : Int)) = false := beq_eq_false_iff_ne.mpr (by omega)
          simp [stepC, dLoc, dCon, dNil, dCons, dOp, dTup, dLst, looks, look, frz, dCall, dCallV, dCallK, reord, sSeq2, sSkip, sExp, sRet, sRetN, sIf, sAsg, sAsgT, bVal, bTru, bNot, bAnd, bOr, bYes, dAnd, dOr, dNot, dIf, tName, gsNil, gsCons, gTupD, Dn.tSub, Dn.valOf, asB, ownAt, asI, isPin, sl, dCut, iOf, iNo, fin, endV, runP, runF, runV, runW, startR, startV, dEmp, dChain, res, truR, Dn.tru, itemsOf, sNone, sSeq, sRg1, sRg2, sZip, sEnum, sFor, dApp, dPop, sBrk, sCnt, isNone, atI0, atI1, atI2, ixN3_0, ixN3_1, ixN3_2, ixN2_0, ixN2_1, noPins, e_add, e_addT, e_addL, e_sub, e_mul, e_mulL, e_mulT, e_div, e_mod, e_neg, e_eqI, e_neI, e_eqB, e_eqT, e_eqL, e_neT, e_neL, e_cmp, e_is, e_isnot, e_ixL, e_ixT, e_lenL, e_lenT, e_tupL, e_tupT, e_lstL, e_lstT, e_int, e_intB, e_abs, e_sum, e_divmod, e_gcd, e_max, e_min, e_isi, e_cutL, e_cutT, wipeR, e, z]; rfl)
    rw [filterMap_some] at i
    simpa [wipeR] using i
  have o := dComp_map (vs := [1]) (src := sRg1 (dLoc 0)) (tgt := tName 1) (cond := bYes) (elt := dOp pTuple (dCons (dComp [2] (sRg1 (dLoc 0)) (tName 2) bYes (dTup (dCons (dIf (bVal (dOp pEq (dCons (dLoc 2) (dCons (dLoc 1) dNil)))) (dCon (.int 1)) (dCon (.int 0))) (dCons (dCon (.int 1)) dNil)))) dNil)) (ρ := [some (.val (.int (n : Int))), none, none]) (ρ1 := [some (.val (.int (n : Int))), none, none])
    (l := List.range n) (f := fun (k : Nat) => .int (k : Int)) (g := fun (j : Nat) => some (row ((List.range n).map fun k => if k = j then 1 else 0))) (by simp [dLoc, dCon, dNil, dCons, dOp, dTup, dLst, looks, look, frz, dCall, dCallV, dCallK, reord, sSeq2, sSkip, sExp, sRet, sRetN, sIf, sAsg, sAsgT, bVal, bTru, bNot, bAnd, bOr, bYes, dAnd, dOr, dNot, dIf, tName, gsNil, gsCons, gTupD, Dn.tSub, Dn.valOf, asB, ownAt, asI, isPin, sl, dCut, iOf, iNo, fin, endV, runP, runF, runV, runW, startR, startV, dEmp, dChain, res, truR, Dn.tru, itemsOf, sNone, sSeq, sRg1, sRg2, sZip, sEnum, sFor, dApp, dPop, sBrk, sCnt, isNone, atI0, atI1, atI2, ixN3_0, ixN3_1, ixN3_2, ixN2_0, ixN2_1, noPins, e_add, e_addT, e_addL, e_sub, e_mul, e_mulL, e_mulT, e_div, e_mod, e_neg, e_eqI, e_neI, e_eqB, e_eqT, e_eqL, e_neT, e_neL, e_cmp, e_is, e_isnot, e_ixL, e_ixT, e_lenL, e_lenT, e_tupL, e_tupT, e_lstL, e_lstT, e_int, e_intB, e_abs, e_sum, e_divmod, e_gcd, e_max, e_min, e_isi, e_cutL, e_cutT, rg_ok hn, rg_map]) (by simp [dLoc, dCon, dNil, dCons, dOp, dTup, dLst, looks, look, frz, dCall, dCallV, dCallK, reord, sSeq2, sSkip, sExp, sRet, sRetN, sIf, sAsg, sAsgT, bVal, bTru, bNot, bAnd, bOr, bYes, dAnd, dOr, dNot, dIf, tName, gsNil, gsCons, gTupD, Dn.tSub, Dn.valOf, asB, ownAt, asI, isPin, sl, dCut, iOf, iNo, fin, endV, runP, runF, runV, runW, startR, startV, dEmp, dChain, res, truR, Dn.tru, itemsOf, sNone, sSeq, sRg1, sRg2, sZip, sEnum, sFor, dApp, dPop, sBrk, sCnt, isNone, atI0, atI1, atI2, ixN3_0, ixN3_1, ixN3_2, ixN2_0, ixN2_1, noPins, e_add, e_addT, e_addL, e_sub, e_mul, e_mulL, e_mulT, e_div, e_mod, e_neg, e_eqI, e_neI, e_eqB, e_eqT, e_eqL, e_neT, e_neL, e_cmp, e_is, e_isnot, e_ixL, e_ixT, e_lenL, e_lenT, e_tupL, e_tupT, e_lstL, e_lstT, e_int, e_intB, e_abs, e_sum, e_divmod, e_gcd, e_max, e_min, e_isi, e_cutL, e_cutT]) (by simp; omega) (fun j hj => by
      have q := inner j
      simp [stepC, dLoc, dCon, dNil, dCons, dOp, dTup, dLst, looks, look, frz, dCall, dCallV, dCallK, reord, sSeq2, sSkip, sExp, sRet, sRetN, sIf, sAsg, sAsgT, bVal, bTru, bNot, bAnd, bOr, bYes, dAnd, dOr, dNot, dIf, tName, gsNil, gsCons, gTupD, Dn.tSub, Dn.valOf, asB, ownAt, asI, isPin, sl, dCut, iOf, iNo, fin, endV, runP, runF, runV, runW, startR, startV, dEmp, dChain, res, truR, Dn.tru, itemsOf, sNone, sSeq, sRg1, sRg2, sZip, sEnum, sFor, dApp, dPop, sBrk, sCnt, isNone, atI0, atI1, atI2, ixN3_0, ixN3_1, ixN3_2, ixN2_0, ixN2_1, noPins, e_add, e_addT, e_addL, e_sub, e_mul, e_mulL, e_mulT, e_div, e_mod, e_neg, e_eqI, e_neI, e_eqB, e_eqT, e_eqL, e_neT, e_neL, e_cmp, e_is, e_isnot, e_ixL, e_ixT, e_lenL, e_lenT, e_tupL, e_tupT, e_lstL, e_lstT, e_int, e_intB, e_abs, e_sum, e_divmod, e_gcd, e_max, e_min, e_isi, e_cutL, e_cutT, wipeR, q, row, Function.comp_def])
  rw [filterMap_some] at o
  simp [F__law_unit, d__law_unit, dLoc, dCon, dNil, dCons, dOp, dTup, dLst, looks, look, frz, dCall, dCallV, dCallK, reord, sSeq2, sSkip, sExp, sRet, sRetN, sIf, sAsg, sAsgT, bVal, bTru, bNot, bAnd, bOr, bYes, dAnd, dOr, dNot, dIf, tName, gsNil, gsCons, gTupD, Dn.tSub, Dn.valOf, asB, ownAt, asI, isPin, sl, dCut, iOf, iNo, fin, endV, runP, runF, runV, runW, startR, startV, dEmp, dChain, res, truR, Dn.tru, itemsOf, sNone, sSeq, sRg1, sRg2, sZip, sEnum, sFor, dApp, dPop, sBrk, sCnt, isNone, atI0, atI1, atI2, ixN3_0, ixN3_1, ixN3_2, ixN2_0, ixN2_1, noPins, e_add, e_addT, e_addL, e_sub, e_mul, e_mulL, e_mulT, e_div, e_mod, e_neg, e_eqI, e_neI, e_eqB, e_eqT, e_eqL, e_neT, e_neL, e_cmp, e_is, e_isnot, e_ixL, e_ixT, e_lenL, e_lenT, e_tupL, e_tupT, e_lstL, e_lstT, e_int, e_intB, e_abs, e_sum, e_divmod, e_gcd, e_max, e_min, e_isi, e_cutL, e_cutT, o, wipeR, tab, unitQ, Function.comp_def]
end Pl

set_option Elab.async false
set_option linter.all false
set_option maxRecDepth 100000
set_option maxHeartbeats 4000000
namespace Pl
open PySem PySem.Spec PyProof.Rows L2 Dn
/-! ### tables by their places -/
def S : Nat → (Nat → Rat) → Rat
  | 0, _ => 0
  | n + 1, f => S n f + f n
theorem S_congr {f g : Nat → Rat} : ∀ {n : Nat}, (∀ k, k < n → f k = g k) → S n f = S n g
  | 0, _ => rfl
  | n + 1, h => by rw [S, S, S_congr fun k hk => h k (by omega), h n (by omega)]
theorem S_add (f g : Nat → Rat) : ∀ n, S n (fun k => f k + g k) = S n f + S n g
  | 0 => by rw [S, S, S, Rat.add_zero]
  | n + 1 => by rw [S, S, S, S_add f g n]; grind
theorem S_mulr (f : Nat → Rat) (x : Rat) : ∀ n, S n (fun k => f k * x) = S n f * x
  | 0 => by rw [S, S, Rat.zero_mul]
  | n + 1 => by rw [S, S, S_mulr f x n]; grind
theorem S_mull (f : Nat → Rat) (x : Rat) : ∀ n, S n (fun k => x * f k) = x * S n f
  | 0 => by rw [S, S, Rat.mul_zero]
  | n + 1 => by rw [S, S, S_mull f x n]; grind
theorem S_zero : ∀ n, S n (fun _ => 0) = 0
  | 0 => rfl
  | n + 1 => by rw [S, S_zero n, Rat.add_zero]
theorem S_swap (f : Nat → Nat → Rat) (m : Nat) : ∀ n, S n (fun k => S m fun j => f j k) = S m fun j => S n fun k => f j k
  | 0 => by rw [S]; exact (S_zero m).symm
  | n + 1 => by
    rw [S, S_swap f m n, ← S_add]
    rfl
theorem S_pick {f : Nat → Rat} {j : Nat} : ∀ {n : Nat}, j < n → S n (fun k => f k * if j = k then 1 else 0) = f j
  | 0, h => by omega
  | n + 1, h => by
    rw [S]
    by_cases z : j = n
    · subst z
      rw [if_pos rfl, Rat.mul_one, S_congr (g := fun _ => 0) (fun k hk => by rw [if_neg (by omega), Rat.mul_zero]), S_zero, Rat.zero_add]
    · rw [if_neg z, Rat.mul_zero, Rat.add_zero, S_pick (by omega)]
theorem sum_S : ∀ (l : List Rat), sumQ l = S l.length fun k => l.getD k 0 := by
  intro l
  unfold sumQ
  suffices h : ∀ (m : List Rat), m.foldl (· + ·) 0 = S m.length fun k => m.getD k 0 from h l
  intro m
  generalize hn : m.length = n
  induction n generalizing m with
  | zero =>
    have : m = [] := List.length_eq_zero_iff.mp hn
    subst this; rfl
  | succ n ih =>
    have hne : m ≠ [] := fun z => by subst z; cases hn
    have e : m = m.dropLast ++ [m.getLast hne] := (List.dropLast_concat_getLast hne).symm
    have hd : m.dropLast.length = n := by rw [List.length_dropLast, hn]; rfl
    rw [S, e, List.foldl_append, List.foldl_cons, List.foldl_nil, ih _ hd]
    have e1 : S n (fun k => m.dropLast.getD k 0) = S n fun k => (m.dropLast ++ [m.getLast hne]).getD k 0 := S_congr fun k hk => by
      simp only [List.getD_eq_getElem?_getD]
      rw [List.getElem?_append_left (by omega)]
    have e2 : (m.dropLast ++ [m.getLast hne]).getD n 0 = m.getLast hne := by
      simp only [List.getD_eq_getElem?_getD]
      rw [List.getElem?_append_right (by omega), hd]
      simp
    rw [e1, e2]
theorem dot_S {x y : List Rat} {n : Nat} (hx : x.length = n) (hy : y.length = n) : dotQ x y = S n fun k => x.getD k 0 * y.getD k 0 := by
  rw [dotQ, sum_S]
  have hl : (List.zipWith (· * ·) x y).length = n := by simp [hx, hy]
  rw [hl]
  refine S_congr fun k hk => ?_
  simp only [List.getD_eq_getElem?_getD]
  have h1 : k < x.length := by omega
  have h2 : k < y.length := by omega
  rw [List.getElem?_eq_getElem (by rw [hl]; exact hk), List.getElem?_eq_getElem h1, List.getElem?_eq_getElem h2]
  simp
def at2 (t : List (List Rat)) (i j : Nat) : Rat := (t.getD i []).getD j 0
theorem at_row {t : List (List Rat)} {n i : Nat} (h : Sq n t) (hi : i < n) : (t.getD i []).length = n := by
  have l : i < t.length := by rw [h.len]; exact hi
  have e : t.getD i [] = t[i] := by simp [List.getD, l]
  rw [e]
  exact h.row _ (List.getElem_mem _)
theorem tab_ext {n : Nat} {s t : List (List Rat)} (hs : Sq n s) (ht : Sq n t) (h : ∀ i j, i < n → j < n → at2 s i j = at2 t i j) : s = t := by
  refine List.ext_getElem (by rw [hs.len, ht.len]) fun i h1 h2 => ?_
  have hi : i < n := by rw [hs.len] at h1; exact h1
  refine List.ext_getElem (by rw [hs.row _ (List.getElem_mem _), ht.row _ (List.getElem_mem _)]) fun j h3 h4 => ?_
  have hj : j < n := by rw [hs.row _ (List.getElem_mem _)] at h3; exact h3
  have e := h i j hi hj
  simp only [at2, List.getD_eq_getElem?_getD] at e
  rw [List.getElem?_eq_getElem h1, List.getElem?_eq_getElem h2] at e
  simp only [Option.getD_some] at e
  rw [List.getElem?_eq_getElem h3, List.getElem?_eq_getElem h4] at e
  exact e
theorem at_flip {n i j : Nat} {t : List (List Rat)} (h : Sq n t) (hi : i < n) (hj : j < n) : at2 (flipQ n t) i j = at2 t j i := by
  have l : j < t.length := by rw [h.len]; exact hj
  simp only [at2, flipQ, List.getD_eq_getElem?_getD]
  rw [List.getElem?_map, List.getElem?_range hi]
  simp only [Option.map_some, Option.getD_some]
  rw [List.getElem?_map, List.getElem?_eq_getElem l]
  simp
theorem at_prod {n i j : Nat} {a b : List (List Rat)} (ha : Sq n a) (hb : Sq n b) (hi : i < n) (hj : j < n) : at2 (prodQ n a b) i j = S n fun k => at2 a i k * at2 b k j := by
  have l : i < a.length := by rw [ha.len]; exact hi
  have hf := flip_sq hb
  have l2 : j < (flipQ n b).length := by rw [hf.len]; exact hj
  have e : at2 (prodQ n a b) i j = dotQ (a.getD i []) ((flipQ n b).getD j []) := by
    simp only [at2, prodQ, List.getD_eq_getElem?_getD]
    rw [List.getElem?_map, List.getElem?_eq_getElem l]
    simp only [Option.map_some, Option.getD_some]
    rw [List.getElem?_map, List.getElem?_eq_getElem l2]
    rfl
  rw [e, dot_S (at_row ha hi) (at_row hf hj)]
  refine S_congr fun k hk => ?_
  have := at_flip hb hj hk
  unfold at2 at this ⊢
  rw [this]
theorem flip_flip {n : Nat} {t : List (List Rat)} (h : Sq n t) : flipQ n (flipQ n t) = t := tab_ext (flip_sq (flip_sq h)) h fun i j hi hj => by rw [at_flip (flip_sq h) hi hj, at_flip h hj hi]
theorem prod_assoc {n : Nat} {a b c : List (List Rat)} (ha : Sq n a) (hb : Sq n b) (hc : Sq n c) : prodQ n (prodQ n a b) c = prodQ n a (prodQ n b c) :=
  tab_ext (prod_sq (prod_sq ha hb) hc) (prod_sq ha (prod_sq hb hc)) fun i j hi hj => by
    rw [at_prod (prod_sq ha hb) hc hi hj, at_prod ha (prod_sq hb hc) hi hj]
    rw [S_congr (g := fun k => S n fun m => at2 a i m * at2 b m k * at2 c k j) fun k hk => by rw [at_prod ha hb hi hk, ← S_mulr]]
    rw [S_congr (f := fun k => at2 a i k * at2 (prodQ n b c) k j) (g := fun m => S n fun k => at2 a i m * at2 b m k * at2 c k j) fun m hm => by
      rw [at_prod hb hc hm hj, ← S_mull]
      exact S_congr fun k _ => by rw [Rat.mul_assoc]]
    exact S_swap (fun m k => at2 a i m * at2 b m k * at2 c k j) n n
theorem flip_prod {n : Nat} {a b : List (List Rat)} (ha : Sq n a) (hb : Sq n b) : flipQ n (prodQ n a b) = prodQ n (flipQ n b) (flipQ n a) :=
  tab_ext (flip_sq (prod_sq ha hb)) (prod_sq (flip_sq hb) (flip_sq ha)) fun i j hi hj => by
    rw [at_flip (prod_sq ha hb) hi hj, at_prod ha hb hj hi, at_prod (flip_sq hb) (flip_sq ha) hi hj]
    refine S_congr fun k hk => ?_
    rw [at_flip hb hi hk, at_flip ha hk hj, Rat.mul_comm]
theorem at_unit {n i j : Nat} (hi : i < n) (hj : j < n) : at2 (unitQ n) i j = if j = i then 1 else 0 := by
  simp only [at2, unitQ, List.getD_eq_getElem?_getD]
  rw [List.getElem?_map, List.getElem?_range hi]
  simp only [Option.map_some, Option.getD_some]
  rw [List.getElem?_map, List.getElem?_range hj]
  rfl
theorem prod_unit {n : Nat} {a : List (List Rat)} (ha : Sq n a) : prodQ n a (unitQ n) = a := tab_ext (prod_sq ha (unit_sq n)) ha fun i j hi hj => by
  rw [at_prod ha (unit_sq n) hi hj, S_congr (g := fun k => at2 a i k * if j = k then 1 else 0) fun k hk => by rw [at_unit hk hj], S_pick hj]
theorem unit_prod {n : Nat} {a : List (List Rat)} (ha : Sq n a) : prodQ n (unitQ n) a = a := tab_ext (prod_sq (unit_sq n) ha) ha fun i j hi hj => by
  rw [at_prod (unit_sq n) ha hi hj, S_congr (g := fun k => at2 a k j * if i = k then 1 else 0) fun k hk => by
    rw [at_unit hi hk, Rat.mul_comm]
    by_cases z : k = i
    · rw [if_pos z, if_pos z.symm]
    · rw [if_neg z, if_neg fun q => z q.symm], S_pick hi]
theorem flip_unit {n : Nat} : flipQ n (unitQ n) = unitQ n := tab_ext (flip_sq (unit_sq n)) (unit_sq n) fun i j hi hj => by
  rw [at_flip (unit_sq n) hi hj, at_unit hj hi, at_unit hi hj]
  by_cases z : j = i
  · rw [if_pos z, if_pos z.symm]
  · rw [if_neg z, if_neg fun q => z q.symm]
end Pl

set_option Elab.async false
set_option linter.all false
set_option maxRecDepth 100000
set_option maxHeartbeats 4000000
namespace Pl
open PySem PySem.Spec PyProof.Rows L2 Dn

/-! ### numbers over a common number below -/
def Cb (D : Int) (n : Nat) (x : Rat) : Prop := ∃ p : Int, x = Rat.divInt p D ∧ Bd n p
theorem Cb.rb {D : Int} {n m : Nat} {x : Rat} (h : Cb D n x) (h0 : D ≠ 0) (hD : Bd m D) : RB n m x := by
  obtain ⟨p, rfl, hp⟩ := h
  exact .divInt h0 hp hD
theorem Cb.up {D : Int} {n m : Nat} {x : Rat} (h : Cb D n x) (l : n ≤ m) : Cb D m x := by
  obtain ⟨p, e, hp⟩ := h
  exact ⟨p, e, hp.up l⟩
theorem Cb.zero {D : Int} : Cb D 0 0 := ⟨0, by rw [Rat.zero_divInt], by unfold Bd; decide⟩
theorem Cb.add {D : Int} {n k : Nat} {x y : Rat} (h0 : D ≠ 0) (h : Cb D n x) (l : Cb D k y) : Cb D (max n k + 1) (x + y) := by
  obtain ⟨p, rfl, hp⟩ := h
  obtain ⟨q, rfl, hq⟩ := l
  refine ⟨p + q, ?_, (hp.up (Nat.le_max_left _ _)).add (hq.up (Nat.le_max_right _ _))⟩
  rw [Rat.divInt_add_divInt _ _ h0 h0, ← Int.add_mul, Rat.divInt_mul_right h0]
theorem Cb.neg {D : Int} {n : Nat} {x : Rat} (h : Cb D n x) : Cb D n (-x) := by
  obtain ⟨p, rfl, hp⟩ := h
  exact ⟨-p, by rw [Rat.neg_divInt], hp.neg⟩
theorem Cb.sub {D : Int} {n k : Nat} {x y : Rat} (h0 : D ≠ 0) (h : Cb D n x) (l : Cb D k y) : Cb D (max n k + 1) (x - y) := by
  rw [Rat.sub_eq_add_neg]
  exact h.add h0 l.neg
theorem Cb.mul {D E : Int} {n k : Nat} {x y : Rat} (h : Cb D n x) (l : Cb E k y) : Cb (D * E) (n + k) (x * y) := by
  obtain ⟨p, rfl, hp⟩ := h
  obtain ⟨q, rfl, hq⟩ := l
  exact ⟨p * q, by rw [Rat.divInt_mul_divInt], hp.mul hq⟩
theorem Cb.scale {D e : Int} {n k : Nat} {x : Rat} (h : Cb D n x) (he : Bd k e) (e0 : e ≠ 0) : Cb (D * e) (n + k) x := by
  obtain ⟨p, rfl, hp⟩ := h
  exact ⟨p * e, by rw [Rat.divInt_mul_right e0], hp.mul he⟩
theorem Cb.of_rb {n m : Nat} {x : Rat} (h : RB n m x) : Cb (x.den : Int) n x := ⟨x.num, (Rat.num_divInt_den x).symm, h.num⟩
/-- a sum's bounds on the way, over a common number below -/
def SC (D : Int) (n k : Nat) (acc : Rat) (l : List Rat) : Prop := ∃ i, i + l.length = k ∧ Cb D (n + i) acc ∧ ∀ x ∈ l, Cb D n x
theorem SC.step {D : Int} {n k : Nat} {acc x : Rat} {l : List Rat} (h0 : D ≠ 0) (h : SC D n k acc (x :: l)) : SC D n k (acc + x) l ∧ Cb D (n + k) acc ∧ Cb D n x := by
  obtain ⟨i, hi, ha, hl⟩ := h
  rw [List.length_cons] at hi
  have hx := hl x List.mem_cons_self
  exact ⟨⟨i + 1, by omega, (ha.add h0 hx).up (by omega), fun y hy => hl y (List.mem_cons_of_mem _ hy)⟩, ha.up (by omega), hx⟩
theorem SC.start {D : Int} {n : Nat} {l : List Rat} (h : ∀ x ∈ l, Cb D n x) : SC D n l.length 0 l := ⟨0, by simp, Cb.zero.up (by omega), h⟩
theorem SC.fin {D : Int} {n k : Nat} (h0 : D ≠ 0) : ∀ {l : List Rat} {acc : Rat}, SC D n k acc l → Cb D (n + k) (l.foldl (· + ·) acc)
  | [], acc, ⟨i, hi, ha, _⟩ => by
    have : i = k := by simpa using hi
    subst this; exact ha
  | x :: l, acc, h => by rw [List.foldl_cons]; exact (h.step h0).1.fin h0
theorem total_c {D : Int} {n m : Nat} {l : List Rat} (h0 : D ≠ 0) (hD : Bd m D) (h : ∀ x ∈ l, Cb D n x) (hk : l.length ≤ 1000) (hm : m ≤ 4500) (hn : n ≤ 50000) : F_total [.list (l.map enc)] = some (.v (enc (sumQ l))) ∧ Cb D (n + l.length) (sumQ l) := by
  refine ⟨?_, (SC.start h).fin h0⟩
  have key := loopF_fold (tgt := tName 2) (body := sSeq2 (sAsg (dCall F_plus (dCons (dLoc 1) (dCons (dLoc 2) dNil))) (tName 1)) sSkip) (f := enc) (S := fun (st : Rat × Option PyData) => [some (.val (.list (l.map enc))), some (.val (enc st.1)), st.2.map Slot.val]) (step := fun st x => (st.1 + x, some (enc x)))
    (ok := fun st r => SC D n l.length st.1 r) (fun st x r i => by
      obtain ⟨h1, h2, h3⟩ := i.step h0
      refine ⟨[some (.val (.list (l.map enc))), some (.val (enc st.1)), some (.val (enc x))], by obtain ⟨a, o⟩ := st; cases o <;> simp [dLoc, dCon, dNil, dCons, dOp, dTup, dLst, looks, look, frz, dCall, dCallV, dCallK, reord, sSeq2, sSkip, sExp, sRet, sRetN, sIf, sAsg, sAsgT, bVal, bTru, bNot, bAnd, bOr, bYes, dAnd, dOr, dNot, dIf, tName, gsNil, gsCons, gTupD, Dn.tSub, Dn.valOf, asB, ownAt, asI, isPin, sl, dCut, iOf, iNo, fin, endV, runP, runF, runV, runW, startR, startV, dEmp, dChain, res, truR, Dn.tru, itemsOf, sNone, sSeq, sRg1, sRg2, sZip, sEnum, sFor, dApp, dPop, sBrk, sCnt, isNone, atI0, atI1, atI2, ixN3_0, ixN3_1, ixN3_2, ixN2_0, ixN2_1, noPins, e_add, e_addT, e_addL, e_sub, e_mul, e_mulL, e_mulT, e_div, e_mod, e_neg, e_eqI, e_neI, e_eqB, e_eqT, e_eqL, e_neT, e_neL, e_cmp, e_is, e_isnot, e_ixL, e_ixT, e_lenL, e_lenT, e_tupL, e_tupT, e_lstL, e_lstT, e_int, e_intB, e_abs, e_sum, e_divmod, e_gcd, e_max, e_min, e_isi, e_cutL, e_cutT], ?_, h1⟩
      have p := plus_spec (h2.rb h0 hD) (h3.rb h0 hD) (by omega) (by omega) (by omega)
      simp [dLoc, dCon, dNil, dCons, dOp, dTup, dLst, looks, look, frz, dCall, dCallV, dCallK, reord, sSeq2, sSkip, sExp, sRet, sRetN, sIf, sAsg, sAsgT, bVal, bTru, bNot, bAnd, bOr, bYes, dAnd, dOr, dNot, dIf, tName, gsNil, gsCons, gTupD, Dn.tSub, Dn.valOf, asB, ownAt, asI, isPin, sl, dCut, iOf, iNo, fin, endV, runP, runF, runV, runW, startR, startV, dEmp, dChain, res, truR, Dn.tru, itemsOf, sNone, sSeq, sRg1, sRg2, sZip, sEnum, sFor, dApp, dPop, sBrk, sCnt, isNone, atI0, atI1, atI2, ixN3_0, ixN3_1, ixN3_2, ixN2_0, ixN2_1, noPins, e_add, e_addT, e_addL, e_sub, e_mul, e_mulL, e_mulT, e_div, e_mod, e_neg, e_eqI, e_neI, e_eqB, e_eqT, e_eqL, e_neT, e_neL, e_cmp, e_is, e_isnot, e_ixL, e_ixT, e_lenL, e_lenT, e_tupL, e_tupT, e_lstL, e_lstT, e_int, e_intB, e_abs, e_sum, e_divmod, e_gcd, e_max, e_min, e_isi, e_cutL, e_cutT, p]) l (0, none) (SC.start h)
  simp only [dLoc, dCon, dNil, dCons, dOp, dTup, dLst, looks, look, frz, dCall, dCallV, dCallK, reord, sSeq2, sSkip, sExp, sRet, sRetN, sIf, sAsg, sAsgT, bVal, bTru, bNot, bAnd, bOr, bYes, dAnd, dOr, dNot, dIf, tName, gsNil, gsCons, gTupD, Dn.tSub, Dn.valOf, asB, ownAt, asI, isPin, sl, dCut, iOf, iNo, fin, endV, runP, runF, runV, runW, startR, startV, dEmp, dChain, res, truR, Dn.tru, itemsOf, sNone, sSeq, sRg1, sRg2, sZip, sEnum, sFor, dApp, dPop, sBrk, sCnt, isNone, atI0, atI1, atI2, ixN3_0, ixN3_1, ixN3_2, ixN2_0, ixN2_1, noPins, e_add, e_addT, e_addL, e_sub, e_mul, e_mulL, e_mulT, e_div, e_mod, e_neg, e_eqI, e_neI, e_eqB, e_eqT, e_eqL, e_neT, e_neL, e_cmp, e_is, e_isnot, e_ixL, e_ixT, e_lenL, e_lenT, e_tupL, e_tupT, e_lstL, e_lstT, e_int, e_intB, e_abs, e_sum, e_divmod, e_gcd, e_max, e_min, e_isi, e_cutL, e_cutT] at key
  have e0 : enc 0 = .tuple [.int 0, .int 1] := rfl
  rw [e0, Option.map_none] at key
  simp [F_total, d_total, dLoc, dCon, dNil, dCons, dOp, dTup, dLst, looks, look, frz, dCall, dCallV, dCallK, reord, sSeq2, sSkip, sExp, sRet, sRetN, sIf, sAsg, sAsgT, bVal, bTru, bNot, bAnd, bOr, bYes, dAnd, dOr, dNot, dIf, tName, gsNil, gsCons, gTupD, Dn.tSub, Dn.valOf, asB, ownAt, asI, isPin, sl, dCut, iOf, iNo, fin, endV, runP, runF, runV, runW, startR, startV, dEmp, dChain, res, truR, Dn.tru, itemsOf, sNone, sSeq, sRg1, sRg2, sZip, sEnum, sFor, dApp, dPop, sBrk, sCnt, isNone, atI0, atI1, atI2, ixN3_0, ixN3_1, ixN3_2, ixN2_0, ixN2_1, noPins, e_add, e_addT, e_addL, e_sub, e_mul, e_mulL, e_mulT, e_div, e_mod, e_neg, e_eqI, e_neI, e_eqB, e_eqT, e_eqL, e_neT, e_neL, e_cmp, e_is, e_isnot, e_ixL, e_ixT, e_lenL, e_lenT, e_tupL, e_tupT, e_lstL, e_lstT, e_int, e_intB, e_abs, e_sum, e_divmod, e_gcd, e_max, e_min, e_isi, e_cutL, e_cutT, key, fold_fst, sumQ]
theorem dot_c {D E : Int} {n k m e : Nat} {x y : List Rat} (hD : D ≠ 0) (hE : E ≠ 0) (bD : Bd m D) (bE : Bd e E) (hx : ∀ r ∈ x, Cb D n r) (hy : ∀ r ∈ y, Cb E k r) (hl : x.length = y.length) (hk : x.length ≤ 1000) (hm : m + e ≤ 4500) (hn : n + k ≤ 50000) :
    F_dot [row x, row y] = some (.v (enc (dotQ x y))) ∧ Cb (D * E) (n + k + x.length) (dotQ x y) := by
  have hz : (List.zipWith (· * ·) x y).length = x.length := by simp [hl]
  have t := total_c (D := D * E) (n := n + k) (l := List.zipWith (· * ·) x y) (Int.mul_ne_zero hD hE) (bD.mul bE) (fun r hr => by
    rw [zipWith_zip] at hr
    obtain ⟨p, hp, rfl⟩ := List.mem_map.mp hr
    exact (hx p.1 (List.of_mem_zip hp).1).mul (hy p.2 (List.of_mem_zip hp).2)) (by omega) hm hn
  rw [hz] at t
  refine ⟨?_, t.2⟩
  have c := dComp_map (vs := [2, 3]) (src := sZip (dLoc 0) (dLoc 1)) (tgt := gTupD 2 (gsCons (tName 2) (gsCons (tName 3) gsNil))) (cond := bYes) (elt := dCall F_times (dCons (dLoc 2) (dCons (dLoc 3) dNil))) (ρ := [some (.val (row x)), some (.val (row y)), none, none])
    (ρ1 := [some (.val (row x)), some (.val (row y)), none, none]) (l := x.zip y) (f := fun p => .tuple [enc p.1, enc p.2]) (g := fun p => some (enc (p.1 * p.2))) (by simp [dLoc, dCon, dNil, dCons, dOp, dTup, dLst, looks, look, frz, dCall, dCallV, dCallK, reord, sSeq2, sSkip, sExp, sRet, sRetN, sIf, sAsg, sAsgT, bVal, bTru, bNot, bAnd, bOr, bYes, dAnd, dOr, dNot, dIf, tName, gsNil, gsCons, gTupD, Dn.tSub, Dn.valOf, asB, ownAt, asI, isPin, sl, dCut, iOf, iNo, fin, endV, runP, runF, runV, runW, startR, startV, dEmp, dChain, res, truR, Dn.tru, itemsOf, sNone, sSeq, sRg1, sRg2, sZip, sEnum, sFor, dApp, dPop, sBrk, sCnt, isNone, atI0, atI1, atI2, ixN3_0, ixN3_1, ixN3_2, ixN2_0, ixN2_1, noPins, e_add, e_addT, e_addL, e_sub, e_mul, e_mulL, e_mulT, e_div, e_mod, e_neg, e_eqI, e_neI, e_eqB, e_eqT, e_eqL, e_neT, e_neL, e_cmp, e_is, e_isnot, e_ixL, e_ixT, e_lenL, e_lenT, e_tupL, e_tupT, e_lstL, e_lstT, e_int, e_intB, e_abs, e_sum, e_divmod, e_gcd, e_max, e_min, e_isi, e_cutL, e_cutT, row, zipD_map]) (by simp [dLoc, dCon, dNil, dCons, dOp, dTup, dLst, looks, look, frz, dCall, dCallV, dCallK, reord, sSeq2, sSkip, sExp, sRet, sRetN, sIf, sAsg, sAsgT, bVal, bTru, bNot, bAnd, bOr, bYes, dAnd, dOr, dNot, dIf, tName, gsNil, gsCons, gTupD, Dn.tSub, Dn.valOf, asB, ownAt, asI, isPin, sl, dCut, iOf, iNo, fin, endV, runP, runF, runV, runW, startR, startV, dEmp, dChain, res, truR, Dn.tru, itemsOf, sNone, sSeq, sRg1, sRg2, sZip, sEnum, sFor, dApp, dPop, sBrk, sCnt, isNone, atI0, atI1, atI2, ixN3_0, ixN3_1, ixN3_2, ixN2_0, ixN2_1, noPins, e_add, e_addT, e_addL, e_sub, e_mul, e_mulL, e_mulT, e_div, e_mod, e_neg, e_eqI, e_neI, e_eqB, e_eqT, e_eqL, e_neT, e_neL, e_cmp, e_is, e_isnot, e_ixL, e_ixT, e_lenL, e_lenT, e_tupL, e_tupT, e_lstL, e_lstT, e_int, e_intB, e_abs, e_sum, e_divmod, e_gcd, e_max, e_min, e_isi, e_cutL, e_cutT]) (by simp; omega) (fun p hp => by
      have q := times_spec ((hx p.1 (List.of_mem_zip hp).1).rb hD bD) ((hy p.2 (List.of_mem_zip hp).2).rb hE bE) (by omega) (by omega)
      simp [stepC, dLoc, dCon, dNil, dCons, dOp, dTup, dLst, looks, look, frz, dCall, dCallV, dCallK, reord, sSeq2, sSkip, sExp, sRet, sRetN, sIf, sAsg, sAsgT, bVal, bTru, bNot, bAnd, bOr, bYes, dAnd, dOr, dNot, dIf, tName, gsNil, gsCons, gTupD, Dn.tSub, Dn.valOf, asB, ownAt, asI, isPin, sl, dCut, iOf, iNo, fin, endV, runP, runF, runV, runW, startR, startV, dEmp, dChain, res, truR, Dn.tru, itemsOf, sNone, sSeq, sRg1, sRg2, sZip, sEnum, sFor, dApp, dPop, sBrk, sCnt, isNone, atI0, atI1, atI2, ixN3_0, ixN3_1, ixN3_2, ixN2_0, ixN2_1, noPins, e_add, e_addT, e_addL, e_sub, e_mul, e_mulL, e_mulT, e_div, e_mod, e_neg, e_eqI, e_neI, e_eqB, e_eqT, e_eqL, e_neT, e_neL, e_cmp, e_is, e_isnot, e_ixL, e_ixT, e_lenL, e_lenT, e_tupL, e_tupT, e_lstL, e_lstT, e_int, e_intB, e_abs, e_sum, e_divmod, e_gcd, e_max, e_min, e_isi, e_cutL, e_cutT, wipeR, q])
  have e1 : (x.zip y).filterMap (fun p => some (enc (p.1 * p.2))) = (List.zipWith (· * ·) x y).map enc := by
    rw [filterMap_some, zipWith_zip, List.map_map]
    rfl
  rw [e1] at c
  simp [F_dot, d_dot, dLoc, dCon, dNil, dCons, dOp, dTup, dLst, looks, look, frz, dCall, dCallV, dCallK, reord, sSeq2, sSkip, sExp, sRet, sRetN, sIf, sAsg, sAsgT, bVal, bTru, bNot, bAnd, bOr, bYes, dAnd, dOr, dNot, dIf, tName, gsNil, gsCons, gTupD, Dn.tSub, Dn.valOf, asB, ownAt, asI, isPin, sl, dCut, iOf, iNo, fin, endV, runP, runF, runV, runW, startR, startV, dEmp, dChain, res, truR, Dn.tru, itemsOf, sNone, sSeq, sRg1, sRg2, sZip, sEnum, sFor, dApp, dPop, sBrk, sCnt, isNone, atI0, atI1, atI2, ixN3_0, ixN3_1, ixN3_2, ixN2_0, ixN2_1, noPins, e_add, e_addT, e_addL, e_sub, e_mul, e_mulL, e_mulT, e_div, e_mod, e_neg, e_eqI, e_neI, e_eqB, e_eqT, e_eqL, e_neT, e_neL, e_cmp, e_is, e_isnot, e_ixL, e_ixT, e_lenL, e_lenT, e_tupL, e_tupT, e_lstL, e_lstT, e_int, e_intB, e_abs, e_sum, e_divmod, e_gcd, e_max, e_min, e_isi, e_cutL, e_cutT, c, t.1, dotQ, wipeR, -List.map_zipWith]
end Pl

set_option Elab.async false
set_option linter.all false
set_option maxRecDepth 100000
set_option maxHeartbeats 4000000
namespace Pq
open PySem PySem.Spec PyProof.Rows L2 Dn Pl
noncomputable section
def d__law_draw : TSD := (sSeq2 (sIf (bVal (dOp pGt (dCons (dOp pIx (dCons (dLoc 0) (dCons (dCon (.int 0)) dNil))) (dCons (dCon (.int 0)) dNil)))) (sSeq2 (sAsg (dOp pDivmod (dCons (dOp pIx (dCons (dLoc 0) (dCons (dCon (.int 0)) dNil))) (dCons (dLoc 1) dNil))) (gTupD 2 (gsCons (tSub 0 (dCon (.int 0))) (gsCons (tName 3) gsNil))))
  (sSeq2 (sRet (dLoc 3))
  sSkip)) sSkip)
  (sSeq2 (sAsg (dOp pAdd (dCons (dOp pIx (dCons (dLoc 0) (dCons (dCon (.int 2)) dNil))) (dCons (dCon (.int 1)) dNil))) (tSub 0 (dCon (.int 2))))
  (sSeq2 (sAsg (dOp pMod (dCons (dOp pInt (dCons (dOp pAdd (dCons (dOp pAdd (dCons (dOp pMul (dCons (dOp pIx (dCons (dLoc 0) (dCons (dCon (.int 1)) dNil))) (dCons (dCon (.int 44021)) dNil))) (dCons (dOp pMul (dCons (dOp pIx (dCons (dLoc 0) (dCons (dCon (.int 2)) dNil))) (dCons (dCon (.int 60029)) dNil))) dNil))) (dCons (dCon (.int 23)) dNil))) dNil)) (dCons (dCon (.int 2147483629)) dNil))) (tName 2))
  (sSeq2 (sAsg (dOp pMod (dCons (dOp pInt (dCons (dOp pAdd (dCons (dOp pMul (dCons (dLoc 2) (dCons (dOp pAdd (dCons (dOp pMul (dCons (dCon (.int 3)) (dCons (dOp pDiv (dCons (dLoc 2) (dCons (dCon (.int 29)) dNil))) dNil))) (dCons (dCon (.int 20021)) dNil))) dNil))) (dCons (dOp pIx (dCons (dLoc 0) (dCons (dCon (.int 2)) dNil))) dNil))) dNil)) (dCons (dCon (.int 2147483587)) dNil))) (tSub 0 (dCon (.int 1))))
  (sSeq2 (sRet (dOp pMod (dCons (dOp pInt (dCons (dOp pDiv (dCons (dOp pIx (dCons (dLoc 0) (dCons (dCon (.int 1)) dNil))) (dCons (dCon (.int 139)) dNil))) dNil)) (dCons (dLoc 1) dNil))))
  sSkip)))))
def F__law_draw : List D → List D → Option (R × List D) := runW 2 4 d__law_draw
def d__law_pick : TSD := (sSeq2 (sRet (dOp pIx (dCons (dLoc 1) (dCons (dCallV F__law_draw (dCons (dLoc 0) (dCons (dOp pLen (dCons (dLoc 1) dNil)) dNil))) dNil))))
  sSkip)
def F__law_pick : List D → List D → Option (R × List D) := runW 2 2 d__law_pick
def d__law_ratio : TSD := (sSeq2 (sAsgT (dCons (dOp pAbs (dCons (dLoc 0) dNil)) (dCons (dOp pAbs (dCons (dLoc 1) dNil)) dNil)) 2 (gsCons (tName 2) (gsCons (tName 3) gsNil)))
  (sSeq2 (sWhile (bVal (dOp pGt (dCons (dLoc 3) (dCons (dCon (.int 0)) dNil)))) (sSeq2 (sAsgT (dCons (dLoc 3) (dCons (dOp pMod (dCons (dOp pInt (dCons (dLoc 2) dNil)) (dCons (dLoc 3) dNil))) dNil)) 2 (gsCons (tName 2) (gsCons (tName 3) gsNil)))
  sSkip))
  (sSeq2 (sAsg (dIf (bVal (dOp pGt (dCons (dLoc 1) (dCons (dCon (.int 0)) dNil)))) (dLoc 2) (dOp pSub (dCons (dCon (.int 0)) (dCons (dLoc 2) dNil)))) (tName 2))
  (sSeq2 (sRet (dTup (dCons (dOp pDiv (dCons (dLoc 0) (dCons (dLoc 2) dNil))) (dCons (dOp pDiv (dCons (dLoc 1) (dCons (dLoc 2) dNil))) dNil))))
  sSkip))))
def F__law_ratio : List D → Option R := runF 2 4 d__law_ratio
def d__law_plus : TSD := (sSeq2 (sRet (dCall F__law_ratio (dCons (dOp pAdd (dCons (dOp pMul (dCons (dOp pIx (dCons (dLoc 0) (dCons (dCon (.int 0)) dNil))) (dCons (dOp pIx (dCons (dLoc 1) (dCons (dCon (.int 1)) dNil))) dNil))) (dCons (dOp pMul (dCons (dOp pIx (dCons (dLoc 1) (dCons (dCon (.int 0)) dNil))) (dCons (dOp pIx (dCons (dLoc 0) (dCons (dCon (.int 1)) dNil))) dNil))) dNil))) (dCons (dOp pMul (dCons (dOp pIx (dCons (dLoc 0) (dCons (dCon (.int 1)) dNil))) (dCons (dOp pIx (dCons (dLoc 1) (dCons (dCon (.int 1)) dNil))) dNil))) dNil))))
  sSkip)
def F__law_plus : List D → Option R := runF 2 2 d__law_plus
def d__law_minus : TSD := (sSeq2 (sRet (dCall F__law_ratio (dCons (dOp pSub (dCons (dOp pMul (dCons (dOp pIx (dCons (dLoc 0) (dCons (dCon (.int 0)) dNil))) (dCons (dOp pIx (dCons (dLoc 1) (dCons (dCon (.int 1)) dNil))) dNil))) (dCons (dOp pMul (dCons (dOp pIx (dCons (dLoc 1) (dCons (dCon (.int 0)) dNil))) (dCons (dOp pIx (dCons (dLoc 0) (dCons (dCon (.int 1)) dNil))) dNil))) dNil))) (dCons (dOp pMul (dCons (dOp pIx (dCons (dLoc 0) (dCons (dCon (.int 1)) dNil))) (dCons (dOp pIx (dCons (dLoc 1) (dCons (dCon (.int 1)) dNil))) dNil))) dNil))))
  sSkip)
def F__law_minus : List D → Option R := runF 2 2 d__law_minus
def d__law_by : TSD := (sSeq2 (sRet (dCall F__law_ratio (dCons (dOp pMul (dCons (dOp pIx (dCons (dLoc 0) (dCons (dCon (.int 0)) dNil))) (dCons (dOp pIx (dCons (dLoc 1) (dCons (dCon (.int 0)) dNil))) dNil))) (dCons (dOp pMul (dCons (dOp pIx (dCons (dLoc 0) (dCons (dCon (.int 1)) dNil))) (dCons (dOp pIx (dCons (dLoc 1) (dCons (dCon (.int 1)) dNil))) dNil))) dNil))))
  sSkip)
def F__law_by : List D → Option R := runF 2 2 d__law_by
def d__law_over : TSD := (sSeq2 (sRet (dCall F__law_ratio (dCons (dOp pMul (dCons (dOp pIx (dCons (dLoc 0) (dCons (dCon (.int 0)) dNil))) (dCons (dOp pIx (dCons (dLoc 1) (dCons (dCon (.int 1)) dNil))) dNil))) (dCons (dOp pMul (dCons (dOp pIx (dCons (dLoc 0) (dCons (dCon (.int 1)) dNil))) (dCons (dOp pIx (dCons (dLoc 1) (dCons (dCon (.int 0)) dNil))) dNil))) dNil))))
  sSkip)
def F__law_over : List D → Option R := runF 2 2 d__law_over
def d__law_below : TSD := (sSeq2 (sRet (dOp pLt (dCons (dOp pMul (dCons (dOp pIx (dCons (dLoc 0) (dCons (dCon (.int 0)) dNil))) (dCons (dOp pIx (dCons (dLoc 1) (dCons (dCon (.int 1)) dNil))) dNil))) (dCons (dOp pMul (dCons (dOp pIx (dCons (dLoc 1) (dCons (dCon (.int 0)) dNil))) (dCons (dOp pIx (dCons (dLoc 0) (dCons (dCon (.int 1)) dNil))) dNil))) dNil))))
  sSkip)
def F__law_below : List D → Option R := runF 2 2 d__law_below
def d__law_dot : TSD := (sSeq2 (sAsg (dTup (dCons (dCon (.int 0)) (dCons (dCon (.int 1)) dNil))) (tName 2))
  (sSeq2 (sFor (sZip (dLoc 0) (dLoc 1)) (gTupD 2 (gsCons (tName 3) (gsCons (tName 4) gsNil))) (sSeq2 (sAsg (dCall F__law_plus (dCons (dLoc 2) (dCons (dCall F__law_by (dCons (dLoc 3) (dCons (dLoc 4) dNil))) dNil))) (tName 2))
  sSkip))
  (sSeq2 (sRet (dLoc 2))
  sSkip)))
def F__law_dot : List D → Option R := runF 2 5 d__law_dot
def d__law_added : TSD := (sSeq2 (sRet (dOp pTuple (dCons (dComp [3, 4] (sZip (dLoc 0) (dLoc 2)) (gTupD 2 (gsCons (tName 3) (gsCons (tName 4) gsNil))) bYes (dCall F__law_plus (dCons (dLoc 3) (dCons (dCall F__law_by (dCons (dLoc 1) (dCons (dLoc 4) dNil))) dNil)))) dNil)))
  sSkip)
def F__law_added : List D → Option R := runF 3 5 d__law_added
def d__law_stepped : TSD := (sSeq2 (sAsg (dLoc 0) (gTupD 2 (gsCons (tName 4) (gsCons (tName 5) gsNil))))
  (sSeq2 (sAsg (dCall F__law_by (dCons (dLoc 1) (dCons (dCall F__law_over (dCons (dCall F__law_minus (dCons (dLoc 5) (dCons (dCall F__law_dot (dCons (dLoc 4) (dCons (dLoc 2) dNil))) dNil))) (dCons (dCall F__law_dot (dCons (dLoc 4) (dCons (dLoc 4) dNil))) dNil))) dNil))) (tName 3))
  (sSeq2 (sRet (dCall F__law_added (dCons (dLoc 2) (dCons (dLoc 3) (dCons (dLoc 4) dNil)))))
  sSkip)))
def F__law_stepped : List D → Option R := runF 3 6 d__law_stepped
def d__law_is_frac : TSD := (sSeq2 (sIf (bOr (bNot (bTru (dOp (pIsi "tuple") (dCons (dLoc 0) dNil)))) (bVal (dOp pNe (dCons (dOp pLen (dCons (dLoc 0) dNil)) (dCons (dCon (.int 2)) dNil))))) (sSeq2 (sRet (dCon (.bool false)))
  sSkip) sSkip)
  (sSeq2 (sIf (bVal (dOp pIn (dCons (dCon (.bool false)) (dCons (dComp [1] (sSeq (dLoc 0)) (tName 1) bYes (dAnd (dOp (pIsi "int") (dCons (dLoc 1) dNil)) (dNot (dOp (pIsi "bool") (dCons (dLoc 1) dNil))))) dNil)))) (sSeq2 (sRet (dCon (.bool false)))
  sSkip) sSkip)
  (sSeq2 (sRet (dAnd (dOp pGt (dCons (dOp pIx (dCons (dLoc 0) (dCons (dCon (.int 1)) dNil))) (dCons (dCon (.int 0)) dNil))) (dOp pEq (dCons (dCall F__law_ratio (dCons (dOp pIx (dCons (dLoc 0) (dCons (dCon (.int 0)) dNil))) (dCons (dOp pIx (dCons (dLoc 0) (dCons (dCon (.int 1)) dNil))) dNil))) (dCons (dLoc 0) dNil)))))
  sSkip)))
def F__law_is_frac : List D → Option R := runF 1 2 d__law_is_frac
def d__law_are_fence : TSD := (sSeq2 (sIf (bOr (bNot (bTru (dOp (pIsi "tuple") (dCons (dLoc 0) dNil)))) (bNot (bVal (dChain (fun i j => decide (i ≤ j)) (fun i j => decide (i ≤ j)) (dCon (.int 1)) (dOp pLen (dCons (dLoc 0) dNil)) (dCon (.int 6)))))) (sSeq2 (sRet (dCon (.bool false)))
  sSkip) sSkip)
  (sSeq2 (sFor (sSeq (dLoc 0)) (tName 1) (sSeq2 (sIf (bOr (bNot (bTru (dOp (pIsi "tuple") (dCons (dLoc 1) dNil)))) (bOr (bVal (dOp pNe (dCons (dOp pLen (dCons (dLoc 1) dNil)) (dCons (dCon (.int 2)) dNil)))) (bNot (bTru (dCall F__law_is_frac (dCons (dOp pIx (dCons (dLoc 1) (dCons (dCon (.int 1)) dNil))) dNil)))))) (sSeq2 (sRet (dCon (.bool false)))
  sSkip) sSkip)
  (sSeq2 (sIf (bNot (bTru (dOp (pIsi "tuple") (dCons (dOp pIx (dCons (dLoc 1) (dCons (dCon (.int 0)) dNil))) dNil)))) (sSeq2 (sRet (dCon (.bool false)))
  sSkip) sSkip)
  (sSeq2 (sIf (bOr (bNot (bVal (dChain (fun i j => decide (i ≤ j)) (fun i j => decide (i ≤ j)) (dCon (.int 1)) (dOp pLen (dCons (dOp pIx (dCons (dLoc 1) (dCons (dCon (.int 0)) dNil))) dNil)) (dCon (.int 5))))) (bVal (dOp pIn (dCons (dCon (.bool false)) (dCons (dComp [2] (sSeq (dOp pIx (dCons (dLoc 1) (dCons (dCon (.int 0)) dNil)))) (tName 2) bYes (dCall F__law_is_frac (dCons (dLoc 2) dNil))) dNil))))) (sSeq2 (sRet (dCon (.bool false)))
  sSkip) sSkip)
  (sSeq2 (sIf (bVal (dOp pEq (dCons (dComp [2] (sSeq (dOp pIx (dCons (dLoc 1) (dCons (dCon (.int 0)) dNil)))) (tName 2) (bVal (dOp pNe (dCons (dOp pIx (dCons (dLoc 2) (dCons (dCon (.int 0)) dNil))) (dCons (dCon (.int 0)) dNil)))) (dLoc 2)) (dCons (dLst dNil) dNil)))) (sSeq2 (sRet (dCon (.bool false)))
  sSkip) sSkip)
  sSkip)))))
  (sSeq2 (sRet (dOp pEq (dCons (dComp [1] (sSeq (dLoc 0)) (tName 1) (bVal (dOp pNe (dCons (dOp pLen (dCons (dOp pIx (dCons (dLoc 1) (dCons (dCon (.int 0)) dNil))) dNil)) (dCons (dOp pLen (dCons (dOp pIx (dCons (dOp pIx (dCons (dLoc 0) (dCons (dCon (.int 0)) dNil))) (dCons (dCon (.int 0)) dNil))) dNil)) dNil)))) (dLoc 1)) (dCons (dLst dNil) dNil))))
  sSkip)))
def F__law_are_fence : List D → Option R := runF 1 3 d__law_are_fence
def d_minus : TSD := (sSeq2 (sRet (dCall F_ratio (dCons (dOp pSub (dCons (dOp pMul (dCons (dOp pIx (dCons (dLoc 0) (dCons (dCon (.int 0)) dNil))) (dCons (dOp pIx (dCons (dLoc 1) (dCons (dCon (.int 1)) dNil))) dNil))) (dCons (dOp pMul (dCons (dOp pIx (dCons (dLoc 1) (dCons (dCon (.int 0)) dNil))) (dCons (dOp pIx (dCons (dLoc 0) (dCons (dCon (.int 1)) dNil))) dNil))) dNil))) (dCons (dOp pMul (dCons (dOp pIx (dCons (dLoc 0) (dCons (dCon (.int 1)) dNil))) (dCons (dOp pIx (dCons (dLoc 1) (dCons (dCon (.int 1)) dNil))) dNil))) dNil))))
  sSkip)
def F_minus : List D → Option R := runF 2 2 d_minus
def d_divided : TSD := (sSeq2 (sRet (dCall F_ratio (dCons (dOp pMul (dCons (dOp pIx (dCons (dLoc 0) (dCons (dCon (.int 0)) dNil))) (dCons (dOp pIx (dCons (dLoc 1) (dCons (dCon (.int 1)) dNil))) dNil))) (dCons (dOp pMul (dCons (dOp pIx (dCons (dLoc 0) (dCons (dCon (.int 1)) dNil))) (dCons (dOp pIx (dCons (dLoc 1) (dCons (dCon (.int 0)) dNil))) dNil))) dNil))))
  sSkip)
def F_divided : List D → Option R := runF 2 2 d_divided
def d_row_sum : TSD := (sSeq2 (sRet (dOp pTuple (dCons (dComp [2, 3] (sZip (dLoc 0) (dLoc 1)) (gTupD 2 (gsCons (tName 2) (gsCons (tName 3) gsNil))) bYes (dCall F_plus (dCons (dLoc 2) (dCons (dLoc 3) dNil)))) dNil)))
  sSkip)
def F_row_sum : List D → Option R := runF 2 4 d_row_sum
def d_row_scaled : TSD := (sSeq2 (sRet (dOp pTuple (dCons (dComp [2] (sSeq (dLoc 0)) (tName 2) bYes (dCall F_times (dCons (dLoc 2) (dCons (dLoc 1) dNil)))) dNil)))
  sSkip)
def F_row_scaled : List D → Option R := runF 2 3 d_row_scaled
def d_is_noughts : TSD := (sSeq2 (sRet (dOp pEq (dCons (dComp [1] (sSeq (dLoc 0)) (tName 1) (bVal (dOp pNe (dCons (dLoc 1) (dCons (dCon (.tuple [(.int 0), (.int 1)])) dNil)))) (dLoc 1)) (dCons (dLst dNil) dNil))))
  sSkip)
def F_is_noughts : List D → Option R := runF 1 2 d_is_noughts
def d_is_wall : TSD := (sSeq2 (sIf (bOr (bNot (bTru (dOp (pIsi "tuple") (dCons (dLoc 0) dNil)))) (bOr (bVal (dOp pNe (dCons (dOp pLen (dCons (dLoc 0) dNil)) (dCons (dCon (.int 2)) dNil)))) (bNot (bTru (dOp (pIsi "tuple") (dCons (dOp pIx (dCons (dLoc 0) (dCons (dCon (.int 0)) dNil))) dNil)))))) (sSeq2 (sRet (dCon (.bool false)))
  sSkip) sSkip)
  (sSeq2 (sIf (bOr (bNot (bVal (dChain (fun i j => decide (i ≤ j)) (fun i j => decide (i ≤ j)) (dCon (.int 1)) (dOp pLen (dCons (dOp pIx (dCons (dLoc 0) (dCons (dCon (.int 0)) dNil))) dNil)) (dCon (.int 5))))) (bNot (bTru (dCall F_are_fractions (dCons (dOp pIx (dCons (dLoc 0) (dCons (dCon (.int 0)) dNil))) (dCons (dOp pLen (dCons (dOp pIx (dCons (dLoc 0) (dCons (dCon (.int 0)) dNil))) dNil)) dNil)))))) (sSeq2 (sRet (dCon (.bool false)))
  sSkip) sSkip)
  (sSeq2 (sRet (dAnd (dNot (dCall F_is_noughts (dCons (dOp pIx (dCons (dLoc 0) (dCons (dCon (.int 0)) dNil))) dNil))) (dCall F_is_fraction (dCons (dOp pIx (dCons (dLoc 0) (dCons (dCon (.int 1)) dNil))) dNil))))
  sSkip)))
def F_is_wall : List D → Option R := runF 1 1 d_is_wall
def d_are_walls : TSD := (sSeq2 (sIf (bOr (bNot (bTru (dOp (pIsi "tuple") (dCons (dLoc 0) dNil)))) (bVal (dOp pEq (dCons (dLoc 0) (dCons (dTup dNil) dNil))))) (sSeq2 (sRet (dTup (dCons (dCon .none) dNil)))
  sSkip) sSkip)
  (sSeq2 (sFor (sEnumA (dLoc 0)) (gTupD 2 (gsCons (tName 1) (gsCons (tName 2) gsNil))) (sSeq2 (sIf (bOr (bVal (dOp pEq (dCons (dLoc 1) (dCons (dCon (.int 6)) dNil)))) (bOr (bNot (bTru (dCall F_is_wall (dCons (dLoc 2) dNil)))) (bVal (dOp pNe (dCons (dOp pLen (dCons (dOp pIx (dCons (dLoc 2) (dCons (dCon (.int 0)) dNil))) dNil)) (dCons (dOp pLen (dCons (dOp pIx (dCons (dOp pIx (dCons (dLoc 0) (dCons (dCon (.int 0)) dNil))) (dCons (dCon (.int 0)) dNil))) dNil)) dNil)))))) (sSeq2 (sRet (dTup (dCons (dLoc 1) dNil)))
  sSkip) sSkip)
  sSkip))
  (sSeq2 (sRet (dCon .none))
  sSkip)))
def F_are_walls : List D → Option R := runF 1 3 d_are_walls
def d_is_fence : TSD := (sSeq2 (sRet (dOp pIs (dCons (dCall F_are_walls (dCons (dLoc 0) dNil)) (dCons (dCon .none) dNil))))
  sSkip)
def F_is_fence : List D → Option R := runF 1 1 d_is_fence
def d_moved : TSD := (sSeq2 (sAsg (dLoc 0) (gTupD 2 (gsCons (tName 4) (gsCons (tName 5) gsNil))))
  (sSeq2 (sAsg (dCall F_divided (dCons (dCall F_minus (dCons (dLoc 5) (dCons (dCall F_dot (dCons (dLoc 4) (dCons (dLoc 2) dNil))) dNil))) (dCons (dCall F_dot (dCons (dLoc 4) (dCons (dLoc 4) dNil))) dNil))) (tName 3))
  (sSeq2 (sRet (dCall F_row_sum (dCons (dLoc 2) (dCons (dCall F_row_scaled (dCons (dLoc 4) (dCons (dCall F_times (dCons (dLoc 1) (dCons (dLoc 3) dNil))) dNil))) dNil))))
  sSkip)))
def F_moved : List D → Option R := runF 3 6 d_moved
def d_check_walls : TSD := (sSeq2 (sAsg (dCall F_are_walls (dCons (dLoc 0) dNil)) (tName 1))
  (sSeq2 (sIf (bVal (dOp pIsNot (dCons (dLoc 1) (dCons (dCon .none) dNil)))) (sSeq2 sNone
  sSkip) sSkip)
  sSkip))
def F_check_walls : List D → Option R := runF 1 2 d_check_walls
def d_is_amount : TSD := (sSeq2 (sRet (dAnd (dCall F_is_fraction (dCons (dLoc 0) dNil)) (dOp pGt (dCons (dOp pIx (dCons (dLoc 0) (dCons (dCon (.int 0)) dNil))) (dCons (dCon (.int 0)) dNil)))))
  sSkip)
def F_is_amount : List D → Option R := runF 1 1 d_is_amount
def d_check_share : TSD := (sSeq2 (sIf (bOr (bNot (bTru (dCall F_is_amount (dCons (dLoc 0) dNil)))) (bVal (dOp pGe (dCons (dOp pIx (dCons (dLoc 0) (dCons (dCon (.int 0)) dNil))) (dCons (dOp pMul (dCons (dCon (.int 2)) (dCons (dOp pIx (dCons (dLoc 0) (dCons (dCon (.int 1)) dNil))) dNil))) dNil))))) (sSeq2 sNone
  sSkip) sSkip)
  sSkip)
def F_check_share : List D → Option R := runF 1 1 d_check_share
def d_is_between : TSD := (sSeq2 (sRet (dAnd (dCall F_is_whole (dCons (dLoc 0) dNil)) (dAnd (dOp pLe (dCons (dLoc 1) (dCons (dLoc 0) dNil))) (dOp pLe (dCons (dLoc 0) (dCons (dLoc 2) dNil))))))
  sSkip)
def F_is_between : List D → Option R := runF 3 3 d_is_between
def d_check_row : TSD := (sSeq2 (sIf (bOr (bNot (bTru (dOp (pIsi "tuple") (dCons (dLoc 1) dNil)))) (bVal (dOp pNe (dCons (dOp pLen (dCons (dLoc 1) dNil)) (dCons (dLoc 0) dNil))))) (sSeq2 sNone
  sSkip) sSkip)
  (sSeq2 (sFor (sEnumA (dLoc 1)) (gTupD 2 (gsCons (tName 2) (gsCons (tName 3) gsNil))) (sSeq2 (sIf (bNot (bTru (dCall F_is_fraction (dCons (dLoc 3) dNil)))) (sSeq2 sNone
  sSkip) sSkip)
  sSkip))
  sSkip))
def F_check_row : List D → Option R := runF 2 4 d_check_row
def d_unknowns : TSD := (sSeq2 (sRet (dOp pLen (dCons (dOp pIx (dCons (dOp pIx (dCons (dLoc 0) (dCons (dCon (.int 0)) dNil))) (dCons (dCon (.int 0)) dNil))) dNil)))
  sSkip)
def F_unknowns : List D → Option R := runF 1 1 d_unknowns
def d_wall_step : TSD := (sSeq2 (sExp (dCall F_check_walls (dCons (dLoc 0) dNil)))
  (sSeq2 (sIf (bNot (bTru (dCall F_is_between (dCons (dLoc 1) (dCons (dCon (.int 0)) (dCons (dOp pSub (dCons (dOp pLen (dCons (dLoc 0) dNil)) (dCons (dCon (.int 1)) dNil))) dNil)))))) (sSeq2 sNone
  sSkip) sSkip)
  (sSeq2 (sExp (dCall F_check_share (dCons (dLoc 2) dNil)))
  (sSeq2 (sExp (dCall F_check_row (dCons (dCall F_unknowns (dCons (dLoc 0) dNil)) (dCons (dLoc 3) dNil))))
  (sSeq2 (sRet (dCall F_moved (dCons (dOp pIx (dCons (dLoc 0) (dCons (dLoc 1) dNil))) (dCons (dLoc 2) (dCons (dLoc 3) dNil)))))
  sSkip)))))
def F_wall_step : List D → Option R := runF 4 4 d_wall_step
end
/-! ### the pot of these laws -/
def VQ (b : Nat) (xs : List D) : Prop := ∃ a s c : Int, xs = [.int a, .int s, .int c] ∧ 0 ≤ a ∧ 0 ≤ s ∧ s < 2147483629 ∧ 0 ≤ c ∧ c + b ≤ 1048576
theorem VQ.less {b c : Nat} {xs : List D} (h : VQ b xs) (l : c ≤ b) : VQ c xs := by
  obtain ⟨a, s, k, e, h1, h2, h3, h4, h5⟩ := h
  exact ⟨a, s, k, e, h1, h2, h3, h4, by omega⟩
theorem draw_spec {b : Nat} {xs : List D} {m : Int} (h : VQ (b + 1) xs) (h1 : 1 ≤ m) (h2 : m < 2 ^ 40) : ∃ i xs', F__law_draw xs [.int m] = some (.v (.int i), xs') ∧ 0 ≤ i ∧ i < m ∧ VQ b xs' := by
  obtain ⟨a, s, c, rfl, ha, hs, hs2, hc, hb⟩ := h
  by_cases z : 0 < a
  · have hp : Builtin.divisionGoesByPylong a m = false := pylong_no (n := 40) (Bd.nat (by omega) h2) (by decide)
    refine ⟨a % m, [.int (a / m), .int s, .int c], ?_, Int.emod_nonneg _ (by omega), Int.emod_lt_of_pos _ (by omega), a / m, s, c, rfl, Int.ediv_nonneg (by omega) (by omega), hs, hs2, hc, by omega⟩
    simp [F__law_draw, d__law_draw, dLoc, dCon, dNil, dCons, dOp, dTup, dLst, looks, look, frz, dCall, dCallV, dCallK, reord, sSeq2, sSkip, sExp, sRet, sRetN, sIf, sAsg, sAsgT, bVal, bTru, bNot, bAnd, bOr, bYes, dAnd, dOr, dNot, dIf, tName, gsNil, gsCons, gTupD, Dn.tSub, Dn.valOf, asB, ownAt, asI, isPin, sl, dCut, iOf, iNo, fin, endV, runP, runF, runV, runW, startR, startV, dEmp, dChain, res, truR, Dn.tru, itemsOf, sNone, sSeq, sRg1, sRg2, sZip, sEnum, sFor, dApp, dPop, sBrk, sCnt, isNone, atI0, atI1, atI2, ixN3_0, ixN3_1, ixN3_2, ixN2_0, ixN2_1, noPins, e_add, e_addT, e_addL, e_sub, e_mul, e_mulL, e_mulT, e_div, e_mod, e_neg, e_eqI, e_neI, e_eqB, e_eqT, e_eqL, e_neT, e_neL, e_cmp, e_is, e_isnot, e_ixL, e_ixT, e_lenL, e_lenT, e_tupL, e_tupT, e_lstL, e_lstT, e_int, e_intB, e_abs, e_sum, e_divmod, e_gcd, e_max, e_min, e_isi, e_cutL, e_cutT, z, show 0 < m by omega, hp]
  · have za : a = 0 := by omega
    subst za
    have m1 : mulOk s 44021 = true := mul_ok (n := 31) (m := 16) (Bd.nat hs (by omega)) (Bd.nat (by decide) (by decide)) (by decide)
    have m2 : mulOk (c + 1) 60029 = true := mul_ok (n := 21) (m := 16) (Bd.nat (by omega) (by omega)) (Bd.nat (by decide) (by decide)) (by decide)
    have f0 : ∀ x : Int, x.fmod 2147483629 = x % 2147483629 := fun x => Int.fmod_eq_emod_of_nonneg _ (by decide)
    have f4 : ∀ x : Int, x.fmod 2147483587 = x % 2147483587 := fun x => Int.fmod_eq_emod_of_nonneg _ (by decide)
    have f1 : ∀ x : Int, x.fdiv 29 = x / 29 := fun x => Int.fdiv_eq_ediv_of_nonneg _ (by decide)
    have f2 : ∀ x : Int, x.fdiv 139 = x / 139 := fun x => Int.fdiv_eq_ediv_of_nonneg _ (by decide)
    have f3 : ∀ x : Int, x.fmod m = x % m := fun x => Int.fmod_eq_emod_of_nonneg _ (by omega)
    have d1 : ∀ x : Int, divOk x 29 = true := fun x => div_ok (n := 5) (Bd.nat (by decide) (by decide)) (by decide) (by decide)
    have d2 : ∀ x : Int, divOk x 139 = true := fun x => div_ok (n := 8) (Bd.nat (by decide) (by decide)) (by decide) (by decide)
    generalize hl : (s * 44021 + (c + 1) * 60029 + 23) % 2147483629 = l
    have l0 : 0 ≤ l := by rw [← hl]; exact Int.emod_nonneg _ (by decide)
    have l1 : l < 2147483629 := by rw [← hl]; exact Int.emod_lt_of_pos _ (by decide)
    have q0 : 0 ≤ l / 29 := by omega
    have m3 : mulOk 3 (l / 29) = true := mul_ok (n := 2) (m := 31) (Bd.nat (by decide) (by decide)) (Bd.nat q0 (by omega)) (by decide)
    have m4 : mulOk l (3 * (l / 29) + 20021) = true := mul_ok (n := 31) (m := 33) (Bd.nat l0 (by omega)) (Bd.nat (by omega) (by omega)) (by decide)
    generalize ht : (l * (3 * (l / 29) + 20021) + (c + 1)) % 2147483587 = t
    have t0 : 0 ≤ t := by rw [← ht]; exact Int.emod_nonneg _ (by decide)
    have t1 : t < 2147483587 := by rw [← ht]; exact Int.emod_lt_of_pos _ (by decide)
    refine ⟨t / 139 % m, [.int 0, .int t, .int (c + 1)], ?_, Int.emod_nonneg _ (by omega), Int.emod_lt_of_pos _ (by omega), 0, t, c + 1, rfl, by omega, t0, by omega, by omega, by omega⟩
    simp [F__law_draw, d__law_draw, dLoc, dCon, dNil, dCons, dOp, dTup, dLst, looks, look, frz, dCall, dCallV, dCallK, reord, sSeq2, sSkip, sExp, sRet, sRetN, sIf, sAsg, sAsgT, bVal, bTru, bNot, bAnd, bOr, bYes, dAnd, dOr, dNot, dIf, tName, gsNil, gsCons, gTupD, Dn.tSub, Dn.valOf, asB, ownAt, asI, isPin, sl, dCut, iOf, iNo, fin, endV, runP, runF, runV, runW, startR, startV, dEmp, dChain, res, truR, Dn.tru, itemsOf, sNone, sSeq, sRg1, sRg2, sZip, sEnum, sFor, dApp, dPop, sBrk, sCnt, isNone, atI0, atI1, atI2, ixN3_0, ixN3_1, ixN3_2, ixN2_0, ixN2_1, noPins, e_add, e_addT, e_addL, e_sub, e_mul, e_mulL, e_mulT, e_div, e_mod, e_neg, e_eqI, e_neI, e_eqB, e_eqT, e_eqL, e_neT, e_neL, e_cmp, e_is, e_isnot, e_ixL, e_ixT, e_lenL, e_lenT, e_tupL, e_tupT, e_lstL, e_lstT, e_int, e_intB, e_abs, e_sum, e_divmod, e_gcd, e_max, e_min, e_isi, e_cutL, e_cutT, m1, m2, f0, f1, f2, f3, f4, d1, d2, hl, m3, m4, ht, show m ≠ 0 by omega]
theorem pick_T {b : Nat} {xs ds : List D} (h : VQ (b + 1) xs) (h0 : ds ≠ []) (h1 : ds.length < 1000) : ∃ d xs', F__law_pick xs [.tuple ds] = some (.v d, xs') ∧ d ∈ ds ∧ VQ b xs' := by
  have lp : 0 < ds.length := List.length_pos_iff.mpr h0
  obtain ⟨i, xs', e, i0, i1, v⟩ := draw_spec (m := ds.length) h (by omega) (by omega)
  have hi : i.toNat < ds.length := by omega
  have ei : i = (i.toNat : Int) := by omega
  have ea : atI ds i = some ds[i.toNat] := by rw [atI_at ei, List.getElem?_eq_getElem hi]
  exact ⟨ds[i.toNat], xs', by simp [F__law_pick, d__law_pick, dLoc, dCon, dNil, dCons, dOp, dTup, dLst, looks, look, frz, dCall, dCallV, dCallK, reord, sSeq2, sSkip, sExp, sRet, sRetN, sIf, sAsg, sAsgT, bVal, bTru, bNot, bAnd, bOr, bYes, dAnd, dOr, dNot, dIf, tName, gsNil, gsCons, gTupD, Dn.tSub, Dn.valOf, asB, ownAt, asI, isPin, sl, dCut, iOf, iNo, fin, endV, runP, runF, runV, runW, startR, startV, dEmp, dChain, res, truR, Dn.tru, itemsOf, sNone, sSeq, sRg1, sRg2, sZip, sEnum, sFor, dApp, dPop, sBrk, sCnt, isNone, atI0, atI1, atI2, ixN3_0, ixN3_1, ixN3_2, ixN2_0, ixN2_1, noPins, e_add, e_addT, e_addL, e_sub, e_mul, e_mulL, e_mulT, e_div, e_mod, e_neg, e_eqI, e_neI, e_eqB, e_eqT, e_eqL, e_neT, e_neL, e_cmp, e_is, e_isnot, e_ixL, e_ixT, e_lenL, e_lenT, e_tupL, e_tupT, e_lstL, e_lstT, e_int, e_intB, e_abs, e_sum, e_divmod, e_gcd, e_max, e_min, e_isi, e_cutL, e_cutT, e, ea], List.getElem_mem _, v⟩
theorem pick_L {b : Nat} {xs ds : List D} (h : VQ (b + 1) xs) (h0 : ds ≠ []) (h1 : ds.length < 1000) : ∃ d xs', F__law_pick xs [.list ds] = some (.v d, xs') ∧ d ∈ ds ∧ VQ b xs' := by
  have lp : 0 < ds.length := List.length_pos_iff.mpr h0
  obtain ⟨i, xs', e, i0, i1, v⟩ := draw_spec (m := ds.length) h (by omega) (by omega)
  have hi : i.toNat < ds.length := by omega
  have ei : i = (i.toNat : Int) := by omega
  have ea : atI ds i = some ds[i.toNat] := by rw [atI_at ei, List.getElem?_eq_getElem hi]
  exact ⟨ds[i.toNat], xs', by simp [F__law_pick, d__law_pick, dLoc, dCon, dNil, dCons, dOp, dTup, dLst, looks, look, frz, dCall, dCallV, dCallK, reord, sSeq2, sSkip, sExp, sRet, sRetN, sIf, sAsg, sAsgT, bVal, bTru, bNot, bAnd, bOr, bYes, dAnd, dOr, dNot, dIf, tName, gsNil, gsCons, gTupD, Dn.tSub, Dn.valOf, asB, ownAt, asI, isPin, sl, dCut, iOf, iNo, fin, endV, runP, runF, runV, runW, startR, startV, dEmp, dChain, res, truR, Dn.tru, itemsOf, sNone, sSeq, sRg1, sRg2, sZip, sEnum, sFor, dApp, dPop, sBrk, sCnt, isNone, atI0, atI1, atI2, ixN3_0, ixN3_1, ixN3_2, ixN2_0, ixN2_1, noPins, e_add, e_addT, e_addL, e_sub, e_mul, e_mulL, e_mulT, e_div, e_mod, e_neg, e_eqI, e_neI, e_eqB, e_eqT, e_eqL, e_neT, e_neL, e_cmp, e_is, e_isnot, e_ixL, e_ixT, e_lenL, e_lenT, e_tupL, e_tupT, e_lstL, e_lstT, e_int, e_intB, e_abs, e_sum, e_divmod, e_gcd, e_max, e_min, e_isi, e_cutL, e_cutT, e, ea], List.getElem_mem _, v⟩

/-! ### fractions -/
theorem ratio_q {d : Nat} {a b : Int} (h : b ≠ 0) (hb : Bd d b) (hd : d ≤ 9000) : F__law_ratio [.int a, .int b] = some (.v (enc (Rat.divInt a b))) := by
  have key : ∃ ρ', sWhile (bVal (dOp pGt (dCons (dLoc 3) (dCons (dCon (.int 0)) dNil)))) (sSeq2 (sAsgT (dCons (dLoc 3) (dCons (dOp pMod (dCons (dOp pInt (dCons (dLoc 2) dNil)) (dCons (dLoc 3) dNil))) dNil)) 2 (gsCons (tName 2) (gsCons (tName 3) gsNil))) sSkip)
      [some (.val (.int a)), some (.val (.int b)), some (.val (.int (a.natAbs : Int))), some (.val (.int (b.natAbs : Int)))] = some (.nx ρ') ∧ ∃ z, ρ' = [some (.val (.int a)), some (.val (.int b)), some (.val (.int (Nat.gcd a.natAbs b.natAbs : Nat))), some (.val (.int z))] := by
    refine sWhile_inv b.natAbs (fun m ρ => ∃ x y : Nat, m = y ∧ ρ = [some (.val (.int a)), some (.val (.int b)), some (.val (.int (x : Int))), some (.val (.int (y : Int)))] ∧ Nat.gcd x y = Nat.gcd a.natAbs b.natAbs) _ ?_ ⟨a.natAbs, b.natAbs, rfl, rfl, rfl⟩
    rintro m ρ ⟨x, y, rfl, rfl, hg⟩
    by_cases hy : m = 0
    · subst hy
      refine .inl ⟨[some (.val (.int a)), some (.val (.int b)), some (.val (.int (x : Int))), some (.val (.int 0))], by simp [dLoc, dCon, dNil, dCons, dOp, dTup, dLst, looks, look, frz, dCall, dCallV, dCallK, reord, sSeq2, sSkip, sExp, sRet, sRetN, sIf, sAsg, sAsgT, bVal, bTru, bNot, bAnd, bOr, bYes, dAnd, dOr, dNot, dIf, tName, gsNil, gsCons, gTupD, Dn.tSub, Dn.valOf, asB, ownAt, asI, isPin, sl, dCut, iOf, iNo, fin, endV, runP, runF, runV, runW, startR, startV, dEmp, dChain, res, truR, Dn.tru, itemsOf, sNone, sSeq, sRg1, sRg2, sZip, sEnum, sFor, dApp, dPop, sBrk, sCnt, isNone, atI0, atI1, atI2, ixN3_0, ixN3_1, ixN3_2, ixN2_0, ixN2_1, noPins, e_add, e_addT, e_addL, e_sub, e_mul, e_mulL, e_mulT, e_div, e_mod, e_neg, e_eqI, e_neI, e_eqB, e_eqT, e_eqL, e_neT, e_neL, e_cmp, e_is, e_isnot, e_ixL, e_ixT, e_lenL, e_lenT, e_tupL, e_tupT, e_lstL, e_lstT, e_int, e_intB, e_abs, e_sum, e_divmod, e_gcd, e_max, e_min, e_isi, e_cutL, e_cutT], 0, ?_⟩
      rw [← hg, Nat.gcd_zero_right]
    · refine .inr ⟨_, [some (.val (.int a)), some (.val (.int b)), some (.val (.int (m : Int))), some (.val (.int ((x % m : Nat) : Int)))], x % m, by simp [dLoc, dCon, dNil, dCons, dOp, dTup, dLst, looks, look, frz, dCall, dCallV, dCallK, reord, sSeq2, sSkip, sExp, sRet, sRetN, sIf, sAsg, sAsgT, bVal, bTru, bNot, bAnd, bOr, bYes, dAnd, dOr, dNot, dIf, tName, gsNil, gsCons, gTupD, Dn.tSub, Dn.valOf, asB, ownAt, asI, isPin, sl, dCut, iOf, iNo, fin, endV, runP, runF, runV, runW, startR, startV, dEmp, dChain, res, truR, Dn.tru, itemsOf, sNone, sSeq, sRg1, sRg2, sZip, sEnum, sFor, dApp, dPop, sBrk, sCnt, isNone, atI0, atI1, atI2, ixN3_0, ixN3_1, ixN3_2, ixN2_0, ixN2_1, noPins, e_add, e_addT, e_addL, e_sub, e_mul, e_mulL, e_mulT, e_div, e_mod, e_neg, e_eqI, e_neI, e_eqB, e_eqT, e_eqL, e_neT, e_neL, e_cmp, e_is, e_isnot, e_ixL, e_ixT, e_lenL, e_lenT, e_tupL, e_tupT, e_lstL, e_lstT, e_int, e_intB, e_abs, e_sum, e_divmod, e_gcd, e_max, e_min, e_isi, e_cutL, e_cutT, show 0 < m by omega]; rfl, ?_, Nat.mod_lt _ (by omega), m, x % m, rfl, rfl, ?_⟩
      · have f : ((x : Int)).fmod (m : Int) = ((x % m : Nat) : Int) := by rw [Int.fmod_eq_emod_of_nonneg _ (by omega)]; rfl
        simp [dLoc, dCon, dNil, dCons, dOp, dTup, dLst, looks, look, frz, dCall, dCallV, dCallK, reord, sSeq2, sSkip, sExp, sRet, sRetN, sIf, sAsg, sAsgT, bVal, bTru, bNot, bAnd, bOr, bYes, dAnd, dOr, dNot, dIf, tName, gsNil, gsCons, gTupD, Dn.tSub, Dn.valOf, asB, ownAt, asI, isPin, sl, dCut, iOf, iNo, fin, endV, runP, runF, runV, runW, startR, startV, dEmp, dChain, res, truR, Dn.tru, itemsOf, sNone, sSeq, sRg1, sRg2, sZip, sEnum, sFor, dApp, dPop, sBrk, sCnt, isNone, atI0, atI1, atI2, ixN3_0, ixN3_1, ixN3_2, ixN2_0, ixN2_1, noPins, e_add, e_addT, e_addL, e_sub, e_mul, e_mulL, e_mulT, e_div, e_mod, e_neg, e_eqI, e_neI, e_eqB, e_eqT, e_eqL, e_neT, e_neL, e_cmp, e_is, e_isnot, e_ixL, e_ixT, e_lenL, e_lenT, e_tupL, e_tupT, e_lstL, e_lstT, e_int, e_intB, e_abs, e_sum, e_divmod, e_gcd, e_max, e_min, e_isi, e_cutL, e_cutT, hy, f]
      · rw [← hg, Nat.gcd_comm x m, Nat.gcd_rec m x, Nat.gcd_comm]
  obtain ⟨ρ', e, z, rfl⟩ := key
  have h1 : (if a < 0 then -a else a) = (a.natAbs : Int) := by split <;> omega
  have h2 : (if b < 0 then -b else b) = (b.natAbs : Int) := by split <;> omega
  have lp := low_pair (a := a) (b := b) h rfl
  have gp : (0 : Int) < (Nat.gcd a.natAbs b.natAbs : Nat) := by have := Nat.gcd_pos_of_pos_right (n := b.natAbs) a.natAbs (by omega); omega
  have gb : Bd d ((Nat.gcd a.natAbs b.natAbs : Nat) : Int) := hb.le (by have := Nat.gcd_le_right (n := b.natAbs) a.natAbs (by omega); simpa using this)
  have d1 : ∀ x : Int, divOk x ((Nat.gcd a.natAbs b.natAbs : Nat) : Int) = true := fun x => div_ok gb hd (by omega)
  have d2 : ∀ x : Int, divOk x (-((Nat.gcd a.natAbs b.natAbs : Nat) : Int)) = true := fun x => div_ok gb.neg hd (by omega)
  by_cases q : 0 < b
  · rw [if_pos q] at lp
    simp [F__law_ratio, d__law_ratio, dLoc, dCon, dNil, dCons, dOp, dTup, dLst, looks, look, frz, dCall, dCallV, dCallK, reord, sSeq2, sSkip, sExp, sRet, sRetN, sIf, sAsg, sAsgT, bVal, bTru, bNot, bAnd, bOr, bYes, dAnd, dOr, dNot, dIf, tName, gsNil, gsCons, gTupD, Dn.tSub, Dn.valOf, asB, ownAt, asI, isPin, sl, dCut, iOf, iNo, fin, endV, runP, runF, runV, runW, startR, startV, dEmp, dChain, res, truR, Dn.tru, itemsOf, sNone, sSeq, sRg1, sRg2, sZip, sEnum, sFor, dApp, dPop, sBrk, sCnt, isNone, atI0, atI1, atI2, ixN3_0, ixN3_1, ixN3_2, ixN2_0, ixN2_1, noPins, e_add, e_addT, e_addL, e_sub, e_mul, e_mulL, e_mulT, e_div, e_mod, e_neg, e_eqI, e_neI, e_eqB, e_eqT, e_eqL, e_neT, e_neL, e_cmp, e_is, e_isnot, e_ixL, e_ixT, e_lenL, e_lenT, e_tupL, e_tupT, e_lstL, e_lstT, e_int, e_intB, e_abs, e_sum, e_divmod, e_gcd, e_max, e_min, e_isi, e_cutL, e_cutT, h1, h2] at e ⊢
    simp [e, q, dLoc, dCon, dNil, dCons, dOp, dTup, dLst, looks, look, frz, dCall, dCallV, dCallK, reord, sSeq2, sSkip, sExp, sRet, sRetN, sIf, sAsg, sAsgT, bVal, bTru, bNot, bAnd, bOr, bYes, dAnd, dOr, dNot, dIf, tName, gsNil, gsCons, gTupD, Dn.tSub, Dn.valOf, asB, ownAt, asI, isPin, sl, dCut, iOf, iNo, fin, endV, runP, runF, runV, runW, startR, startV, dEmp, dChain, res, truR, Dn.tru, itemsOf, sNone, sSeq, sRg1, sRg2, sZip, sEnum, sFor, dApp, dPop, sBrk, sCnt, isNone, atI0, atI1, atI2, ixN3_0, ixN3_1, ixN3_2, ixN2_0, ixN2_1, noPins, e_add, e_addT, e_addL, e_sub, e_mul, e_mulL, e_mulT, e_div, e_mod, e_neg, e_eqI, e_neI, e_eqB, e_eqT, e_eqL, e_neT, e_neL, e_cmp, e_is, e_isnot, e_ixL, e_ixT, e_lenL, e_lenT, e_tupL, e_tupT, e_lstL, e_lstT, e_int, e_intB, e_abs, e_sum, e_divmod, e_gcd, e_max, e_min, e_isi, e_cutL, e_cutT, d1, lp.1, lp.2, enc]
  · rw [if_neg q] at lp
    simp [F__law_ratio, d__law_ratio, dLoc, dCon, dNil, dCons, dOp, dTup, dLst, looks, look, frz, dCall, dCallV, dCallK, reord, sSeq2, sSkip, sExp, sRet, sRetN, sIf, sAsg, sAsgT, bVal, bTru, bNot, bAnd, bOr, bYes, dAnd, dOr, dNot, dIf, tName, gsNil, gsCons, gTupD, Dn.tSub, Dn.valOf, asB, ownAt, asI, isPin, sl, dCut, iOf, iNo, fin, endV, runP, runF, runV, runW, startR, startV, dEmp, dChain, res, truR, Dn.tru, itemsOf, sNone, sSeq, sRg1, sRg2, sZip, sEnum, sFor, dApp, dPop, sBrk, sCnt, isNone, atI0, atI1, atI2, ixN3_0, ixN3_1, ixN3_2, ixN2_0, ixN2_1, noPins, e_add, e_addT, e_addL, e_sub, e_mul, e_mulL, e_mulT, e_div, e_mod, e_neg, e_eqI, e_neI, e_eqB, e_eqT, e_eqL, e_neT, e_neL, e_cmp, e_is, e_isnot, e_ixL, e_ixT, e_lenL, e_lenT, e_tupL, e_tupT, e_lstL, e_lstT, e_int, e_intB, e_abs, e_sum, e_divmod, e_gcd, e_max, e_min, e_isi, e_cutL, e_cutT, h1, h2] at e ⊢
    simp [e, q, dLoc, dCon, dNil, dCons, dOp, dTup, dLst, looks, look, frz, dCall, dCallV, dCallK, reord, sSeq2, sSkip, sExp, sRet, sRetN, sIf, sAsg, sAsgT, bVal, bTru, bNot, bAnd, bOr, bYes, dAnd, dOr, dNot, dIf, tName, gsNil, gsCons, gTupD, Dn.tSub, Dn.valOf, asB, ownAt, asI, isPin, sl, dCut, iOf, iNo, fin, endV, runP, runF, runV, runW, startR, startV, dEmp, dChain, res, truR, Dn.tru, itemsOf, sNone, sSeq, sRg1, sRg2, sZip, sEnum, sFor, dApp, dPop, sBrk, sCnt, isNone, atI0, atI1, atI2, ixN3_0, ixN3_1, ixN3_2, ixN2_0, ixN2_1, noPins, e_add, e_addT, e_addL, e_sub, e_mul, e_mulL, e_mulT, e_div, e_mod, e_neg, e_eqI, e_neI, e_eqB, e_eqT, e_eqL, e_neT, e_neL, e_cmp, e_is, e_isnot, e_ixL, e_ixT, e_lenL, e_lenT, e_tupL, e_tupT, e_lstL, e_lstT, e_int, e_intB, e_abs, e_sum, e_divmod, e_gcd, e_max, e_min, e_isi, e_cutL, e_cutT, d2, lp.1, lp.2, enc]
theorem sub_divInt (r s : Rat) : r - s = Rat.divInt (r.num * s.den - s.num * r.den) (r.den * s.den) := by
  have := Rat.divInt_sub_divInt r.num s.num (den_ne (r := r)) (den_ne (r := s))
  rw [Rat.num_divInt_den, Rat.num_divInt_den] at this
  exact this
theorem div_divInt (r s : Rat) : r / s = Rat.divInt (r.num * s.den) (r.den * s.num) := by
  have := @Rat.divInt_mul_divInt r.num s.den r.den s.num
  rw [Rat.num_divInt_den, ← Rat.inv_def, ← Rat.div_def] at this
  exact this
section
variable {n d m e : Nat} {r s : Rat}
theorem plus_q (hr : RB n d r) (hs : RB m e s) (h1 : n + e ≤ 90000) (h2 : m + d ≤ 90000) (h3 : d + e ≤ 9000) : F__law_plus [enc r, enc s] = some (.v (enc (r + s))) := by
  have m1 : mulOk r.num s.den = true := mul_ok hr.num hs.den (by omega)
  have m2 : mulOk s.num r.den = true := mul_ok hs.num hr.den (by omega)
  have m3 : mulOk r.den s.den = true := mul_ok hr.den hs.den (by omega)
  have f := ratio_q (a := r.num * s.den + s.num * r.den) (den_mul_ne r s) (hr.den.mul hs.den) h3
  rw [← add_divInt] at f
  simp only [enc] at f ⊢
  simp [F__law_plus, d__law_plus, dLoc, dCon, dNil, dCons, dOp, dTup, dLst, looks, look, frz, dCall, dCallV, dCallK, reord, sSeq2, sSkip, sExp, sRet, sRetN, sIf, sAsg, sAsgT, bVal, bTru, bNot, bAnd, bOr, bYes, dAnd, dOr, dNot, dIf, tName, gsNil, gsCons, gTupD, Dn.tSub, Dn.valOf, asB, ownAt, asI, isPin, sl, dCut, iOf, iNo, fin, endV, runP, runF, runV, runW, startR, startV, dEmp, dChain, res, truR, Dn.tru, itemsOf, sNone, sSeq, sRg1, sRg2, sZip, sEnum, sFor, dApp, dPop, sBrk, sCnt, isNone, atI0, atI1, atI2, ixN3_0, ixN3_1, ixN3_2, ixN2_0, ixN2_1, noPins, e_add, e_addT, e_addL, e_sub, e_mul, e_mulL, e_mulT, e_div, e_mod, e_neg, e_eqI, e_neI, e_eqB, e_eqT, e_eqL, e_neT, e_neL, e_cmp, e_is, e_isnot, e_ixL, e_ixT, e_lenL, e_lenT, e_tupL, e_tupT, e_lstL, e_lstT, e_int, e_intB, e_abs, e_sum, e_divmod, e_gcd, e_max, e_min, e_isi, e_cutL, e_cutT, m1, m2, m3, f]
theorem minus_q (hr : RB n d r) (hs : RB m e s) (h1 : n + e ≤ 90000) (h2 : m + d ≤ 90000) (h3 : d + e ≤ 9000) : F__law_minus [enc r, enc s] = some (.v (enc (r - s))) := by
  have m1 : mulOk r.num s.den = true := mul_ok hr.num hs.den (by omega)
  have m2 : mulOk s.num r.den = true := mul_ok hs.num hr.den (by omega)
  have m3 : mulOk r.den s.den = true := mul_ok hr.den hs.den (by omega)
  have f := ratio_q (a := r.num * s.den - s.num * r.den) (den_mul_ne r s) (hr.den.mul hs.den) h3
  rw [← sub_divInt] at f
  simp only [enc] at f ⊢
  simp [F__law_minus, d__law_minus, dLoc, dCon, dNil, dCons, dOp, dTup, dLst, looks, look, frz, dCall, dCallV, dCallK, reord, sSeq2, sSkip, sExp, sRet, sRetN, sIf, sAsg, sAsgT, bVal, bTru, bNot, bAnd, bOr, bYes, dAnd, dOr, dNot, dIf, tName, gsNil, gsCons, gTupD, Dn.tSub, Dn.valOf, asB, ownAt, asI, isPin, sl, dCut, iOf, iNo, fin, endV, runP, runF, runV, runW, startR, startV, dEmp, dChain, res, truR, Dn.tru, itemsOf, sNone, sSeq, sRg1, sRg2, sZip, sEnum, sFor, dApp, dPop, sBrk, sCnt, isNone, atI0, atI1, atI2, ixN3_0, ixN3_1, ixN3_2, ixN2_0, ixN2_1, noPins, e_add, e_addT, e_addL, e_sub, e_mul, e_mulL, e_mulT, e_div, e_mod, e_neg, e_eqI, e_neI, e_eqB, e_eqT, e_eqL, e_neT, e_neL, e_cmp, e_is, e_isnot, e_ixL, e_ixT, e_lenL, e_lenT, e_tupL, e_tupT, e_lstL, e_lstT, e_int, e_intB, e_abs, e_sum, e_divmod, e_gcd, e_max, e_min, e_isi, e_cutL, e_cutT, m1, m2, m3, f]
theorem by_q (hr : RB n d r) (hs : RB m e s) (h1 : n + m ≤ 90000) (h3 : d + e ≤ 9000) : F__law_by [enc r, enc s] = some (.v (enc (r * s))) := by
  have m1 : mulOk r.num s.num = true := mul_ok hr.num hs.num (by omega)
  have m3 : mulOk r.den s.den = true := mul_ok hr.den hs.den (by omega)
  have f := ratio_q (a := r.num * s.num) (den_mul_ne r s) (hr.den.mul hs.den) h3
  rw [← mul_divInt] at f
  simp only [enc] at f ⊢
  simp [F__law_by, d__law_by, dLoc, dCon, dNil, dCons, dOp, dTup, dLst, looks, look, frz, dCall, dCallV, dCallK, reord, sSeq2, sSkip, sExp, sRet, sRetN, sIf, sAsg, sAsgT, bVal, bTru, bNot, bAnd, bOr, bYes, dAnd, dOr, dNot, dIf, tName, gsNil, gsCons, gTupD, Dn.tSub, Dn.valOf, asB, ownAt, asI, isPin, sl, dCut, iOf, iNo, fin, endV, runP, runF, runV, runW, startR, startV, dEmp, dChain, res, truR, Dn.tru, itemsOf, sNone, sSeq, sRg1, sRg2, sZip, sEnum, sFor, dApp, dPop, sBrk, sCnt, isNone, atI0, atI1, atI2, ixN3_0, ixN3_1, ixN3_2, ixN2_0, ixN2_1, noPins, e_add, e_addT, e_addL, e_sub, e_mul, e_mulL, e_mulT, e_div, e_mod, e_neg, e_eqI, e_neI, e_eqB, e_eqT, e_eqL, e_neT, e_neL, e_cmp, e_is, e_isnot, e_ixL, e_ixT, e_lenL, e_lenT, e_tupL, e_tupT, e_lstL, e_lstT, e_int, e_intB, e_abs, e_sum, e_divmod, e_gcd, e_max, e_min, e_isi, e_cutL, e_cutT, m1, m3, f]
theorem over_q (h0 : s ≠ 0) (hr : RB n d r) (hs : RB m e s) (h1 : n + e ≤ 90000) (h3 : d + m ≤ 9000) : F__law_over [enc r, enc s] = some (.v (enc (r / s))) := by
  have m1 : mulOk r.num s.den = true := mul_ok hr.num hs.den (by omega)
  have m3 : mulOk r.den s.num = true := mul_ok hr.den hs.num (by omega)
  have nz : (r.den : Int) * s.num ≠ 0 := Int.mul_ne_zero den_ne fun z => h0 (Rat.num_eq_zero.mp z)
  have f := ratio_q (a := r.num * s.den) nz (hr.den.mul hs.num) h3
  rw [← div_divInt] at f
  simp only [enc] at f ⊢
  simp [F__law_over, d__law_over, dLoc, dCon, dNil, dCons, dOp, dTup, dLst, looks, look, frz, dCall, dCallV, dCallK, reord, sSeq2, sSkip, sExp, sRet, sRetN, sIf, sAsg, sAsgT, bVal, bTru, bNot, bAnd, bOr, bYes, dAnd, dOr, dNot, dIf, tName, gsNil, gsCons, gTupD, Dn.tSub, Dn.valOf, asB, ownAt, asI, isPin, sl, dCut, iOf, iNo, fin, endV, runP, runF, runV, runW, startR, startV, dEmp, dChain, res, truR, Dn.tru, itemsOf, sNone, sSeq, sRg1, sRg2, sZip, sEnum, sFor, dApp, dPop, sBrk, sCnt, isNone, atI0, atI1, atI2, ixN3_0, ixN3_1, ixN3_2, ixN2_0, ixN2_1, noPins, e_add, e_addT, e_addL, e_sub, e_mul, e_mulL, e_mulT, e_div, e_mod, e_neg, e_eqI, e_neI, e_eqB, e_eqT, e_eqL, e_neT, e_neL, e_cmp, e_is, e_isnot, e_ixL, e_ixT, e_lenL, e_lenT, e_tupL, e_tupT, e_lstL, e_lstT, e_int, e_intB, e_abs, e_sum, e_divmod, e_gcd, e_max, e_min, e_isi, e_cutL, e_cutT, m1, m3, f]
theorem below_q (hr : RB n d r) (hs : RB m e s) (h1 : n + e ≤ 90000) (h2 : m + d ≤ 90000) : F__law_below [enc r, enc s] = some (.v (.bool (decide (r < s)))) := by
  have m1 : mulOk r.num s.den = true := mul_ok hr.num hs.den (by omega)
  have m2 : mulOk s.num r.den = true := mul_ok hs.num hr.den (by omega)
  have e : decide (r.num * (s.den : Int) < s.num * (r.den : Int)) = decide (r < s) := by simp only [Rat.lt_iff]
  simp only [enc]
  simp [F__law_below, d__law_below, dLoc, dCon, dNil, dCons, dOp, dTup, dLst, looks, look, frz, dCall, dCallV, dCallK, reord, sSeq2, sSkip, sExp, sRet, sRetN, sIf, sAsg, sAsgT, bVal, bTru, bNot, bAnd, bOr, bYes, dAnd, dOr, dNot, dIf, tName, gsNil, gsCons, gTupD, Dn.tSub, Dn.valOf, asB, ownAt, asI, isPin, sl, dCut, iOf, iNo, fin, endV, runP, runF, runV, runW, startR, startV, dEmp, dChain, res, truR, Dn.tru, itemsOf, sNone, sSeq, sRg1, sRg2, sZip, sEnum, sFor, dApp, dPop, sBrk, sCnt, isNone, atI0, atI1, atI2, ixN3_0, ixN3_1, ixN3_2, ixN2_0, ixN2_1, noPins, e_add, e_addT, e_addL, e_sub, e_mul, e_mulL, e_mulT, e_div, e_mod, e_neg, e_eqI, e_neI, e_eqB, e_eqT, e_eqL, e_neT, e_neL, e_cmp, e_is, e_isnot, e_ixL, e_ixT, e_lenL, e_lenT, e_tupL, e_tupT, e_lstL, e_lstT, e_int, e_intB, e_abs, e_sum, e_divmod, e_gcd, e_max, e_min, e_isi, e_cutL, e_cutT, m1, m2, e]
theorem minus_p (hr : RB n d r) (hs : RB m e s) (h1 : n + e ≤ 90000) (h2 : m + d ≤ 90000) (h3 : d + e ≤ 9000) : F_minus [enc r, enc s] = some (.v (enc (r - s))) := by
  have m1 : mulOk r.num s.den = true := mul_ok hr.num hs.den (by omega)
  have m2 : mulOk s.num r.den = true := mul_ok hs.num hr.den (by omega)
  have m3 : mulOk r.den s.den = true := mul_ok hr.den hs.den (by omega)
  have f := ratio_spec (a := r.num * s.den - s.num * r.den) (den_mul_ne r s) (((hr.num.mul hs.den).up (Nat.le_max_left _ _)).sub ((hs.num.mul hr.den).up (Nat.le_max_right _ _))) (hr.den.mul hs.den) (by omega) h3
  rw [← sub_divInt] at f
  simp only [enc] at f ⊢
  simp [F_minus, d_minus, dLoc, dCon, dNil, dCons, dOp, dTup, dLst, looks, look, frz, dCall, dCallV, dCallK, reord, sSeq2, sSkip, sExp, sRet, sRetN, sIf, sAsg, sAsgT, bVal, bTru, bNot, bAnd, bOr, bYes, dAnd, dOr, dNot, dIf, tName, gsNil, gsCons, gTupD, Dn.tSub, Dn.valOf, asB, ownAt, asI, isPin, sl, dCut, iOf, iNo, fin, endV, runP, runF, runV, runW, startR, startV, dEmp, dChain, res, truR, Dn.tru, itemsOf, sNone, sSeq, sRg1, sRg2, sZip, sEnum, sFor, dApp, dPop, sBrk, sCnt, isNone, atI0, atI1, atI2, ixN3_0, ixN3_1, ixN3_2, ixN2_0, ixN2_1, noPins, e_add, e_addT, e_addL, e_sub, e_mul, e_mulL, e_mulT, e_div, e_mod, e_neg, e_eqI, e_neI, e_eqB, e_eqT, e_eqL, e_neT, e_neL, e_cmp, e_is, e_isnot, e_ixL, e_ixT, e_lenL, e_lenT, e_tupL, e_tupT, e_lstL, e_lstT, e_int, e_intB, e_abs, e_sum, e_divmod, e_gcd, e_max, e_min, e_isi, e_cutL, e_cutT, m1, m2, m3, f]
theorem divided_p (h0 : s ≠ 0) (hr : RB n d r) (hs : RB m e s) (h1 : n + e ≤ 90000) (h3 : d + m ≤ 9000) : F_divided [enc r, enc s] = some (.v (enc (r / s))) := by
  have m1 : mulOk r.num s.den = true := mul_ok hr.num hs.den (by omega)
  have m3 : mulOk r.den s.num = true := mul_ok hr.den hs.num (by omega)
  have nz : (r.den : Int) * s.num ≠ 0 := Int.mul_ne_zero den_ne fun z => h0 (Rat.num_eq_zero.mp z)
  have f := ratio_spec (a := r.num * s.den) nz (hr.num.mul hs.den) (hr.den.mul hs.num) (by omega) h3
  rw [← div_divInt] at f
  simp only [enc] at f ⊢
  simp [F_divided, d_divided, dLoc, dCon, dNil, dCons, dOp, dTup, dLst, looks, look, frz, dCall, dCallV, dCallK, reord, sSeq2, sSkip, sExp, sRet, sRetN, sIf, sAsg, sAsgT, bVal, bTru, bNot, bAnd, bOr, bYes, dAnd, dOr, dNot, dIf, tName, gsNil, gsCons, gTupD, Dn.tSub, Dn.valOf, asB, ownAt, asI, isPin, sl, dCut, iOf, iNo, fin, endV, runP, runF, runV, runW, startR, startV, dEmp, dChain, res, truR, Dn.tru, itemsOf, sNone, sSeq, sRg1, sRg2, sZip, sEnum, sFor, dApp, dPop, sBrk, sCnt, isNone, atI0, atI1, atI2, ixN3_0, ixN3_1, ixN3_2, ixN2_0, ixN2_1, noPins, e_add, e_addT, e_addL, e_sub, e_mul, e_mulL, e_mulT, e_div, e_mod, e_neg, e_eqI, e_neI, e_eqB, e_eqT, e_eqL, e_neT, e_neL, e_cmp, e_is, e_isnot, e_ixL, e_ixT, e_lenL, e_lenT, e_tupL, e_tupT, e_lstL, e_lstT, e_int, e_intB, e_abs, e_sum, e_divmod, e_gcd, e_max, e_min, e_isi, e_cutL, e_cutT, m1, m3, f]
end
end Pq

set_option Elab.async false
set_option linter.all false
set_option maxRecDepth 100000
set_option maxHeartbeats 4000000
namespace Pq
open PySem PySem.Spec PyProof.Rows L2 Dn Pl
/-! ### vectors -/
def addQ (g : List Rat) (p : Rat) (a : List Rat) : List Rat := List.zipWith (fun x y => x + p * y) g a
theorem addQ_len {g a : List Rat} {p : Rat} (h : g.length = a.length) : (addQ g p a).length = a.length := by simp [addQ, h]
theorem addQ_get {g a : List Rat} {p : Rat} {k : Nat} (h : g.length = a.length) (hk : k < a.length) : (addQ g p a).getD k 0 = g.getD k 0 + p * a.getD k 0 := by
  have h1 : k < g.length := by omega
  have h2 : k < (addQ g p a).length := by rw [addQ_len h]; exact hk
  simp only [List.getD_eq_getElem?_getD]
  rw [List.getElem?_eq_getElem h2, List.getElem?_eq_getElem h1, List.getElem?_eq_getElem hk]
  simp [addQ]
theorem mem_addQ {g a : List Rat} {p x : Rat} (h : x ∈ addQ g p a) : ∃ u ∈ g, ∃ v ∈ a, x = u + p * v := by
  unfold addQ at h
  rw [zipWith_zip] at h
  obtain ⟨q, hq, rfl⟩ := List.mem_map.mp h
  exact ⟨q.1, (List.of_mem_zip hq).1, q.2, (List.of_mem_zip hq).2, rfl⟩
theorem law_added_q {n d m e j i : Nat} {g a : List Rat} {p : Rat} (hl : g.length = a.length) (hk : a.length ≤ 1000) (hg : ∀ x ∈ g, RB n d x) (ha : ∀ x ∈ a, RB m e x) (hp : RB j i p) (h1 : n + d + m + e + j + i ≤ 9000) :
    F__law_added [row g, enc p, row a] = some (.v (row (addQ g p a))) := by
  have c := dComp_map (vs := [3, 4]) (src := sZip (dLoc 0) (dLoc 2)) (tgt := gTupD 2 (gsCons (tName 3) (gsCons (tName 4) gsNil))) (cond := bYes) (elt := dCall F__law_plus (dCons (dLoc 3) (dCons (dCall F__law_by (dCons (dLoc 1) (dCons (dLoc 4) dNil))) dNil))) (ρ := [some (.val (row g)), some (.val (enc p)), some (.val (row a)), none, none])
    (ρ1 := [some (.val (row g)), some (.val (enc p)), some (.val (row a)), none, none]) (l := g.zip a) (f := fun q => .tuple [enc q.1, enc q.2]) (g := fun q => some (enc (q.1 + p * q.2))) (by simp [dLoc, dCon, dNil, dCons, dOp, dTup, dLst, looks, look, frz, dCall, dCallV, dCallK, reord, sSeq2, sSkip, sExp, sRet, sRetN, sIf, sAsg, sAsgT, bVal, bTru, bNot, bAnd, bOr, bYes, dAnd, dOr, dNot, dIf, tName, gsNil, gsCons, gTupD, Dn.tSub, Dn.valOf, asB, ownAt, asI, isPin, sl, dCut, iOf, iNo, fin, endV, runP, runF, runV, runW, startR, startV, dEmp, dChain, res, truR, Dn.tru, itemsOf, sNone, sSeq, sRg1, sRg2, sZip, sEnum, sFor, dApp, dPop, sBrk, sCnt, isNone, atI0, atI1, atI2, ixN3_0, ixN3_1, ixN3_2, ixN2_0, ixN2_1, noPins, e_add, e_addT, e_addL, e_sub, e_mul, e_mulL, e_mulT, e_div, e_mod, e_neg, e_eqI, e_neI, e_eqB, e_eqT, e_eqL, e_neT, e_neL, e_cmp, e_is, e_isnot, e_ixL, e_ixT, e_lenL, e_lenT, e_tupL, e_tupT, e_lstL, e_lstT, e_int, e_intB, e_abs, e_sum, e_divmod, e_gcd, e_max, e_min, e_isi, e_cutL, e_cutT, row, zipD_map]) (by simp [dLoc, dCon, dNil, dCons, dOp, dTup, dLst, looks, look, frz, dCall, dCallV, dCallK, reord, sSeq2, sSkip, sExp, sRet, sRetN, sIf, sAsg, sAsgT, bVal, bTru, bNot, bAnd, bOr, bYes, dAnd, dOr, dNot, dIf, tName, gsNil, gsCons, gTupD, Dn.tSub, Dn.valOf, asB, ownAt, asI, isPin, sl, dCut, iOf, iNo, fin, endV, runP, runF, runV, runW, startR, startV, dEmp, dChain, res, truR, Dn.tru, itemsOf, sNone, sSeq, sRg1, sRg2, sZip, sEnum, sFor, dApp, dPop, sBrk, sCnt, isNone, atI0, atI1, atI2, ixN3_0, ixN3_1, ixN3_2, ixN2_0, ixN2_1, noPins, e_add, e_addT, e_addL, e_sub, e_mul, e_mulL, e_mulT, e_div, e_mod, e_neg, e_eqI, e_neI, e_eqB, e_eqT, e_eqL, e_neT, e_neL, e_cmp, e_is, e_isnot, e_ixL, e_ixT, e_lenL, e_lenT, e_tupL, e_tupT, e_lstL, e_lstT, e_int, e_intB, e_abs, e_sum, e_divmod, e_gcd, e_max, e_min, e_isi, e_cutL, e_cutT]) (by simp; omega) (fun q hq => by
      have t1 := hg q.1 (List.of_mem_zip hq).1
      have t2 := ha q.2 (List.of_mem_zip hq).2
      have q1 := by_q hp t2 (by omega) (by omega)
      have q2 := plus_q t1 (hp.mul t2) (by omega) (by omega) (by omega)
      simp [stepC, dLoc, dCon, dNil, dCons, dOp, dTup, dLst, looks, look, frz, dCall, dCallV, dCallK, reord, sSeq2, sSkip, sExp, sRet, sRetN, sIf, sAsg, sAsgT, bVal, bTru, bNot, bAnd, bOr, bYes, dAnd, dOr, dNot, dIf, tName, gsNil, gsCons, gTupD, Dn.tSub, Dn.valOf, asB, ownAt, asI, isPin, sl, dCut, iOf, iNo, fin, endV, runP, runF, runV, runW, startR, startV, dEmp, dChain, res, truR, Dn.tru, itemsOf, sNone, sSeq, sRg1, sRg2, sZip, sEnum, sFor, dApp, dPop, sBrk, sCnt, isNone, atI0, atI1, atI2, ixN3_0, ixN3_1, ixN3_2, ixN2_0, ixN2_1, noPins, e_add, e_addT, e_addL, e_sub, e_mul, e_mulL, e_mulT, e_div, e_mod, e_neg, e_eqI, e_neI, e_eqB, e_eqT, e_eqL, e_neT, e_neL, e_cmp, e_is, e_isnot, e_ixL, e_ixT, e_lenL, e_lenT, e_tupL, e_tupT, e_lstL, e_lstT, e_int, e_intB, e_abs, e_sum, e_divmod, e_gcd, e_max, e_min, e_isi, e_cutL, e_cutT, wipeR, q1, q2])
  have e1 : (g.zip a).filterMap (fun q => some (enc (q.1 + p * q.2))) = (addQ g p a).map enc := by
    rw [filterMap_some, addQ, zipWith_zip, List.map_map]
    rfl
  rw [e1] at c
  simp [F__law_added, d__law_added, dLoc, dCon, dNil, dCons, dOp, dTup, dLst, looks, look, frz, dCall, dCallV, dCallK, reord, sSeq2, sSkip, sExp, sRet, sRetN, sIf, sAsg, sAsgT, bVal, bTru, bNot, bAnd, bOr, bYes, dAnd, dOr, dNot, dIf, tName, gsNil, gsCons, gTupD, Dn.tSub, Dn.valOf, asB, ownAt, asI, isPin, sl, dCut, iOf, iNo, fin, endV, runP, runF, runV, runW, startR, startV, dEmp, dChain, res, truR, Dn.tru, itemsOf, sNone, sSeq, sRg1, sRg2, sZip, sEnum, sFor, dApp, dPop, sBrk, sCnt, isNone, atI0, atI1, atI2, ixN3_0, ixN3_1, ixN3_2, ixN2_0, ixN2_1, noPins, e_add, e_addT, e_addL, e_sub, e_mul, e_mulL, e_mulT, e_div, e_mod, e_neg, e_eqI, e_neI, e_eqB, e_eqT, e_eqL, e_neT, e_neL, e_cmp, e_is, e_isnot, e_ixL, e_ixT, e_lenL, e_lenT, e_tupL, e_tupT, e_lstL, e_lstT, e_int, e_intB, e_abs, e_sum, e_divmod, e_gcd, e_max, e_min, e_isi, e_cutL, e_cutT, c, wipeR, -List.map_zipWith]
  rfl
theorem row_sum_p {n d m e : Nat} {x y : List Rat} (hl : x.length = y.length) (hk : x.length ≤ 1000) (hx : ∀ r ∈ x, RB n d r) (hy : ∀ r ∈ y, RB m e r) (h1 : n + d + m + e ≤ 9000) : F_row_sum [row x, row y] = some (.v (row (List.zipWith (· + ·) x y))) := by
  have c := dComp_map (vs := [2, 3]) (src := sZip (dLoc 0) (dLoc 1)) (tgt := gTupD 2 (gsCons (tName 2) (gsCons (tName 3) gsNil))) (cond := bYes) (elt := dCall F_plus (dCons (dLoc 2) (dCons (dLoc 3) dNil))) (ρ := [some (.val (row x)), some (.val (row y)), none, none])
    (ρ1 := [some (.val (row x)), some (.val (row y)), none, none]) (l := x.zip y) (f := fun q => .tuple [enc q.1, enc q.2]) (g := fun q => some (enc (q.1 + q.2))) (by simp [dLoc, dCon, dNil, dCons, dOp, dTup, dLst, looks, look, frz, dCall, dCallV, dCallK, reord, sSeq2, sSkip, sExp, sRet, sRetN, sIf, sAsg, sAsgT, bVal, bTru, bNot, bAnd, bOr, bYes, dAnd, dOr, dNot, dIf, tName, gsNil, gsCons, gTupD, Dn.tSub, Dn.valOf, asB, ownAt, asI, isPin, sl, dCut, iOf, iNo, fin, endV, runP, runF, runV, runW, startR, startV, dEmp, dChain, res, truR, Dn.tru, itemsOf, sNone, sSeq, sRg1, sRg2, sZip, sEnum, sFor, dApp, dPop, sBrk, sCnt, isNone, atI0, atI1, atI2, ixN3_0, ixN3_1, ixN3_2, ixN2_0, ixN2_1, noPins, e_add, e_addT, e_addL, e_sub, e_mul, e_mulL, e_mulT, e_div, e_mod, e_neg, e_eqI, e_neI, e_eqB, e_eqT, e_eqL, e_neT, e_neL, e_cmp, e_is, e_isnot, e_ixL, e_ixT, e_lenL, e_lenT, e_tupL, e_tupT, e_lstL, e_lstT, e_int, e_intB, e_abs, e_sum, e_divmod, e_gcd, e_max, e_min, e_isi, e_cutL, e_cutT, row, zipD_map]) (by simp [dLoc, dCon, dNil, dCons, dOp, dTup, dLst, looks, look, frz, dCall, dCallV, dCallK, reord, sSeq2, sSkip, sExp, sRet, sRetN, sIf, sAsg, sAsgT, bVal, bTru, bNot, bAnd, bOr, bYes, dAnd, dOr, dNot, dIf, tName, gsNil, gsCons, gTupD, Dn.tSub, Dn.valOf, asB, ownAt, asI, isPin, sl, dCut, iOf, iNo, fin, endV, runP, runF, runV, runW, startR, startV, dEmp, dChain, res, truR, Dn.tru, itemsOf, sNone, sSeq, sRg1, sRg2, sZip, sEnum, sFor, dApp, dPop, sBrk, sCnt, isNone, atI0, atI1, atI2, ixN3_0, ixN3_1, ixN3_2, ixN2_0, ixN2_1, noPins, e_add, e_addT, e_addL, e_sub, e_mul, e_mulL, e_mulT, e_div, e_mod, e_neg, e_eqI, e_neI, e_eqB, e_eqT, e_eqL, e_neT, e_neL, e_cmp, e_is, e_isnot, e_ixL, e_ixT, e_lenL, e_lenT, e_tupL, e_tupT, e_lstL, e_lstT, e_int, e_intB, e_abs, e_sum, e_divmod, e_gcd, e_max, e_min, e_isi, e_cutL, e_cutT]) (by simp; omega) (fun q hq => by
      have q1 := plus_spec (hx q.1 (List.of_mem_zip hq).1) (hy q.2 (List.of_mem_zip hq).2) (by omega) (by omega) (by omega)
      simp [stepC, dLoc, dCon, dNil, dCons, dOp, dTup, dLst, looks, look, frz, dCall, dCallV, dCallK, reord, sSeq2, sSkip, sExp, sRet, sRetN, sIf, sAsg, sAsgT, bVal, bTru, bNot, bAnd, bOr, bYes, dAnd, dOr, dNot, dIf, tName, gsNil, gsCons, gTupD, Dn.tSub, Dn.valOf, asB, ownAt, asI, isPin, sl, dCut, iOf, iNo, fin, endV, runP, runF, runV, runW, startR, startV, dEmp, dChain, res, truR, Dn.tru, itemsOf, sNone, sSeq, sRg1, sRg2, sZip, sEnum, sFor, dApp, dPop, sBrk, sCnt, isNone, atI0, atI1, atI2, ixN3_0, ixN3_1, ixN3_2, ixN2_0, ixN2_1, noPins, e_add, e_addT, e_addL, e_sub, e_mul, e_mulL, e_mulT, e_div, e_mod, e_neg, e_eqI, e_neI, e_eqB, e_eqT, e_eqL, e_neT, e_neL, e_cmp, e_is, e_isnot, e_ixL, e_ixT, e_lenL, e_lenT, e_tupL, e_tupT, e_lstL, e_lstT, e_int, e_intB, e_abs, e_sum, e_divmod, e_gcd, e_max, e_min, e_isi, e_cutL, e_cutT, wipeR, q1])
  have e1 : (x.zip y).filterMap (fun q => some (enc (q.1 + q.2))) = (List.zipWith (· + ·) x y).map enc := by
    rw [filterMap_some, zipWith_zip, List.map_map]
    rfl
  rw [e1] at c
  simp [F_row_sum, d_row_sum, dLoc, dCon, dNil, dCons, dOp, dTup, dLst, looks, look, frz, dCall, dCallV, dCallK, reord, sSeq2, sSkip, sExp, sRet, sRetN, sIf, sAsg, sAsgT, bVal, bTru, bNot, bAnd, bOr, bYes, dAnd, dOr, dNot, dIf, tName, gsNil, gsCons, gTupD, Dn.tSub, Dn.valOf, asB, ownAt, asI, isPin, sl, dCut, iOf, iNo, fin, endV, runP, runF, runV, runW, startR, startV, dEmp, dChain, res, truR, Dn.tru, itemsOf, sNone, sSeq, sRg1, sRg2, sZip, sEnum, sFor, dApp, dPop, sBrk, sCnt, isNone, atI0, atI1, atI2, ixN3_0, ixN3_1, ixN3_2, ixN2_0, ixN2_1, noPins, e_add, e_addT, e_addL, e_sub, e_mul, e_mulL, e_mulT, e_div, e_mod, e_neg, e_eqI, e_neI, e_eqB, e_eqT, e_eqL, e_neT, e_neL, e_cmp, e_is, e_isnot, e_ixL, e_ixT, e_lenL, e_lenT, e_tupL, e_tupT, e_lstL, e_lstT, e_int, e_intB, e_abs, e_sum, e_divmod, e_gcd, e_max, e_min, e_isi, e_cutL, e_cutT, c, wipeR, -List.map_zipWith]
  rfl
theorem row_scaled_p {n d m e : Nat} {x : List Rat} {p : Rat} (hk : x.length ≤ 1000) (hx : ∀ r ∈ x, RB n d r) (hp : RB m e p) (h1 : n + d + m + e ≤ 9000) : F_row_scaled [row x, enc p] = some (.v (row (x.map (· * p)))) := by
  have c := dComp_map (vs := [2]) (src := sSeq (dLoc 0)) (tgt := tName 2) (cond := bYes) (elt := dCall F_times (dCons (dLoc 2) (dCons (dLoc 1) dNil))) (ρ := [some (.val (row x)), some (.val (enc p)), none])
    (ρ1 := [some (.val (row x)), some (.val (enc p)), none]) (l := x) (f := enc) (g := fun q => some (enc (q * p))) (by simp [dLoc, dCon, dNil, dCons, dOp, dTup, dLst, looks, look, frz, dCall, dCallV, dCallK, reord, sSeq2, sSkip, sExp, sRet, sRetN, sIf, sAsg, sAsgT, bVal, bTru, bNot, bAnd, bOr, bYes, dAnd, dOr, dNot, dIf, tName, gsNil, gsCons, gTupD, Dn.tSub, Dn.valOf, asB, ownAt, asI, isPin, sl, dCut, iOf, iNo, fin, endV, runP, runF, runV, runW, startR, startV, dEmp, dChain, res, truR, Dn.tru, itemsOf, sNone, sSeq, sRg1, sRg2, sZip, sEnum, sFor, dApp, dPop, sBrk, sCnt, isNone, atI0, atI1, atI2, ixN3_0, ixN3_1, ixN3_2, ixN2_0, ixN2_1, noPins, e_add, e_addT, e_addL, e_sub, e_mul, e_mulL, e_mulT, e_div, e_mod, e_neg, e_eqI, e_neI, e_eqB, e_eqT, e_eqL, e_neT, e_neL, e_cmp, e_is, e_isnot, e_ixL, e_ixT, e_lenL, e_lenT, e_tupL, e_tupT, e_lstL, e_lstT, e_int, e_intB, e_abs, e_sum, e_divmod, e_gcd, e_max, e_min, e_isi, e_cutL, e_cutT, row]) (by simp [dLoc, dCon, dNil, dCons, dOp, dTup, dLst, looks, look, frz, dCall, dCallV, dCallK, reord, sSeq2, sSkip, sExp, sRet, sRetN, sIf, sAsg, sAsgT, bVal, bTru, bNot, bAnd, bOr, bYes, dAnd, dOr, dNot, dIf, tName, gsNil, gsCons, gTupD, Dn.tSub, Dn.valOf, asB, ownAt, asI, isPin, sl, dCut, iOf, iNo, fin, endV, runP, runF, runV, runW, startR, startV, dEmp, dChain, res, truR, Dn.tru, itemsOf, sNone, sSeq, sRg1, sRg2, sZip, sEnum, sFor, dApp, dPop, sBrk, sCnt, isNone, atI0, atI1, atI2, ixN3_0, ixN3_1, ixN3_2, ixN2_0, ixN2_1, noPins, e_add, e_addT, e_addL, e_sub, e_mul, e_mulL, e_mulT, e_div, e_mod, e_neg, e_eqI, e_neI, e_eqB, e_eqT, e_eqL, e_neT, e_neL, e_cmp, e_is, e_isnot, e_ixL, e_ixT, e_lenL, e_lenT, e_tupL, e_tupT, e_lstL, e_lstT, e_int, e_intB, e_abs, e_sum, e_divmod, e_gcd, e_max, e_min, e_isi, e_cutL, e_cutT]) (by omega) (fun q hq => by
      have q1 := times_spec (hx q hq) hp (by omega) (by omega)
      simp [stepC, dLoc, dCon, dNil, dCons, dOp, dTup, dLst, looks, look, frz, dCall, dCallV, dCallK, reord, sSeq2, sSkip, sExp, sRet, sRetN, sIf, sAsg, sAsgT, bVal, bTru, bNot, bAnd, bOr, bYes, dAnd, dOr, dNot, dIf, tName, gsNil, gsCons, gTupD, Dn.tSub, Dn.valOf, asB, ownAt, asI, isPin, sl, dCut, iOf, iNo, fin, endV, runP, runF, runV, runW, startR, startV, dEmp, dChain, res, truR, Dn.tru, itemsOf, sNone, sSeq, sRg1, sRg2, sZip, sEnum, sFor, dApp, dPop, sBrk, sCnt, isNone, atI0, atI1, atI2, ixN3_0, ixN3_1, ixN3_2, ixN2_0, ixN2_1, noPins, e_add, e_addT, e_addL, e_sub, e_mul, e_mulL, e_mulT, e_div, e_mod, e_neg, e_eqI, e_neI, e_eqB, e_eqT, e_eqL, e_neT, e_neL, e_cmp, e_is, e_isnot, e_ixL, e_ixT, e_lenL, e_lenT, e_tupL, e_tupT, e_lstL, e_lstT, e_int, e_intB, e_abs, e_sum, e_divmod, e_gcd, e_max, e_min, e_isi, e_cutL, e_cutT, wipeR, q1])
  have e1 : x.filterMap (fun q => some (enc (q * p))) = (x.map (· * p)).map enc := by
    rw [filterMap_some, List.map_map]
    rfl
  rw [e1] at c
  simp [F_row_scaled, d_row_scaled, dLoc, dCon, dNil, dCons, dOp, dTup, dLst, looks, look, frz, dCall, dCallV, dCallK, reord, sSeq2, sSkip, sExp, sRet, sRetN, sIf, sAsg, sAsgT, bVal, bTru, bNot, bAnd, bOr, bYes, dAnd, dOr, dNot, dIf, tName, gsNil, gsCons, gTupD, Dn.tSub, Dn.valOf, asB, ownAt, asI, isPin, sl, dCut, iOf, iNo, fin, endV, runP, runF, runV, runW, startR, startV, dEmp, dChain, res, truR, Dn.tru, itemsOf, sNone, sSeq, sRg1, sRg2, sZip, sEnum, sFor, dApp, dPop, sBrk, sCnt, isNone, atI0, atI1, atI2, ixN3_0, ixN3_1, ixN3_2, ixN2_0, ixN2_1, noPins, e_add, e_addT, e_addL, e_sub, e_mul, e_mulL, e_mulT, e_div, e_mod, e_neg, e_eqI, e_neI, e_eqB, e_eqT, e_eqL, e_neT, e_neL, e_cmp, e_is, e_isnot, e_ixL, e_ixT, e_lenL, e_lenT, e_tupL, e_tupT, e_lstL, e_lstT, e_int, e_intB, e_abs, e_sum, e_divmod, e_gcd, e_max, e_min, e_isi, e_cutL, e_cutT, c, wipeR, -List.map_map]
  rfl
theorem zip_add {g a : List Rat} {p : Rat} : List.zipWith (· + ·) g (a.map (· * p)) = addQ g p a := by
  rw [addQ, List.zipWith_map_right]
  exact congrArg (fun f => List.zipWith f g a) (funext fun x => funext fun y => by rw [Rat.mul_comm])
theorem law_dot_c {D E : Int} {n k m e : Nat} {x y : List Rat} (hD : D ≠ 0) (hE : E ≠ 0) (bD : Bd m D) (bE : Bd e E) (hx : ∀ r ∈ x, Cb D n r) (hy : ∀ r ∈ y, Cb E k r) (hl : x.length = y.length) (hk : x.length ≤ 1000) (hm : m + e ≤ 4500) (hn : n + k ≤ 50000) :
    F__law_dot [row x, row y] = some (.v (enc (dotQ x y))) := by
  have hz : (x.zip y).length = x.length := by simp [hl]
  have h0 : D * E ≠ 0 := Int.mul_ne_zero hD hE
  have key := loopF_fold (tgt := gTupD 2 (gsCons (tName 3) (gsCons (tName 4) gsNil))) (body := (sSeq2 (sAsg (dCall F__law_plus (dCons (dLoc 2) (dCons (dCall F__law_by (dCons (dLoc 3) (dCons (dLoc 4) dNil))) dNil))) (tName 2)) sSkip))
    (f := fun p : Rat × Rat => .tuple [enc p.1, enc p.2]) (S := fun (st : Rat × Option (Rat × Rat)) => [some (.val (row x)), some (.val (row y)), some (.val (enc st.1)), st.2.map fun p => .val (enc p.1), st.2.map fun p => .val (enc p.2)]) (step := fun st p => (st.1 + p.1 * p.2, some p))
    (ok := fun st r => SC (D * E) (n + k) x.length st.1 (r.map fun p => p.1 * p.2) ∧ ∀ p ∈ r, Cb D n p.1 ∧ Cb E k p.2) (fun st p r i => by
      obtain ⟨i1, i2⟩ := i
      rw [List.map_cons] at i1
      obtain ⟨h1, h2, h3⟩ := i1.step h0
      obtain ⟨p1, p2⟩ := i2 p List.mem_cons_self
      refine ⟨[some (.val (row x)), some (.val (row y)), some (.val (enc st.1)), some (.val (enc p.1)), some (.val (enc p.2))], by obtain ⟨a, o⟩ := st; cases o <;> simp [dLoc, dCon, dNil, dCons, dOp, dTup, dLst, looks, look, frz, dCall, dCallV, dCallK, reord, sSeq2, sSkip, sExp, sRet, sRetN, sIf, sAsg, sAsgT, bVal, bTru, bNot, bAnd, bOr, bYes, dAnd, dOr, dNot, dIf, tName, gsNil, gsCons, gTupD, Dn.tSub, Dn.valOf, asB, ownAt, asI, isPin, sl, dCut, iOf, iNo, fin, endV, runP, runF, runV, runW, startR, startV, dEmp, dChain, res, truR, Dn.tru, itemsOf, sNone, sSeq, sRg1, sRg2, sZip, sEnum, sFor, dApp, dPop, sBrk, sCnt, isNone, atI0, atI1, atI2, ixN3_0, ixN3_1, ixN3_2, ixN2_0, ixN2_1, noPins, e_add, e_addT, e_addL, e_sub, e_mul, e_mulL, e_mulT, e_div, e_mod, e_neg, e_eqI, e_neI, e_eqB, e_eqT, e_eqL, e_neT, e_neL, e_cmp, e_is, e_isnot, e_ixL, e_ixT, e_lenL, e_lenT, e_tupL, e_tupT, e_lstL, e_lstT, e_int, e_intB, e_abs, e_sum, e_divmod, e_gcd, e_max, e_min, e_isi, e_cutL, e_cutT], ?_, h1, fun q hq => i2 q (List.mem_cons_of_mem _ hq)⟩
      have q1 := by_q (p1.rb hD bD) (p2.rb hE bE) (by omega) (by omega)
      have q2 := plus_q (h2.rb h0 (bD.mul bE)) (h3.rb h0 (bD.mul bE)) (by omega) (by omega) (by omega)
      simp [dLoc, dCon, dNil, dCons, dOp, dTup, dLst, looks, look, frz, dCall, dCallV, dCallK, reord, sSeq2, sSkip, sExp, sRet, sRetN, sIf, sAsg, sAsgT, bVal, bTru, bNot, bAnd, bOr, bYes, dAnd, dOr, dNot, dIf, tName, gsNil, gsCons, gTupD, Dn.tSub, Dn.valOf, asB, ownAt, asI, isPin, sl, dCut, iOf, iNo, fin, endV, runP, runF, runV, runW, startR, startV, dEmp, dChain, res, truR, Dn.tru, itemsOf, sNone, sSeq, sRg1, sRg2, sZip, sEnum, sFor, dApp, dPop, sBrk, sCnt, isNone, atI0, atI1, atI2, ixN3_0, ixN3_1, ixN3_2, ixN2_0, ixN2_1, noPins, e_add, e_addT, e_addL, e_sub, e_mul, e_mulL, e_mulT, e_div, e_mod, e_neg, e_eqI, e_neI, e_eqB, e_eqT, e_eqL, e_neT, e_neL, e_cmp, e_is, e_isnot, e_ixL, e_ixT, e_lenL, e_lenT, e_tupL, e_tupT, e_lstL, e_lstT, e_int, e_intB, e_abs, e_sum, e_divmod, e_gcd, e_max, e_min, e_isi, e_cutL, e_cutT, q1, q2]) (x.zip y) (0, none) ⟨by
      have s := SC.start (D := D * E) (n := n + k) (l := (x.zip y).map fun p => p.1 * p.2) (fun r hr => by
        obtain ⟨p, hp, rfl⟩ := List.mem_map.mp hr
        exact (hx p.1 (List.of_mem_zip hp).1).mul (hy p.2 (List.of_mem_zip hp).2))
      rw [List.length_map, hz] at s
      exact s, fun p hp => ⟨hx p.1 (List.of_mem_zip hp).1, hy p.2 (List.of_mem_zip hp).2⟩⟩
  have e0 : enc 0 = .tuple [.int 0, .int 1] := rfl
  rw [e0, Option.map_none, Option.map_none] at key
  have ef : ∀ (l : List (Rat × Rat)) (a : Rat) (o : Option (Rat × Rat)), (l.foldl (fun (st : Rat × Option (Rat × Rat)) p => (st.1 + p.1 * p.2, some p)) (a, o)).1 = (l.map fun p => p.1 * p.2).foldl (· + ·) a := by
    intro l
    induction l with
    | nil => intro a o; rfl
    | cons p l ih => intro a o; rw [List.foldl_cons, List.map_cons, List.foldl_cons, ih]
  have es : dotQ x y = ((x.zip y).map fun p => p.1 * p.2).foldl (· + ·) 0 := by rw [dotQ, sumQ, zipWith_zip]
  rw [← zipD_map] at key
  have hr : row x = .tuple (x.map enc) := rfl
  have hr2 : row y = .tuple (y.map enc) := rfl
  rw [hr, hr2] at key ⊢
  simp [F__law_dot, d__law_dot, dLoc, dCon, dNil, dCons, dOp, dTup, dLst, looks, look, frz, dCall, dCallV, dCallK, reord, sSeq2, sSkip, sExp, sRet, sRetN, sIf, sAsg, sAsgT, bVal, bTru, bNot, bAnd, bOr, bYes, dAnd, dOr, dNot, dIf, tName, gsNil, gsCons, gTupD, Dn.tSub, Dn.valOf, asB, ownAt, asI, isPin, sl, dCut, iOf, iNo, fin, endV, runP, runF, runV, runW, startR, startV, dEmp, dChain, res, truR, Dn.tru, itemsOf, sNone, sSeq, sRg1, sRg2, sZip, sEnum, sFor, dApp, dPop, sBrk, sCnt, isNone, atI0, atI1, atI2, ixN3_0, ixN3_1, ixN3_2, ixN2_0, ixN2_1, noPins, e_add, e_addT, e_addL, e_sub, e_mul, e_mulL, e_mulT, e_div, e_mod, e_neg, e_eqI, e_neI, e_eqB, e_eqT, e_eqL, e_neT, e_neL, e_cmp, e_is, e_isnot, e_ixL, e_ixT, e_lenL, e_lenT, e_tupL, e_tupT, e_lstL, e_lstT, e_int, e_intB, e_abs, e_sum, e_divmod, e_gcd, e_max, e_min, e_isi, e_cutL, e_cutT, key, ef, es, -List.map_zipWith]

/-! ### by sums -/
theorem dot_add {x g a : List Rat} {p : Rat} {n : Nat} (hx : x.length = n) (hg : g.length = n) (ha : a.length = n) : dotQ x (addQ g p a) = dotQ x g + p * dotQ x a := by
  have hl : (addQ g p a).length = n := by rw [addQ_len (by omega)]; exact ha
  rw [dot_S hx hl, dot_S hx hg, dot_S hx ha, ← S_mull, ← S_add]
  exact S_congr fun k hk => by rw [addQ_get (by omega) (by omega)]; grind
theorem S_nonneg {f : Nat → Rat} : ∀ {n : Nat}, (∀ k, k < n → 0 ≤ f k) → 0 ≤ S n f
  | 0, _ => by rw [S]; exact Rat.le_refl
  | n + 1, h => by
    have h1 := S_nonneg (n := n) fun k hk => h k (by omega)
    have h2 := h n (by omega)
    rw [S]; grind
theorem sq_nonneg (x : Rat) : 0 ≤ x * x := by
  by_cases h : 0 ≤ x
  · exact Rat.mul_nonneg h h
  · have : 0 ≤ -x := by grind
    have := Rat.mul_nonneg this this
    grind
theorem sq_pos {x : Rat} (h : x ≠ 0) : 0 < x * x := by
  have h1 := sq_nonneg x
  have h2 : x * x ≠ 0 := fun z => by
    rcases Rat.mul_eq_zero.mp z with z | z <;> exact h z
  grind
theorem dot_pos {x : List Rat} (h : ∃ r ∈ x, r ≠ 0) : 0 < dotQ x x := by
  rw [dot_S rfl rfl]
  obtain ⟨r, hr, h0⟩ := h
  obtain ⟨i, hi, rfl⟩ := List.mem_iff_getElem.mp hr
  have key : ∀ n, n ≤ x.length → i < n → 0 < S n fun k => x.getD k 0 * x.getD k 0 := by
    intro n
    induction n with
    | zero => intro _ h; omega
    | succ n ih =>
      intro hn hi'
      rw [S]
      have g1 : 0 ≤ S n fun k => x.getD k 0 * x.getD k 0 := S_nonneg fun k _ => sq_nonneg _
      have g2 := sq_nonneg (x.getD n 0)
      by_cases z : i = n
      · have e : x.getD n 0 = x[i] := by subst z; simp [List.getD, hi]
        have := sq_pos h0
        rw [e]
        grind
      · have := ih (by omega) (by omega)
        grind
  exact key _ (Nat.le_refl _) hi
theorem dot_nonneg (x : List Rat) : 0 ≤ dotQ x x := by
  rw [dot_S rfl rfl]
  exact S_nonneg fun k _ => sq_nonneg _
/-- the square of a distance -/
def farQ (x y : List Rat) : Rat := dotQ (addQ x (-1) y) (addQ x (-1) y)
theorem far_S {x y : List Rat} {n : Nat} (hx : x.length = n) (hy : y.length = n) : farQ x y = S n fun k => (x.getD k 0 - y.getD k 0) * (x.getD k 0 - y.getD k 0) := by
  have hl : (addQ x (-1) y).length = n := by rw [addQ_len (by omega)]; exact hy
  rw [farQ, dot_S hl hl]
  exact S_congr fun k hk => by rw [addQ_get (by omega) (by omega)]; grind
theorem far_add {g a o : List Rat} {p : Rat} {n : Nat} (hg : g.length = n) (ha : a.length = n) (ho : o.length = n) : farQ (addQ g p a) o = farQ g o + 2 * p * (dotQ a g - dotQ a o) + p * p * dotQ a a := by
  have hl : (addQ g p a).length = n := by rw [addQ_len (by omega)]; exact ha
  rw [far_S hl ho, far_S hg ho, dot_S ha hg, dot_S ha ho, dot_S ha ha]
  rw [S_congr (g := fun k => (g.getD k 0 + p * a.getD k 0 - o.getD k 0) * (g.getD k 0 + p * a.getD k 0 - o.getD k 0)) fun k hk => by rw [addQ_get (by omega) (by omega)]]
  generalize (fun k => g.getD k 0) = G
  have key : ∀ m, S m (fun k => (g.getD k 0 + p * a.getD k 0 - o.getD k 0) * (g.getD k 0 + p * a.getD k 0 - o.getD k 0)) = S m (fun k => (g.getD k 0 - o.getD k 0) * (g.getD k 0 - o.getD k 0)) + 2 * p * (S m (fun k => a.getD k 0 * g.getD k 0) - S m (fun k => a.getD k 0 * o.getD k 0)) + p * p * S m (fun k => a.getD k 0 * a.getD k 0) := by
    intro m
    induction m with
    | zero => simp only [S]; grind
    | succ m ih => simp only [S]; rw [ih]; grind
  exact key n
theorem addQ_zero {g a : List Rat} (h : g.length = a.length) : addQ g 0 a = g := by
  refine List.ext_getElem (by rw [addQ_len h, h]) fun i h1 h2 => ?_
  have := addQ_get (p := 0) (k := i) h (by omega)
  simp only [List.getD_eq_getElem?_getD] at this
  rw [List.getElem?_eq_getElem h1, List.getElem?_eq_getElem h2] at this
  simp only [Option.getD_some] at this
  rw [this, Rat.zero_mul, Rat.add_zero]
end Pq

set_option Elab.async false
set_option linter.all false
set_option maxRecDepth 100000
set_option maxHeartbeats 4000000
namespace Pq
open PySem PySem.Spec PyProof.Rows L2 Dn Pl
/-! ### a step to a wall -/
theorem cb_div {D E : Int} {n k m : Nat} {x y : Rat} (h : Cb D n x) (hE : E ≠ 0) (bE : Bd m E) (l : Cb E k y) (y0 : y ≠ 0) : ∃ R : Int, R ≠ 0 ∧ Bd k R ∧ Cb (D * R) (n + m) (x / y) := by
  obtain ⟨p, rfl, hp⟩ := h
  obtain ⟨R, rfl, hR⟩ := l
  have R0 : R ≠ 0 := fun z => y0 (by rw [z, Rat.zero_divInt])
  refine ⟨R, R0, hR, p * E, ?_, hp.mul bE⟩
  rw [Rat.div_def, Rat.inv_divInt, Rat.divInt_mul_divInt]
def wallD (a : List Rat) (b : Rat) : D := .tuple [row a, enc b]
structure Wl (n : Nat) (a : List Rat) (b : Rat) : Prop where
  len : a.length = n
  n1 : 1 ≤ n
  n5 : n ≤ 5
  nz : ∃ r ∈ a, r ≠ 0
  ca : ∀ x ∈ a, Cb 90 10 x
  cb : Cb 5400 26 b
/-- rows of numbers of at most t figures, over one number below -/
def GI (t : Nat) (g : List Rat) : Prop := ∃ G : Int, G ≠ 0 ∧ Bd t G ∧ ∀ x ∈ g, Cb G t x
theorem GI.up {t u : Nat} {g : List Rat} (h : GI t g) (l : t ≤ u) : GI u g := by
  obtain ⟨G, h0, hb, hx⟩ := h
  exact ⟨G, h0, hb.up l, fun x m => (hx x m).up l⟩
theorem GI.rb {t : Nat} {g : List Rat} (h : GI t g) : ∀ x ∈ g, RB t t x := by
  obtain ⟨G, h0, hb, hx⟩ := h
  exact fun x m => (hx x m).rb h0 hb
def gapQ (a : List Rat) (b : Rat) (g : List Rat) : Rat := b - dotQ a g
def partQ (a : List Rat) (b s : Rat) (g : List Rat) : Rat := s * (gapQ a b g / dotQ a a)
def stepQ (a : List Rat) (b s : Rat) (g : List Rat) : List Rat := addQ g (partQ a b s g) a
section
variable {n t : Nat} {a g : List Rat} {b s : Rat}
theorem Wl.rr (W : Wl n a b) : 0 < dotQ a a := dot_pos W.nz
theorem Wl.rr0 (W : Wl n a b) : dotQ a a ≠ 0 := by have := W.rr; grind
theorem b90 : Bd 7 (90 : Int) := by unfold Bd; decide
theorem b5400 : Bd 13 (5400 : Int) := by unfold Bd; decide
theorem b30 : Bd 5 (30 : Int) := by unfold Bd; decide
theorem sizes (W : Wl n a b) (hg : g.length = n) (G : GI t g) (ht : t ≤ 400) (hs : Cb 30 6 s) :
    F__law_dot [row a, row g] = some (.v (enc (dotQ a g))) ∧ F_dot [row a, row g] = some (.v (enc (dotQ a g))) ∧ F__law_dot [row a, row a] = some (.v (enc (dotQ a a))) ∧ F_dot [row a, row a] = some (.v (enc (dotQ a a))) ∧
      RB (15 + t) (7 + t) (dotQ a g) ∧ RB 25 14 (dotQ a a) ∧ RB (34 + t) (20 + t) (gapQ a b g) ∧ RB (48 + t) (45 + t) (gapQ a b g / dotQ a a) ∧ RB (54 + t) (50 + t) (partQ a b s g) ∧ GI (t + 65) (stepQ a b s g) := by
  obtain ⟨D, D0, bD, hD⟩ := G
  have n5 := W.n5
  have la := W.len
  have d1 := dot_c (D := 90) (E := D) (by decide) D0 b90 bD W.ca hD (by omega) (by omega) (by omega) (by omega)
  have d2 := dot_c (D := 90) (E := 90) (by decide) (by decide) b90 b90 W.ca W.ca rfl (by omega) (by omega) (by omega)
  have l1 := law_dot_c (D := 90) (E := D) (by decide) D0 b90 bD W.ca hD (by omega) (by omega) (by omega) (by omega)
  have l2 := law_dot_c (D := 90) (E := 90) (by decide) (by decide) b90 b90 W.ca W.ca rfl (by omega) (by omega) (by omega)
  have D90 : (90 : Int) * D ≠ 0 := Int.mul_ne_zero (by decide) D0
  have c1 : Cb (90 * D) (15 + t) (dotQ a g) := d1.2.up (by omega)
  have c2 : Cb (90 * 90) 25 (dotQ a a) := d2.2.up (by omega)
  have g1 : Cb (5400 * (90 * D)) (26 + (7 + t)) b := W.cb.scale (b90.mul bD) D90
  have g2 : Cb (90 * D * 5400) (15 + t + 13) (dotQ a g) := c1.scale b5400 (by decide)
  rw [Int.mul_comm (90 * D) 5400] at g2
  have E0 : (5400 : Int) * (90 * D) ≠ 0 := Int.mul_ne_zero (by decide) D90
  have bE : Bd (13 + (7 + t)) (5400 * (90 * D)) := b5400.mul (b90.mul bD)
  have g3 : Cb (5400 * (90 * D)) (34 + t) (gapQ a b g) := (g1.sub E0 g2).up (by omega)
  obtain ⟨R, R0, bR, g4⟩ := cb_div (m := 14) g3 (by decide) (by unfold Bd; decide) c2 W.rr0
  have F0 : (5400 : Int) * (90 * D) * R ≠ 0 := Int.mul_ne_zero E0 R0
  have bF : Bd (13 + (7 + t) + 25) (5400 * (90 * D) * R) := bE.mul bR
  have g5 : Cb (30 * (5400 * (90 * D) * R)) (6 + (34 + t + 14)) (partQ a b s g) := hs.mul g4
  have H0 : (30 : Int) * (5400 * (90 * D) * R) ≠ 0 := Int.mul_ne_zero (by decide) F0
  have bH : Bd (5 + (13 + (7 + t) + 25)) (30 * (5400 * (90 * D) * R)) := b30.mul bF
  refine ⟨l1, d1.1, l2, d2.1, (c1.rb D90 (b90.mul bD)).up (by omega) (by omega), (c2.rb (by decide) (b90.mul b90)).up (by omega) (by omega), (g3.rb E0 bE).up (by omega) (by omega), (g4.rb F0 bF).up (by omega) (by omega), ?_, ?_⟩
  · exact (g5.rb H0 bH).up (by omega) (by omega)
  · refine ⟨30 * (5400 * (90 * D) * R) * 90, Int.mul_ne_zero H0 (by decide), (bH.mul b90).up (by omega), fun x hx => ?_⟩
    obtain ⟨u, hu, v, hv, rfl⟩ := mem_addQ hx
    have k1 := g5.mul (W.ca v hv)
    have k2 := (hD u hu).scale (e := 30 * (5400 * 90 * R) * 90) (k := 57) (((b30.mul ((b5400.mul b90).mul bR)).mul b90).up (by omega)) (Int.mul_ne_zero (Int.mul_ne_zero (by decide) (Int.mul_ne_zero (by decide) R0)) (by decide))
    have ed : D * (30 * (5400 * 90 * R) * 90) = 30 * (5400 * (90 * D) * R) * 90 := by grind
    rw [ed] at k2
    exact (k2.add (Int.mul_ne_zero H0 (by decide)) k1).up (by omega)
theorem stepQ_len (W : Wl n a b) (hg : g.length = n) : (stepQ a b s g).length = n := by
  rw [stepQ, addQ_len (by rw [hg, W.len]), W.len]
theorem stepped_q (W : Wl n a b) (hg : g.length = n) (G : GI t g) (ht : t ≤ 400) (hs : Cb 30 6 s) : F__law_stepped [wallD a b, enc s, row g] = some (.v (row (stepQ a b s g))) := by
  obtain ⟨h1, h2, h3, h4, h5, h6, h7, h8, h9, h10⟩ := sizes W hg G ht hs
  have rb : RB 26 13 b := W.cb.rb (by decide) b5400
  have rs : RB 6 5 s := hs.rb (by decide) b30
  have q1 := minus_q rb h5 (by omega) (by omega) (by omega)
  have q2 := over_q W.rr0 h7 h6 (by omega) (by omega)
  have q3 := by_q rs h8 (by omega) (by omega)
  have q4 := law_added_q (g := g) (a := a) (p := partQ a b s g) (by rw [hg, W.len]) (by have := W.n5; rw [W.len]; omega) G.rb (fun x hx => (W.ca x hx).rb (by decide) b90) h9 (by omega)
  unfold gapQ at q2 q3
  unfold partQ gapQ at q4
  unfold wallD
  simp [F__law_stepped, d__law_stepped, dLoc, dCon, dNil, dCons, dOp, dTup, dLst, looks, look, frz, dCall, dCallV, dCallK, reord, sSeq2, sSkip, sExp, sRet, sRetN, sIf, sAsg, sAsgT, bVal, bTru, bNot, bAnd, bOr, bYes, dAnd, dOr, dNot, dIf, tName, gsNil, gsCons, gTupD, Dn.tSub, Dn.valOf, asB, ownAt, asI, isPin, sl, dCut, iOf, iNo, fin, endV, runP, runF, runV, runW, startR, startV, dEmp, dChain, res, truR, Dn.tru, itemsOf, sNone, sSeq, sRg1, sRg2, sZip, sEnum, sFor, dApp, dPop, sBrk, sCnt, isNone, atI0, atI1, atI2, ixN3_0, ixN3_1, ixN3_2, ixN2_0, ixN2_1, noPins, e_add, e_addT, e_addL, e_sub, e_mul, e_mulL, e_mulT, e_div, e_mod, e_neg, e_eqI, e_neI, e_eqB, e_eqT, e_eqL, e_neT, e_neL, e_cmp, e_is, e_isnot, e_ixL, e_ixT, e_lenL, e_lenT, e_tupL, e_tupT, e_lstL, e_lstT, e_int, e_intB, e_abs, e_sum, e_divmod, e_gcd, e_max, e_min, e_isi, e_cutL, e_cutT, h1, h3, q1, q2, q3, q4, stepQ, partQ, gapQ]
theorem moved_p (W : Wl n a b) (hg : g.length = n) (G : GI t g) (ht : t ≤ 400) (hs : Cb 30 6 s) : F_moved [wallD a b, enc s, row g] = some (.v (row (stepQ a b s g))) := by
  obtain ⟨h1, h2, h3, h4, h5, h6, h7, h8, h9, h10⟩ := sizes W hg G ht hs
  have rb : RB 26 13 b := W.cb.rb (by decide) b5400
  have rs : RB 6 5 s := hs.rb (by decide) b30
  have ra : ∀ x ∈ a, RB 10 7 x := fun x hx => (W.ca x hx).rb (by decide) b90
  have la : a.length ≤ 1000 := by have := W.n5; rw [W.len]; omega
  have q1 := minus_p rb h5 (by omega) (by omega) (by omega)
  have q2 := divided_p W.rr0 h7 h6 (by omega) (by omega)
  have q3 := times_spec rs h8 (by omega) (by omega)
  have q4 := row_scaled_p (x := a) (p := partQ a b s g) la ra h9 (by omega)
  have rp : ∀ r ∈ a.map (· * partQ a b s g), RB (10 + (54 + t)) (7 + (50 + t)) r := fun r hr => by
    obtain ⟨x, hx, rfl⟩ := List.mem_map.mp hr
    exact (ra x hx).mul h9
  have q5 := row_sum_p (x := g) (y := a.map (· * partQ a b s g)) (by rw [List.length_map, hg, W.len]) (by rw [hg, ← W.len]; exact la) G.rb rp (by omega)
  rw [zip_add] at q5
  unfold gapQ at q2 q3
  unfold partQ gapQ at q4 q5
  unfold wallD
  simp [F_moved, d_moved, dLoc, dCon, dNil, dCons, dOp, dTup, dLst, looks, look, frz, dCall, dCallV, dCallK, reord, sSeq2, sSkip, sExp, sRet, sRetN, sIf, sAsg, sAsgT, bVal, bTru, bNot, bAnd, bOr, bYes, dAnd, dOr, dNot, dIf, tName, gsNil, gsCons, gTupD, Dn.tSub, Dn.valOf, asB, ownAt, asI, isPin, sl, dCut, iOf, iNo, fin, endV, runP, runF, runV, runW, startR, startV, dEmp, dChain, res, truR, Dn.tru, itemsOf, sNone, sSeq, sRg1, sRg2, sZip, sEnum, sFor, dApp, dPop, sBrk, sCnt, isNone, atI0, atI1, atI2, ixN3_0, ixN3_1, ixN3_2, ixN2_0, ixN2_1, noPins, e_add, e_addT, e_addL, e_sub, e_mul, e_mulL, e_mulT, e_div, e_mod, e_neg, e_eqI, e_neI, e_eqB, e_eqT, e_eqL, e_neT, e_neL, e_cmp, e_is, e_isnot, e_ixL, e_ixT, e_lenL, e_lenT, e_tupL, e_tupT, e_lstL, e_lstT, e_int, e_intB, e_abs, e_sum, e_divmod, e_gcd, e_max, e_min, e_isi, e_cutL, e_cutT, h2, h4, q1, q2, q3, q4, q5, stepQ, partQ, gapQ]
/-- what a step does -/
theorem step_on (W : Wl n a b) (hg : g.length = n) : dotQ a (stepQ a b s g) = dotQ a g + s * gapQ a b g := by
  have h0 := W.rr0
  rw [stepQ, dot_add W.len hg W.len, partQ]
  grind
theorem step_far {o : List Rat} (W : Wl n a b) (hg : g.length = n) (ho : o.length = n) (hon : dotQ a o = b) : farQ g o - farQ (stepQ a b s g) o = s * (2 - s) * (gapQ a b g * gapQ a b g / dotQ a a) := by
  have h0 := W.rr0
  rw [stepQ, far_add hg W.len ho, hon, partQ]
  have e : dotQ a g - b = -gapQ a b g := by unfold gapQ; grind
  rw [e]
  grind
theorem far_self {x : List Rat} {m : Nat} (hx : x.length = m) : farQ x x = 0 := by
  rw [far_S hx hx, S_congr (g := fun _ => 0) fun k _ => by grind, S_zero]
theorem step_near (W : Wl n a b) (hg : g.length = n) : farQ g (stepQ a b s g) = partQ a b s g * partQ a b s g * dotQ a a := by
  have l := stepQ_len (s := s) W hg
  have e := far_add (g := g) (a := a) (o := g) (p := partQ a b s g) hg W.len hg
  have c : farQ g (stepQ a b s g) = farQ (stepQ a b s g) g := by
    rw [far_S hg l, far_S l hg]
    exact S_congr fun k _ => by grind
  rw [c]
  unfold stepQ
  rw [e, far_self hg]
  grind
end
end Pq

set_option Elab.async false
set_option linter.all false
set_option maxRecDepth 100000
set_option maxHeartbeats 4000000
namespace Pq
open PySem PySem.Spec PyProof.Rows L2 Dn Pl
/-! ### what is a fence -/
def isNo : D → Bool
  | .tuple [.int a, .int _] => a == 0
  | _ => false
def isWall : D → Bool
  | .tuple [.tuple as, b] => decide (1 ≤ as.length) && decide (as.length ≤ 5) && as.all isFr && !(as.all isNo) && isFr b
  | _ => false
def wallLen : D → Nat
  | .tuple (.tuple as :: _) => as.length
  | _ => 0
theorem isWall_some {d : D} (h : isWall d = true) : ∃ as b, d = .tuple [.tuple as, b] ∧ 1 ≤ as.length ∧ as.length ≤ 5 ∧ as.all isFr = true ∧ as.all isNo = false ∧ isFr b = true := by
  unfold isWall at h
  split at h
  · rename_i as b
    simp only [Bool.and_eq_true, decide_eq_true_eq, Bool.not_eq_true'] at h
    exact ⟨as, b, rfl, h.1.1.1.1, h.1.1.1.2, h.1.1.2, h.1.2, h.2⟩
  · cases h
theorem isFr_some {d : D} (h : isFr d = true) : ∃ a b, d = .tuple [.int a, .int b] ∧ 0 < b ∧ Nat.gcd a.natAbs b.natAbs = 1 := by
  unfold isFr at h
  split at h
  · rename_i a b
    simp only [Bool.and_eq_true, decide_eq_true_eq, beq_iff_eq] at h
    exact ⟨a, b, rfl, h.1, h.2⟩
  · cases h
theorem ne_nought {d : D} (h : isFr d = true) : pNe [d, .tuple [.int 0, .int 1]] = some (.v (.bool (!isNo d))) := by
  obtain ⟨a, b, rfl, hb, g⟩ := isFr_some h
  rw [e_ne shaped2 shaped2, eqv2]
  by_cases z : a = 0
  · subst z
    have : b = 1 := by simp at g; omega
    subst this
    simp [isNo]
  · have z' : (a == 0) = false := by simpa using z
    simp [isNo, z']
theorem is_noughts_p {as : List D} (h : as.all isFr = true) (hl : as.length ≤ 1000) : F_is_noughts [.tuple as] = some (.v (.bool (as.all isNo))) := by
  have c := dComp_map (vs := [1]) (src := sSeq (dLoc 0)) (tgt := tName 1) (cond := bVal (dOp pNe (dCons (dLoc 1) (dCons (dCon (.tuple [.int 0, .int 1])) dNil)))) (elt := dLoc 1) (ρ := [some (.val (.tuple as)), none]) (ρ1 := [some (.val (.tuple as)), none]) (l := as) (f := id) (g := fun d => if !isNo d then some d else none)
    (by simp [dLoc, dCon, dNil, dCons, dOp, dTup, dLst, looks, look, frz, dCall, dCallV, dCallK, reord, sSeq2, sSkip, sExp, sRet, sRetN, sIf, sAsg, sAsgT, bVal, bTru, bNot, bAnd, bOr, bYes, dAnd, dOr, dNot, dIf, tName, gsNil, gsCons, gTupD, Dn.tSub, Dn.valOf, asB, ownAt, asI, isPin, sl, dCut, iOf, iNo, fin, endV, runP, runF, runV, runW, startR, startV, dEmp, dChain, res, truR, Dn.tru, itemsOf, sNone, sSeq, sRg1, sRg2, sZip, sEnum, sFor, dApp, dPop, sBrk, sCnt, isNone, atI0, atI1, atI2, ixN3_0, ixN3_1, ixN3_2, ixN2_0, ixN2_1, noPins, e_add, e_addT, e_addL, e_sub, e_mul, e_mulL, e_mulT, e_div, e_mod, e_neg, e_eqI, e_neI, e_eqB, e_eqT, e_eqL, e_neT, e_neL, e_cmp, e_is, e_isnot, e_ixL, e_ixT, e_lenL, e_lenT, e_tupL, e_tupT, e_lstL, e_lstT, e_int, e_intB, e_abs, e_sum, e_divmod, e_gcd, e_max, e_min, e_isi, e_cutL, e_cutT]) (by simp [dLoc, dCon, dNil, dCons, dOp, dTup, dLst, looks, look, frz, dCall, dCallV, dCallK, reord, sSeq2, sSkip, sExp, sRet, sRetN, sIf, sAsg, sAsgT, bVal, bTru, bNot, bAnd, bOr, bYes, dAnd, dOr, dNot, dIf, tName, gsNil, gsCons, gTupD, Dn.tSub, Dn.valOf, asB, ownAt, asI, isPin, sl, dCut, iOf, iNo, fin, endV, runP, runF, runV, runW, startR, startV, dEmp, dChain, res, truR, Dn.tru, itemsOf, sNone, sSeq, sRg1, sRg2, sZip, sEnum, sFor, dApp, dPop, sBrk, sCnt, isNone, atI0, atI1, atI2, ixN3_0, ixN3_1, ixN3_2, ixN2_0, ixN2_1, noPins, e_add, e_addT, e_addL, e_sub, e_mul, e_mulL, e_mulT, e_div, e_mod, e_neg, e_eqI, e_neI, e_eqB, e_eqT, e_eqL, e_neT, e_neL, e_cmp, e_is, e_isnot, e_ixL, e_ixT, e_lenL, e_lenT, e_tupL, e_tupT, e_lstL, e_lstT, e_int, e_intB, e_abs, e_sum, e_divmod, e_gcd, e_max, e_min, e_isi, e_cutL, e_cutT]) (by omega) (fun d hd => by
      have q := ne_nought (List.all_eq_true.mp h d hd)
      cases hp : isNo d <;> simp [stepC, dLoc, dCon, dNil, dCons, dOp, dTup, dLst, looks, look, frz, dCall, dCallV, dCallK, reord, sSeq2, sSkip, sExp, sRet, sRetN, sIf, sAsg, sAsgT, bVal, bTru, bNot, bAnd, bOr, bYes, dAnd, dOr, dNot, dIf, tName, gsNil, gsCons, gTupD, Dn.tSub, Dn.valOf, asB, ownAt, asI, isPin, sl, dCut, iOf, iNo, fin, endV, runP, runF, runV, runW, startR, startV, dEmp, dChain, res, truR, Dn.tru, itemsOf, sNone, sSeq, sRg1, sRg2, sZip, sEnum, sFor, dApp, dPop, sBrk, sCnt, isNone, atI0, atI1, atI2, ixN3_0, ixN3_1, ixN3_2, ixN2_0, ixN2_1, noPins, e_add, e_addT, e_addL, e_sub, e_mul, e_mulL, e_mulT, e_div, e_mod, e_neg, e_eqI, e_neI, e_eqB, e_eqT, e_eqL, e_neT, e_neL, e_cmp, e_is, e_isnot, e_ixL, e_ixT, e_lenL, e_lenT, e_tupL, e_tupT, e_lstL, e_lstT, e_int, e_intB, e_abs, e_sum, e_divmod, e_gcd, e_max, e_min, e_isi, e_cutL, e_cutT, wipeR, q, hp])
  rw [filterMap_if] at c
  simp [F_is_noughts, d_is_noughts, dLoc, dCon, dNil, dCons, dOp, dTup, dLst, looks, look, frz, dCall, dCallV, dCallK, reord, sSeq2, sSkip, sExp, sRet, sRetN, sIf, sAsg, sAsgT, bVal, bTru, bNot, bAnd, bOr, bYes, dAnd, dOr, dNot, dIf, tName, gsNil, gsCons, gTupD, Dn.tSub, Dn.valOf, asB, ownAt, asI, isPin, sl, dCut, iOf, iNo, fin, endV, runP, runF, runV, runW, startR, startV, dEmp, dChain, res, truR, Dn.tru, itemsOf, sNone, sSeq, sRg1, sRg2, sZip, sEnum, sFor, dApp, dPop, sBrk, sCnt, isNone, atI0, atI1, atI2, ixN3_0, ixN3_1, ixN3_2, ixN2_0, ixN2_1, noPins, e_add, e_addT, e_addL, e_sub, e_mul, e_mulL, e_mulT, e_div, e_mod, e_neg, e_eqI, e_neI, e_eqB, e_eqT, e_eqL, e_neT, e_neL, e_cmp, e_is, e_isnot, e_ixL, e_ixT, e_lenL, e_lenT, e_tupL, e_tupT, e_lstL, e_lstT, e_int, e_intB, e_abs, e_sum, e_divmod, e_gcd, e_max, e_min, e_isi, e_cutL, e_cutT, c, wipeR, filter_empty]
theorem are_fr_row {as : List D} {n L F : Nat} (h : OKD n L F (.tuple as)) (hL : L ≤ 1000) : F_are_fractions [.tuple as, .int (as.length : Int)] = some (.v (.bool (as.all isFr))) := by
  rw [are_fractions_spec h hL]
  simp [isRow]
theorem is_wall_p {d : D} {n L F : Nat} (h : OKD n L F d) (hL : L ≤ 1000) : F_is_wall [d] = some (.v (.bool (isWall d))) := by
  rcases tup_or d with ⟨ds, rfl⟩ | ⟨h1, h2⟩
  · obtain ⟨hl, G, rfl, hs⟩ := h.tup
    by_cases z : ds.length = 2
    · obtain ⟨x, y, rfl⟩ : ∃ x y, ds = [x, y] := by match ds, z with | [x, y], _ => exact ⟨x, y, rfl⟩
      rcases tup_or x with ⟨as, rfl⟩ | ⟨g1, g2⟩
      · have ha : OKD n L G (.tuple as) := hs _ (by simp)
        have hy : OKD n L G y := hs _ (by simp)
        have fr := are_fr_row ha hL
        have fy := is_fraction_spec (hy.len hL)
        by_cases z1 : 1 ≤ as.length
        · have y1 : decide ((1 : Int) ≤ (as.length : Int)) = true := decide_eq_true (by omega)
          by_cases z2 : as.length ≤ 5
          · have y2 : decide ((as.length : Int) ≤ 5) = true := decide_eq_true (by omega)
            cases q : as.all isFr with
            | false =>
              rw [q] at fr
              simp [F_is_wall, d_is_wall, dLoc, dCon, dNil, dCons, dOp, dTup, dLst, looks, look, frz, dCall, dCallV, dCallK, reord, sSeq2, sSkip, sExp, sRet, sRetN, sIf, sAsg, sAsgT, bVal, bTru, bNot, bAnd, bOr, bYes, dAnd, dOr, dNot, dIf, tName, gsNil, gsCons, gTupD, Dn.tSub, Dn.valOf, asB, ownAt, asI, isPin, sl, dCut, iOf, iNo, fin, endV, runP, runF, runV, runW, startR, startV, dEmp, dChain, res, truR, Dn.tru, itemsOf, sNone, sSeq, sRg1, sRg2, sZip, sEnum, sFor, dApp, dPop, sBrk, sCnt, isNone, atI0, atI1, atI2, ixN3_0, ixN3_1, ixN3_2, ixN2_0, ixN2_1, noPins, e_add, e_addT, e_addL, e_sub, e_mul, e_mulL, e_mulT, e_div, e_mod, e_neg, e_eqI, e_neI, e_eqB, e_eqT, e_eqL, e_neT, e_neL, e_cmp, e_is, e_isnot, e_ixL, e_ixT, e_lenL, e_lenT, e_tupL, e_tupT, e_lstL, e_lstT, e_int, e_intB, e_abs, e_sum, e_divmod, e_gcd, e_max, e_min, e_isi, e_cutL, e_cutT, isTy_tup, y1, y2, z1, z2, fr, isWall, q]
            | true =>
              rw [q] at fr
              have no := is_noughts_p q (by omega)
              cases q2 : as.all isNo with
              | true =>
                rw [q2] at no
                simp [F_is_wall, d_is_wall, dLoc, dCon, dNil, dCons, dOp, dTup, dLst, looks, look, frz, dCall, dCallV, dCallK, reord, sSeq2, sSkip, sExp, sRet, sRetN, sIf, sAsg, sAsgT, bVal, bTru, bNot, bAnd, bOr, bYes, dAnd, dOr, dNot, dIf, tName, gsNil, gsCons, gTupD, Dn.tSub, Dn.valOf, asB, ownAt, asI, isPin, sl, dCut, iOf, iNo, fin, endV, runP, runF, runV, runW, startR, startV, dEmp, dChain, res, truR, Dn.tru, itemsOf, sNone, sSeq, sRg1, sRg2, sZip, sEnum, sFor, dApp, dPop, sBrk, sCnt, isNone, atI0, atI1, atI2, ixN3_0, ixN3_1, ixN3_2, ixN2_0, ixN2_1, noPins, e_add, e_addT, e_addL, e_sub, e_mul, e_mulL, e_mulT, e_div, e_mod, e_neg, e_eqI, e_neI, e_eqB, e_eqT, e_eqL, e_neT, e_neL, e_cmp, e_is, e_isnot, e_ixL, e_ixT, e_lenL, e_lenT, e_tupL, e_tupT, e_lstL, e_lstT, e_int, e_intB, e_abs, e_sum, e_divmod, e_gcd, e_max, e_min, e_isi, e_cutL, e_cutT, isTy_tup, y1, y2, z1, z2, fr, isWall, q, no, q2]
              | false =>
                rw [q2] at no
                simp [F_is_wall, d_is_wall, dLoc, dCon, dNil, dCons, dOp, dTup, dLst, looks, look, frz, dCall, dCallV, dCallK, reord, sSeq2, sSkip, sExp, sRet, sRetN, sIf, sAsg, sAsgT, bVal, bTru, bNot, bAnd, bOr, bYes, dAnd, dOr, dNot, dIf, tName, gsNil, gsCons, gTupD, Dn.tSub, Dn.valOf, asB, ownAt, asI, isPin, sl, dCut, iOf, iNo, fin, endV, runP, runF, runV, runW, startR, startV, dEmp, dChain, res, truR, Dn.tru, itemsOf, sNone, sSeq, sRg1, sRg2, sZip, sEnum, sFor, dApp, dPop, sBrk, sCnt, isNone, atI0, atI1, atI2, ixN3_0, ixN3_1, ixN3_2, ixN2_0, ixN2_1, noPins, e_add, e_addT, e_addL, e_sub, e_mul, e_mulL, e_mulT, e_div, e_mod, e_neg, e_eqI, e_neI, e_eqB, e_eqT, e_eqL, e_neT, e_neL, e_cmp, e_is, e_isnot, e_ixL, e_ixT, e_lenL, e_lenT, e_tupL, e_tupT, e_lstL, e_lstT, e_int, e_intB, e_abs, e_sum, e_divmod, e_gcd, e_max, e_min, e_isi, e_cutL, e_cutT, isTy_tup, y1, y2, z1, z2, fr, isWall, q, no, q2, fy]
          · have y2 : decide ((as.length : Int) ≤ 5) = false := decide_eq_false (by omega)
            simp [F_is_wall, d_is_wall, dLoc, dCon, dNil, dCons, dOp, dTup, dLst, looks, look, frz, dCall, dCallV, dCallK, reord, sSeq2, sSkip, sExp, sRet, sRetN, sIf, sAsg, sAsgT, bVal, bTru, bNot, bAnd, bOr, bYes, dAnd, dOr, dNot, dIf, tName, gsNil, gsCons, gTupD, Dn.tSub, Dn.valOf, asB, ownAt, asI, isPin, sl, dCut, iOf, iNo, fin, endV, runP, runF, runV, runW, startR, startV, dEmp, dChain, res, truR, Dn.tru, itemsOf, sNone, sSeq, sRg1, sRg2, sZip, sEnum, sFor, dApp, dPop, sBrk, sCnt, isNone, atI0, atI1, atI2, ixN3_0, ixN3_1, ixN3_2, ixN2_0, ixN2_1, noPins, e_add, e_addT, e_addL, e_sub, e_mul, e_mulL, e_mulT, e_div, e_mod, e_neg, e_eqI, e_neI, e_eqB, e_eqT, e_eqL, e_neT, e_neL, e_cmp, e_is, e_isnot, e_ixL, e_ixT, e_lenL, e_lenT, e_tupL, e_tupT, e_lstL, e_lstT, e_int, e_intB, e_abs, e_sum, e_divmod, e_gcd, e_max, e_min, e_isi, e_cutL, e_cutT, isTy_tup, y1, y2, z1, z2, isWall]
        · have y1 : decide ((1 : Int) ≤ (as.length : Int)) = false := decide_eq_false (by omega)
          simp [F_is_wall, d_is_wall, dLoc, dCon, dNil, dCons, dOp, dTup, dLst, looks, look, frz, dCall, dCallV, dCallK, reord, sSeq2, sSkip, sExp, sRet, sRetN, sIf, sAsg, sAsgT, bVal, bTru, bNot, bAnd, bOr, bYes, dAnd, dOr, dNot, dIf, tName, gsNil, gsCons, gTupD, Dn.tSub, Dn.valOf, asB, ownAt, asI, isPin, sl, dCut, iOf, iNo, fin, endV, runP, runF, runV, runW, startR, startV, dEmp, dChain, res, truR, Dn.tru, itemsOf, sNone, sSeq, sRg1, sRg2, sZip, sEnum, sFor, dApp, dPop, sBrk, sCnt, isNone, atI0, atI1, atI2, ixN3_0, ixN3_1, ixN3_2, ixN2_0, ixN2_1, noPins, e_add, e_addT, e_addL, e_sub, e_mul, e_mulL, e_mulT, e_div, e_mod, e_neg, e_eqI, e_neI, e_eqB, e_eqT, e_eqL, e_neT, e_neL, e_cmp, e_is, e_isnot, e_ixL, e_ixT, e_lenL, e_lenT, e_tupL, e_tupT, e_lstL, e_lstT, e_int, e_intB, e_abs, e_sum, e_divmod, e_gcd, e_max, e_min, e_isi, e_cutL, e_cutT, isTy_tup, y1, z1, isWall]
      · have w : isWall (.tuple [x, y]) = false := by cases x <;> first | rfl | exact absurd rfl (g1 _)
        simp [F_is_wall, d_is_wall, dLoc, dCon, dNil, dCons, dOp, dTup, dLst, looks, look, frz, dCall, dCallV, dCallK, reord, sSeq2, sSkip, sExp, sRet, sRetN, sIf, sAsg, sAsgT, bVal, bTru, bNot, bAnd, bOr, bYes, dAnd, dOr, dNot, dIf, tName, gsNil, gsCons, gTupD, Dn.tSub, Dn.valOf, asB, ownAt, asI, isPin, sl, dCut, iOf, iNo, fin, endV, runP, runF, runV, runW, startR, startV, dEmp, dChain, res, truR, Dn.tru, itemsOf, sNone, sSeq, sRg1, sRg2, sZip, sEnum, sFor, dApp, dPop, sBrk, sCnt, isNone, atI0, atI1, atI2, ixN3_0, ixN3_1, ixN3_2, ixN2_0, ixN2_1, noPins, e_add, e_addT, e_addL, e_sub, e_mul, e_mulL, e_mulT, e_div, e_mod, e_neg, e_eqI, e_neI, e_eqB, e_eqT, e_eqL, e_neT, e_neL, e_cmp, e_is, e_isnot, e_ixL, e_ixT, e_lenL, e_lenT, e_tupL, e_tupT, e_lstL, e_lstT, e_int, e_intB, e_abs, e_sum, e_divmod, e_gcd, e_max, e_min, e_isi, e_cutL, e_cutT, isTy_tup, g2, w]
    · have e2 : ((ds.length : Int) == 2) = false := by simp; omega
      have w : isWall (.tuple ds) = false := by
        cases hw : isWall (.tuple ds) with
        | false => rfl
        | true =>
          obtain ⟨as, b, e, _⟩ := isWall_some hw
          cases e
          exact absurd rfl z
      simp [F_is_wall, d_is_wall, dLoc, dCon, dNil, dCons, dOp, dTup, dLst, looks, look, frz, dCall, dCallV, dCallK, reord, sSeq2, sSkip, sExp, sRet, sRetN, sIf, sAsg, sAsgT, bVal, bTru, bNot, bAnd, bOr, bYes, dAnd, dOr, dNot, dIf, tName, gsNil, gsCons, gTupD, Dn.tSub, Dn.valOf, asB, ownAt, asI, isPin, sl, dCut, iOf, iNo, fin, endV, runP, runF, runV, runW, startR, startV, dEmp, dChain, res, truR, Dn.tru, itemsOf, sNone, sSeq, sRg1, sRg2, sZip, sEnum, sFor, dApp, dPop, sBrk, sCnt, isNone, atI0, atI1, atI2, ixN3_0, ixN3_1, ixN3_2, ixN2_0, ixN2_1, noPins, e_add, e_addT, e_addL, e_sub, e_mul, e_mulL, e_mulT, e_div, e_mod, e_neg, e_eqI, e_neI, e_eqB, e_eqT, e_eqL, e_neT, e_neL, e_cmp, e_is, e_isnot, e_ixL, e_ixT, e_lenL, e_lenT, e_tupL, e_tupT, e_lstL, e_lstT, e_int, e_intB, e_abs, e_sum, e_divmod, e_gcd, e_max, e_min, e_isi, e_cutL, e_cutT, isTy_tup, e2, w]
  · have w : isWall d = false := by cases d <;> first | rfl | exact absurd rfl (h1 _)
    simp [F_is_wall, d_is_wall, dLoc, dCon, dNil, dCons, dOp, dTup, dLst, looks, look, frz, dCall, dCallV, dCallK, reord, sSeq2, sSkip, sExp, sRet, sRetN, sIf, sAsg, sAsgT, bVal, bTru, bNot, bAnd, bOr, bYes, dAnd, dOr, dNot, dIf, tName, gsNil, gsCons, gTupD, Dn.tSub, Dn.valOf, asB, ownAt, asI, isPin, sl, dCut, iOf, iNo, fin, endV, runP, runF, runV, runW, startR, startV, dEmp, dChain, res, truR, Dn.tru, itemsOf, sNone, sSeq, sRg1, sRg2, sZip, sEnum, sFor, dApp, dPop, sBrk, sCnt, isNone, atI0, atI1, atI2, ixN3_0, ixN3_1, ixN3_2, ixN2_0, ixN2_1, noPins, e_add, e_addT, e_addL, e_sub, e_mul, e_mulL, e_mulT, e_div, e_mod, e_neg, e_eqI, e_neI, e_eqB, e_eqT, e_eqL, e_neT, e_neL, e_cmp, e_is, e_isnot, e_ixL, e_ixT, e_lenL, e_lenT, e_tupL, e_tupT, e_lstL, e_lstT, e_int, e_intB, e_abs, e_sum, e_divmod, e_gcd, e_max, e_min, e_isi, e_cutL, e_cutT, h2, w]
def goodB (w : Nat) : Nat → List D → Bool
  | _, [] => true
  | k, d :: ds => !(k == 6) && isWall d && (wallLen d == w) && goodB w (k + 1) ds
theorem goodB_iff {w : Nat} : ∀ {ds : List D} {k : Nat}, k ≤ 6 → goodB w k ds = (decide (k + ds.length ≤ 6) && ds.all isWall && ds.all (fun d => wallLen d == w))
  | [], k, hk => by simp [goodB, hk]
  | d :: ds, k, hk => by
    by_cases z : k = 6
    · subst z
      have : ¬ (6 + (ds.length + 1) ≤ 6) := by omega
      simp [goodB, this]
    · have z' : (k == 6) = false := by simpa using z
      rw [goodB, goodB_iff (by omega), z', List.length_cons, List.all_cons, List.all_cons]
      have e : decide (k + 1 + ds.length ≤ 6) = decide (k + (ds.length + 1) ≤ 6) := by rw [show k + 1 + ds.length = k + (ds.length + 1) by omega]
      rw [e]
      cases isWall d <;> cases (wallLen d == w) <;> cases (decide (k + (ds.length + 1) ≤ 6)) <;> cases ds.all isWall <;> simp
def isFence : D → Bool
  | .tuple ds => decide (1 ≤ ds.length) && decide (ds.length ≤ 6) && ds.all isWall && ds.all (fun d => wallLen d == wallLen (ds.headD .none))
  | _ => false
theorem walls_loop {n L : Nat} (hL : L ≤ 1000) {e0 : D} {rest : List D} (w0 : isWall e0 = true) : ∀ (ds : List D) (k : Nat) (i1 i2 : Option D), k ≤ 6 → (∀ d ∈ ds, ∃ F, OKD n L F d) →
    (∃ j1 j2, loopF (gTupD 2 (gsCons (tName 1) (gsCons (tName 2) gsNil))) (sSeq2 (sIf (bOr (bVal (dOp pEq (dCons (dLoc 1) (dCons (dCon (.int 6)) dNil)))) (bOr (bNot (bTru (dCall F_is_wall (dCons (dLoc 2) dNil)))) (bVal (dOp pNe (dCons (dOp pLen (dCons (dOp pIx (dCons (dLoc 2) (dCons (dCon (.int 0)) dNil))) dNil)) (dCons (dOp pLen (dCons (dOp pIx (dCons (dOp pIx (dCons (dLoc 0) (dCons (dCon (.int 0)) dNil))) (dCons (dCon (.int 0)) dNil))) dNil)) dNil)))))) (sSeq2 (sRet (dTup (dCons (dLoc 1) dNil))) sSkip) sSkip) sSkip)
        (enumD k ds) [some (.val (.tuple (e0 :: rest))), i1.map Slot.val, i2.map Slot.val] = some (.nx [some (.val (.tuple (e0 :: rest))), Option.map Slot.val j1, Option.map Slot.val j2]) ∧ goodB (wallLen e0) k ds = true) ∨
    (∃ r ρ', loopF (gTupD 2 (gsCons (tName 1) (gsCons (tName 2) gsNil))) (sSeq2 (sIf (bOr (bVal (dOp pEq (dCons (dLoc 1) (dCons (dCon (.int 6)) dNil)))) (bOr (bNot (bTru (dCall F_is_wall (dCons (dLoc 2) dNil)))) (bVal (dOp pNe (dCons (dOp pLen (dCons (dOp pIx (dCons (dLoc 2) (dCons (dCon (.int 0)) dNil))) dNil)) (dCons (dOp pLen (dCons (dOp pIx (dCons (dOp pIx (dCons (dLoc 0) (dCons (dCon (.int 0)) dNil))) (dCons (dCon (.int 0)) dNil))) dNil)) dNil)))))) (sSeq2 (sRet (dTup (dCons (dLoc 1) dNil))) sSkip) sSkip) sSkip)
        (enumD k ds) [some (.val (.tuple (e0 :: rest))), i1.map Slot.val, i2.map Slot.val] = some (.rt (.v (.tuple [r])) ρ') ∧ goodB (wallLen e0) k ds = false)
  | [], k, i1, i2, _, _ => .inl ⟨i1, i2, rfl, rfl⟩
  | d :: ds, k, i1, i2, hk, hd => by
    obtain ⟨F, o⟩ := hd d List.mem_cons_self
    have wd := is_wall_p o hL
    obtain ⟨as0, b0, rfl, _⟩ := isWall_some w0
    by_cases z : k = 6
    · subst z
      refine .inr ⟨.int ((6 : Nat) : Int), [some (.val (.tuple (.tuple [.tuple as0, b0] :: rest))), some (.val (.int ((6 : Nat) : Int))), some (.val d)], ?_, by simp [goodB]⟩
      cases i1 <;> cases i2 <;> simp [enumD, loopF, dLoc, dCon, dNil, dCons, dOp, dTup, dLst, looks, look, frz, dCall, dCallV, dCallK, reord, sSeq2, sSkip, sExp, sRet, sRetN, sIf, sAsg, sAsgT, bVal, bTru, bNot, bAnd, bOr, bYes, dAnd, dOr, dNot, dIf, tName, gsNil, gsCons, gTupD, Dn.tSub, Dn.valOf, asB, ownAt, asI, isPin, sl, dCut, iOf, iNo, fin, endV, runP, runF, runV, runW, startR, startV, dEmp, dChain, res, truR, Dn.tru, itemsOf, sNone, sSeq, sRg1, sRg2, sZip, sEnum, sFor, dApp, dPop, sBrk, sCnt, isNone, atI0, atI1, atI2, ixN3_0, ixN3_1, ixN3_2, ixN2_0, ixN2_1, noPins, e_add, e_addT, e_addL, e_sub, e_mul, e_mulL, e_mulT, e_div, e_mod, e_neg, e_eqI, e_neI, e_eqB, e_eqT, e_eqL, e_neT, e_neL, e_cmp, e_is, e_isnot, e_ixL, e_ixT, e_lenL, e_lenT, e_tupL, e_tupT, e_lstL, e_lstT, e_int, e_intB, e_abs, e_sum, e_divmod, e_gcd, e_max, e_min, e_isi, e_cutL, e_cutT]
    · have z' : ((k : Int) == 6) = false := by simp; omega
      have zb : (k == 6) = false := by simpa using z
      cases hw : isWall d with
      | false =>
        rw [hw] at wd
        refine .inr ⟨.int (k : Int), [some (.val (.tuple (.tuple [.tuple as0, b0] :: rest))), some (.val (.int (k : Int))), some (.val d)], ?_, by simp [goodB, hw]⟩
        cases i1 <;> cases i2 <;> simp [enumD, loopF, dLoc, dCon, dNil, dCons, dOp, dTup, dLst, looks, look, frz, dCall, dCallV, dCallK, reord, sSeq2, sSkip, sExp, sRet, sRetN, sIf, sAsg, sAsgT, bVal, bTru, bNot, bAnd, bOr, bYes, dAnd, dOr, dNot, dIf, tName, gsNil, gsCons, gTupD, Dn.tSub, Dn.valOf, asB, ownAt, asI, isPin, sl, dCut, iOf, iNo, fin, endV, runP, runF, runV, runW, startR, startV, dEmp, dChain, res, truR, Dn.tru, itemsOf, sNone, sSeq, sRg1, sRg2, sZip, sEnum, sFor, dApp, dPop, sBrk, sCnt, isNone, atI0, atI1, atI2, ixN3_0, ixN3_1, ixN3_2, ixN2_0, ixN2_1, noPins, e_add, e_addT, e_addL, e_sub, e_mul, e_mulL, e_mulT, e_div, e_mod, e_neg, e_eqI, e_neI, e_eqB, e_eqT, e_eqL, e_neT, e_neL, e_cmp, e_is, e_isnot, e_ixL, e_ixT, e_lenL, e_lenT, e_tupL, e_tupT, e_lstL, e_lstT, e_int, e_intB, e_abs, e_sum, e_divmod, e_gcd, e_max, e_min, e_isi, e_cutL, e_cutT, z', wd]
      | true =>
        rw [hw] at wd
        obtain ⟨as, b, rfl, _⟩ := isWall_some hw
        by_cases q : as.length = as0.length
        · have q' : ((as.length : Int) == (as0.length : Int)) = true := beq_iff_eq.mpr (by rw [q])
          rcases walls_loop hL (e0 := .tuple [.tuple as0, b0]) (rest := rest) w0 ds (k + 1) (some (.int (k : Int))) (some (.tuple [.tuple as, b])) (by omega) (fun x hx => hd x (List.mem_cons_of_mem _ hx)) with ⟨j1, j2, e, g⟩ | ⟨r, ρ', e, g⟩
          · refine .inl ⟨j1, j2, ?_, by rw [goodB, zb, hw, g]; simp [wallLen, q]⟩
            rw [← e, enumD, loopF]
            cases i1 <;> cases i2 <;> simp [dLoc, dCon, dNil, dCons, dOp, dTup, dLst, looks, look, frz, dCall, dCallV, dCallK, reord, sSeq2, sSkip, sExp, sRet, sRetN, sIf, sAsg, sAsgT, bVal, bTru, bNot, bAnd, bOr, bYes, dAnd, dOr, dNot, dIf, tName, gsNil, gsCons, gTupD, Dn.tSub, Dn.valOf, asB, ownAt, asI, isPin, sl, dCut, iOf, iNo, fin, endV, runP, runF, runV, runW, startR, startV, dEmp, dChain, res, truR, Dn.tru, itemsOf, sNone, sSeq, sRg1, sRg2, sZip, sEnum, sFor, dApp, dPop, sBrk, sCnt, isNone, atI0, atI1, atI2, ixN3_0, ixN3_1, ixN3_2, ixN2_0, ixN2_1, noPins, e_add, e_addT, e_addL, e_sub, e_mul, e_mulL, e_mulT, e_div, e_mod, e_neg, e_eqI, e_neI, e_eqB, e_eqT, e_eqL, e_neT, e_neL, e_cmp, e_is, e_isnot, e_ixL, e_ixT, e_lenL, e_lenT, e_tupL, e_tupT, e_lstL, e_lstT, e_int, e_intB, e_abs, e_sum, e_divmod, e_gcd, e_max, e_min, e_isi, e_cutL, e_cutT, z', wd, q']
          · refine .inr ⟨r, ρ', ?_, by rw [goodB, g]; simp⟩
            rw [← e, enumD, loopF]
            cases i1 <;> cases i2 <;> simp [dLoc, dCon, dNil, dCons, dOp, dTup, dLst, looks, look, frz, dCall, dCallV, dCallK, reord, sSeq2, sSkip, sExp, sRet, sRetN, sIf, sAsg, sAsgT, bVal, bTru, bNot, bAnd, bOr, bYes, dAnd, dOr, dNot, dIf, tName, gsNil, gsCons, gTupD, Dn.tSub, Dn.valOf, asB, ownAt, asI, isPin, sl, dCut, iOf, iNo, fin, endV, runP, runF, runV, runW, startR, startV, dEmp, dChain, res, truR, Dn.tru, itemsOf, sNone, sSeq, sRg1, sRg2, sZip, sEnum, sFor, dApp, dPop, sBrk, sCnt, isNone, atI0, atI1, atI2, ixN3_0, ixN3_1, ixN3_2, ixN2_0, ixN2_1, noPins, e_add, e_addT, e_addL, e_sub, e_mul, e_mulL, e_mulT, e_div, e_mod, e_neg, e_eqI, e_neI, e_eqB, e_eqT, e_eqL, e_neT, e_neL, e_cmp, e_is, e_isnot, e_ixL, e_ixT, e_lenL, e_lenT, e_tupL, e_tupT, e_lstL, e_lstT, e_int, e_intB, e_abs, e_sum, e_divmod, e_gcd, e_max, e_min, e_isi, e_cutL, e_cutT, z', wd, q']
        · have q' : ((as.length : Int) == (as0.length : Int)) = false := by simp; omega
          have qb : (as.length == as0.length) = false := by simpa using q
          refine .inr ⟨.int (k : Int), [some (.val (.tuple (.tuple [.tuple as0, b0] :: rest))), some (.val (.int (k : Int))), some (.val (.tuple [.tuple as, b]))], ?_, by simp [goodB, wallLen, qb]⟩
          cases i1 <;> cases i2 <;> simp [enumD, loopF, dLoc, dCon, dNil, dCons, dOp, dTup, dLst, looks, look, frz, dCall, dCallV, dCallK, reord, sSeq2, sSkip, sExp, sRet, sRetN, sIf, sAsg, sAsgT, bVal, bTru, bNot, bAnd, bOr, bYes, dAnd, dOr, dNot, dIf, tName, gsNil, gsCons, gTupD, Dn.tSub, Dn.valOf, asB, ownAt, asI, isPin, sl, dCut, iOf, iNo, fin, endV, runP, runF, runV, runW, startR, startV, dEmp, dChain, res, truR, Dn.tru, itemsOf, sNone, sSeq, sRg1, sRg2, sZip, sEnum, sFor, dApp, dPop, sBrk, sCnt, isNone, atI0, atI1, atI2, ixN3_0, ixN3_1, ixN3_2, ixN2_0, ixN2_1, noPins, e_add, e_addT, e_addL, e_sub, e_mul, e_mulL, e_mulT, e_div, e_mod, e_neg, e_eqI, e_neI, e_eqB, e_eqT, e_eqL, e_neT, e_neL, e_cmp, e_is, e_isnot, e_ixL, e_ixT, e_lenL, e_lenT, e_tupL, e_tupT, e_lstL, e_lstT, e_int, e_intB, e_abs, e_sum, e_divmod, e_gcd, e_max, e_min, e_isi, e_cutL, e_cutT, z', wd, q']
theorem are_walls_p {d : D} {n L F : Nat} (h : OKD n L F d) (hL : L ≤ 1000) : ∃ r, F_are_walls [d] = some (.v r) ∧ isNone r = isFence d := by
  rcases tup_or d with ⟨ds, rfl⟩ | ⟨h1, h2⟩
  · obtain ⟨hl, G, rfl, hs⟩ := h.tup
    cases ds with
    | nil => exact ⟨.tuple [.none], by simp [F_are_walls, d_are_walls, dLoc, dCon, dNil, dCons, dOp, dTup, dLst, looks, look, frz, dCall, dCallV, dCallK, reord, sSeq2, sSkip, sExp, sRet, sRetN, sIf, sAsg, sAsgT, bVal, bTru, bNot, bAnd, bOr, bYes, dAnd, dOr, dNot, dIf, tName, gsNil, gsCons, gTupD, Dn.tSub, Dn.valOf, asB, ownAt, asI, isPin, sl, dCut, iOf, iNo, fin, endV, runP, runF, runV, runW, startR, startV, dEmp, dChain, res, truR, Dn.tru, itemsOf, sNone, sSeq, sRg1, sRg2, sZip, sEnum, sFor, dApp, dPop, sBrk, sCnt, isNone, atI0, atI1, atI2, ixN3_0, ixN3_1, ixN3_2, ixN2_0, ixN2_1, noPins, e_add, e_addT, e_addL, e_sub, e_mul, e_mulL, e_mulT, e_div, e_mod, e_neg, e_eqI, e_neI, e_eqB, e_eqT, e_eqL, e_neT, e_neL, e_cmp, e_is, e_isnot, e_ixL, e_ixT, e_lenL, e_lenT, e_tupL, e_tupT, e_lstL, e_lstT, e_int, e_intB, e_abs, e_sum, e_divmod, e_gcd, e_max, e_min, e_isi, e_cutL, e_cutT, isTy_tup], rfl⟩
    | cons e0 rest =>
      cases w0 : isWall e0 with
      | false =>
        have wd := is_wall_p (hs e0 (by simp)) hL
        rw [w0] at wd
        refine ⟨.tuple [.int ((0 : Nat) : Int)], ?_, by simp [isNone, isFence, w0]⟩
        simp [F_are_walls, d_are_walls, dLoc, dCon, dNil, dCons, dOp, dTup, dLst, looks, look, frz, dCall, dCallV, dCallK, reord, sSeq2, sSkip, sExp, sRet, sRetN, sIf, sAsg, sAsgT, bVal, bTru, bNot, bAnd, bOr, bYes, dAnd, dOr, dNot, dIf, tName, gsNil, gsCons, gTupD, Dn.tSub, Dn.valOf, asB, ownAt, asI, isPin, sl, dCut, iOf, iNo, fin, endV, runP, runF, runV, runW, startR, startV, dEmp, dChain, res, truR, Dn.tru, itemsOf, sNone, sSeq, sRg1, sRg2, sZip, sEnum, sFor, dApp, dPop, sBrk, sCnt, isNone, atI0, atI1, atI2, ixN3_0, ixN3_1, ixN3_2, ixN2_0, ixN2_1, noPins, e_add, e_addT, e_addL, e_sub, e_mul, e_mulL, e_mulT, e_div, e_mod, e_neg, e_eqI, e_neI, e_eqB, e_eqT, e_eqL, e_neT, e_neL, e_cmp, e_is, e_isnot, e_ixL, e_ixT, e_lenL, e_lenT, e_tupL, e_tupT, e_lstL, e_lstT, e_int, e_intB, e_abs, e_sum, e_divmod, e_gcd, e_max, e_min, e_isi, e_cutL, e_cutT, isTy_tup, sEnumA, enumD, loopF, wd]
      | true =>
        have gi := goodB_iff (w := wallLen e0) (ds := e0 :: rest) (k := 0) (by decide)
        have fe : isFence (.tuple (e0 :: rest)) = goodB (wallLen e0) 0 (e0 :: rest) := by
          rw [gi, Nat.zero_add]
          simp [isFence]
        rcases walls_loop (n := n) (L := L) hL (rest := rest) w0 (e0 :: rest) 0 none none (by decide) (fun x hx => ⟨G, hs x hx⟩) with ⟨j1, j2, e, g⟩ | ⟨r, ρ', e, g⟩
        · refine ⟨.none, ?_, by rw [fe, g]; rfl⟩
          simp only [Option.map_none] at e
          simp [F_are_walls, d_are_walls, dLoc, dCon, dNil, dCons, dOp, dTup, dLst, looks, look, frz, dCall, dCallV, dCallK, reord, sSeq2, sSkip, sExp, sRet, sRetN, sIf, sAsg, sAsgT, bVal, bTru, bNot, bAnd, bOr, bYes, dAnd, dOr, dNot, dIf, tName, gsNil, gsCons, gTupD, Dn.tSub, Dn.valOf, asB, ownAt, asI, isPin, sl, dCut, iOf, iNo, fin, endV, runP, runF, runV, runW, startR, startV, dEmp, dChain, res, truR, Dn.tru, itemsOf, sNone, sSeq, sRg1, sRg2, sZip, sEnum, sFor, dApp, dPop, sBrk, sCnt, isNone, atI0, atI1, atI2, ixN3_0, ixN3_1, ixN3_2, ixN2_0, ixN2_1, noPins, e_add, e_addT, e_addL, e_sub, e_mul, e_mulL, e_mulT, e_div, e_mod, e_neg, e_eqI, e_neI, e_eqB, e_eqT, e_eqL, e_neT, e_neL, e_cmp, e_is, e_isnot, e_ixL, e_ixT, e_lenL, e_lenT, e_tupL, e_tupT, e_lstL, e_lstT, e_int, e_intB, e_abs, e_sum, e_divmod, e_gcd, e_max, e_min, e_isi, e_cutL, e_cutT, isTy_tup, sEnumA, e]
        · refine ⟨.tuple [r], ?_, by rw [fe, g]; rfl⟩
          simp only [Option.map_none] at e
          simp [F_are_walls, d_are_walls, dLoc, dCon, dNil, dCons, dOp, dTup, dLst, looks, look, frz, dCall, dCallV, dCallK, reord, sSeq2, sSkip, sExp, sRet, sRetN, sIf, sAsg, sAsgT, bVal, bTru, bNot, bAnd, bOr, bYes, dAnd, dOr, dNot, dIf, tName, gsNil, gsCons, gTupD, Dn.tSub, Dn.valOf, asB, ownAt, asI, isPin, sl, dCut, iOf, iNo, fin, endV, runP, runF, runV, runW, startR, startV, dEmp, dChain, res, truR, Dn.tru, itemsOf, sNone, sSeq, sRg1, sRg2, sZip, sEnum, sFor, dApp, dPop, sBrk, sCnt, isNone, atI0, atI1, atI2, ixN3_0, ixN3_1, ixN3_2, ixN2_0, ixN2_1, noPins, e_add, e_addT, e_addL, e_sub, e_mul, e_mulL, e_mulT, e_div, e_mod, e_neg, e_eqI, e_neI, e_eqB, e_eqT, e_eqL, e_neT, e_neL, e_cmp, e_is, e_isnot, e_ixL, e_ixT, e_lenL, e_lenT, e_tupL, e_tupT, e_lstL, e_lstT, e_int, e_intB, e_abs, e_sum, e_divmod, e_gcd, e_max, e_min, e_isi, e_cutL, e_cutT, isTy_tup, sEnumA, e]
  · refine ⟨.tuple [.none], ?_, by cases d <;> first | rfl | exact absurd rfl (h1 _)⟩
    simp [F_are_walls, d_are_walls, dLoc, dCon, dNil, dCons, dOp, dTup, dLst, looks, look, frz, dCall, dCallV, dCallK, reord, sSeq2, sSkip, sExp, sRet, sRetN, sIf, sAsg, sAsgT, bVal, bTru, bNot, bAnd, bOr, bYes, dAnd, dOr, dNot, dIf, tName, gsNil, gsCons, gTupD, Dn.tSub, Dn.valOf, asB, ownAt, asI, isPin, sl, dCut, iOf, iNo, fin, endV, runP, runF, runV, runW, startR, startV, dEmp, dChain, res, truR, Dn.tru, itemsOf, sNone, sSeq, sRg1, sRg2, sZip, sEnum, sFor, dApp, dPop, sBrk, sCnt, isNone, atI0, atI1, atI2, ixN3_0, ixN3_1, ixN3_2, ixN2_0, ixN2_1, noPins, e_add, e_addT, e_addL, e_sub, e_mul, e_mulL, e_mulT, e_div, e_mod, e_neg, e_eqI, e_neI, e_eqB, e_eqT, e_eqL, e_neT, e_neL, e_cmp, e_is, e_isnot, e_ixL, e_ixT, e_lenL, e_lenT, e_tupL, e_tupT, e_lstL, e_lstT, e_int, e_intB, e_abs, e_sum, e_divmod, e_gcd, e_max, e_min, e_isi, e_cutL, e_cutT, h2]
theorem is_fence_p {d : D} {n L F : Nat} (h : OKD n L F d) (hL : L ≤ 1000) : F_is_fence [d] = some (.v (.bool (isFence d))) := by
  obtain ⟨r, e, q⟩ := are_walls_p h hL
  have i : pIs [r, .none] = some (.v (.bool (isFence d))) := by rw [e_is, q]
  simp [F_is_fence, d_is_fence, dLoc, dCon, dNil, dCons, dOp, dTup, dLst, looks, look, frz, dCall, dCallV, dCallK, reord, sSeq2, sSkip, sExp, sRet, sRetN, sIf, sAsg, sAsgT, bVal, bTru, bNot, bAnd, bOr, bYes, dAnd, dOr, dNot, dIf, tName, gsNil, gsCons, gTupD, Dn.tSub, Dn.valOf, asB, ownAt, asI, isPin, sl, dCut, iOf, iNo, fin, endV, runP, runF, runV, runW, startR, startV, dEmp, dChain, res, truR, Dn.tru, itemsOf, sNone, sSeq, sRg1, sRg2, sZip, sEnum, sFor, dApp, dPop, sBrk, sCnt, isNone, atI0, atI1, atI2, ixN3_0, ixN3_1, ixN3_2, ixN2_0, ixN2_1, noPins, e_add, e_addT, e_addL, e_sub, e_mul, e_mulL, e_mulT, e_div, e_mod, e_neg, e_eqI, e_neI, e_eqB, e_eqT, e_eqL, e_neT, e_neL, e_cmp, e_is, e_isnot, e_ixL, e_ixT, e_lenL, e_lenT, e_tupL, e_tupT, e_lstL, e_lstT, e_int, e_intB, e_abs, e_sum, e_divmod, e_gcd, e_max, e_min, e_isi, e_cutL, e_cutT, e, i]
end Pq

set_option Elab.async false
set_option linter.all false
set_option maxRecDepth 100000
set_option maxHeartbeats 4000000
namespace Pq
open PySem PySem.Spec PyProof.Rows L2 Dn Pl
noncomputable section
/-! ### the law's own words for it -/
theorem law_is_frac_q {d : D} {n L F : Nat} (h : OKD n L F d) (hL : L ≤ 1000) (hn : n ≤ 9000) : F__law_is_frac [d] = some (.v (.bool (isFr d))) := by
  rcases tup_or d with ⟨ds, rfl⟩ | ⟨h1, h2⟩
  · obtain ⟨hl, G, rfl, hs⟩ := h.tup
    have c := dComp_map (vs := [1]) (src := sSeq (dLoc 0)) (tgt := tName 1) (cond := bYes) (elt := dAnd (dOp (pIsi "int") (dCons (dLoc 1) dNil)) (dNot (dOp (pIsi "bool") (dCons (dLoc 1) dNil)))) (ρ := [some (.val (.tuple ds)), none]) (ρ1 := [some (.val (.tuple ds)), none]) (l := ds) (f := id) (g := fun d => some (.bool (isI d)))
      (by simp [dLoc, dCon, dNil, dCons, dOp, dTup, dLst, looks, look, frz, dCall, dCallV, dCallK, reord, sSeq2, sSkip, sExp, sRet, sRetN, sIf, sAsg, sAsgT, bVal, bTru, bNot, bAnd, bOr, bYes, dAnd, dOr, dNot, dIf, tName, gsNil, gsCons, gTupD, Dn.tSub, Dn.valOf, asB, ownAt, asI, isPin, sl, dCut, iOf, iNo, fin, endV, runP, runF, runV, runW, startR, startV, dEmp, dChain, res, truR, Dn.tru, itemsOf, sNone, sSeq, sRg1, sRg2, sZip, sEnum, sFor, dApp, dPop, sBrk, sCnt, isNone, atI0, atI1, atI2, ixN3_0, ixN3_1, ixN3_2, ixN2_0, ixN2_1, noPins, e_add, e_addT, e_addL, e_sub, e_mul, e_mulL, e_mulT, e_div, e_mod, e_neg, e_eqI, e_neI, e_eqB, e_eqT, e_eqL, e_neT, e_neL, e_cmp, e_is, e_isnot, e_ixL, e_ixT, e_lenL, e_lenT, e_tupL, e_tupT, e_lstL, e_lstT, e_int, e_intB, e_abs, e_sum, e_divmod, e_gcd, e_max, e_min, e_isi, e_cutL, e_cutT]) (by simp [dLoc, dCon, dNil, dCons, dOp, dTup, dLst, looks, look, frz, dCall, dCallV, dCallK, reord, sSeq2, sSkip, sExp, sRet, sRetN, sIf, sAsg, sAsgT, bVal, bTru, bNot, bAnd, bOr, bYes, dAnd, dOr, dNot, dIf, tName, gsNil, gsCons, gTupD, Dn.tSub, Dn.valOf, asB, ownAt, asI, isPin, sl, dCut, iOf, iNo, fin, endV, runP, runF, runV, runW, startR, startV, dEmp, dChain, res, truR, Dn.tru, itemsOf, sNone, sSeq, sRg1, sRg2, sZip, sEnum, sFor, dApp, dPop, sBrk, sCnt, isNone, atI0, atI1, atI2, ixN3_0, ixN3_1, ixN3_2, ixN2_0, ixN2_1, noPins, e_add, e_addT, e_addL, e_sub, e_mul, e_mulL, e_mulT, e_div, e_mod, e_neg, e_eqI, e_neI, e_eqB, e_eqT, e_eqL, e_neT, e_neL, e_cmp, e_is, e_isnot, e_ixL, e_ixT, e_lenL, e_lenT, e_tupL, e_tupT, e_lstL, e_lstT, e_int, e_intB, e_abs, e_sum, e_divmod, e_gcd, e_max, e_min, e_isi, e_cutL, e_cutT]) (by omega) (fun d hd => by cases d <;> simp [stepC, dLoc, dCon, dNil, dCons, dOp, dTup, dLst, looks, look, frz, dCall, dCallV, dCallK, reord, sSeq2, sSkip, sExp, sRet, sRetN, sIf, sAsg, sAsgT, bVal, bTru, bNot, bAnd, bOr, bYes, dAnd, dOr, dNot, dIf, tName, gsNil, gsCons, gTupD, Dn.tSub, Dn.valOf, asB, ownAt, asI, isPin, sl, dCut, iOf, iNo, fin, endV, runP, runF, runV, runW, startR, startV, dEmp, dChain, res, truR, Dn.tru, itemsOf, sNone, sSeq, sRg1, sRg2, sZip, sEnum, sFor, dApp, dPop, sBrk, sCnt, isNone, atI0, atI1, atI2, ixN3_0, ixN3_1, ixN3_2, ixN2_0, ixN2_1, noPins, e_add, e_addT, e_addL, e_sub, e_mul, e_mulL, e_mulT, e_div, e_mod, e_neg, e_eqI, e_neI, e_eqB, e_eqT, e_eqL, e_neT, e_neL, e_cmp, e_is, e_isnot, e_ixL, e_ixT, e_lenL, e_lenT, e_tupL, e_tupT, e_lstL, e_lstT, e_int, e_intB, e_abs, e_sum, e_divmod, e_gcd, e_max, e_min, e_isi, e_cutL, e_cutT, wipeR, isTy, isTyN, tyName, isI])
    rw [filterMap_some, map_bools isI ds] at c
    have b := in_bools (ds.map isI)
    have ea : (ds.map isI).all id = ds.all isI := by simp [List.all_map]
    rw [ea] at b
    by_cases z : ds.length = 2
    · have e2 : ((ds.length : Int) == 2) = true := by rw [z]; rfl
      by_cases y : ds.all isI = true
      · obtain ⟨a, b', rfl⟩ := two_ints z y
        have hb' : Bd n b' := (hs (.int b') (by simp)).int
        have b2 : pIn [.bool false, .list [.bool true, .bool true]] = some (.v (.bool false)) := in_bools [true, true]
        by_cases p : 0 < b'
        · have f := ratio_q (a := a) (b := b') (by omega) hb' hn
          simp only [enc] at f
          have q := e_eq (d := .tuple [.int (Rat.divInt a b').num, .int ((Rat.divInt a b').den : Int)]) (e := .tuple [.int a, .int b']) shaped2 shaped2
          rw [eqv2, frac_same p] at q
          simp [F__law_is_frac, d__law_is_frac, dLoc, dCon, dNil, dCons, dOp, dTup, dLst, looks, look, frz, dCall, dCallV, dCallK, reord, sSeq2, sSkip, sExp, sRet, sRetN, sIf, sAsg, sAsgT, bVal, bTru, bNot, bAnd, bOr, bYes, dAnd, dOr, dNot, dIf, tName, gsNil, gsCons, gTupD, Dn.tSub, Dn.valOf, asB, ownAt, asI, isPin, sl, dCut, iOf, iNo, fin, endV, runP, runF, runV, runW, startR, startV, dEmp, dChain, res, truR, Dn.tru, itemsOf, sNone, sSeq, sRg1, sRg2, sZip, sEnum, sFor, dApp, dPop, sBrk, sCnt, isNone, atI0, atI1, atI2, ixN3_0, ixN3_1, ixN3_2, ixN2_0, ixN2_1, noPins, e_add, e_addT, e_addL, e_sub, e_mul, e_mulL, e_mulT, e_div, e_mod, e_neg, e_eqI, e_neI, e_eqB, e_eqT, e_eqL, e_neT, e_neL, e_cmp, e_is, e_isnot, e_ixL, e_ixT, e_lenL, e_lenT, e_tupL, e_tupT, e_lstL, e_lstT, e_int, e_intB, e_abs, e_sum, e_divmod, e_gcd, e_max, e_min, e_isi, e_cutL, e_cutT, isTy_tup, c, b2, isI, p, f, q, isFr, wipeR, -List.map_map]
        · simp [F__law_is_frac, d__law_is_frac, dLoc, dCon, dNil, dCons, dOp, dTup, dLst, looks, look, frz, dCall, dCallV, dCallK, reord, sSeq2, sSkip, sExp, sRet, sRetN, sIf, sAsg, sAsgT, bVal, bTru, bNot, bAnd, bOr, bYes, dAnd, dOr, dNot, dIf, tName, gsNil, gsCons, gTupD, Dn.tSub, Dn.valOf, asB, ownAt, asI, isPin, sl, dCut, iOf, iNo, fin, endV, runP, runF, runV, runW, startR, startV, dEmp, dChain, res, truR, Dn.tru, itemsOf, sNone, sSeq, sRg1, sRg2, sZip, sEnum, sFor, dApp, dPop, sBrk, sCnt, isNone, atI0, atI1, atI2, ixN3_0, ixN3_1, ixN3_2, ixN2_0, ixN2_1, noPins, e_add, e_addT, e_addL, e_sub, e_mul, e_mulL, e_mulT, e_div, e_mod, e_neg, e_eqI, e_neI, e_eqB, e_eqT, e_eqL, e_neT, e_neL, e_cmp, e_is, e_isnot, e_ixL, e_ixT, e_lenL, e_lenT, e_tupL, e_tupT, e_lstL, e_lstT, e_int, e_intB, e_abs, e_sum, e_divmod, e_gcd, e_max, e_min, e_isi, e_cutL, e_cutT, isTy_tup, c, b2, isI, p, isFr, wipeR, -List.map_map]
      · have y' : ds.all isI = false := by simpa using y
        have nf := is_fr_not (ds := ds) (fun q => y q.2)
        rw [y'] at b
        simp [F__law_is_frac, d__law_is_frac, dLoc, dCon, dNil, dCons, dOp, dTup, dLst, looks, look, frz, dCall, dCallV, dCallK, reord, sSeq2, sSkip, sExp, sRet, sRetN, sIf, sAsg, sAsgT, bVal, bTru, bNot, bAnd, bOr, bYes, dAnd, dOr, dNot, dIf, tName, gsNil, gsCons, gTupD, Dn.tSub, Dn.valOf, asB, ownAt, asI, isPin, sl, dCut, iOf, iNo, fin, endV, runP, runF, runV, runW, startR, startV, dEmp, dChain, res, truR, Dn.tru, itemsOf, sNone, sSeq, sRg1, sRg2, sZip, sEnum, sFor, dApp, dPop, sBrk, sCnt, isNone, atI0, atI1, atI2, ixN3_0, ixN3_1, ixN3_2, ixN2_0, ixN2_1, noPins, e_add, e_addT, e_addL, e_sub, e_mul, e_mulL, e_mulT, e_div, e_mod, e_neg, e_eqI, e_neI, e_eqB, e_eqT, e_eqL, e_neT, e_neL, e_cmp, e_is, e_isnot, e_ixL, e_ixT, e_lenL, e_lenT, e_tupL, e_tupT, e_lstL, e_lstT, e_int, e_intB, e_abs, e_sum, e_divmod, e_gcd, e_max, e_min, e_isi, e_cutL, e_cutT, isTy_tup, c, b, e2, nf, wipeR, -List.map_map]
    · have e2 : ((ds.length : Int) == 2) = false := by simp; omega
      have nf := is_fr_not (ds := ds) (fun q => z q.1)
      simp [F__law_is_frac, d__law_is_frac, dLoc, dCon, dNil, dCons, dOp, dTup, dLst, looks, look, frz, dCall, dCallV, dCallK, reord, sSeq2, sSkip, sExp, sRet, sRetN, sIf, sAsg, sAsgT, bVal, bTru, bNot, bAnd, bOr, bYes, dAnd, dOr, dNot, dIf, tName, gsNil, gsCons, gTupD, Dn.tSub, Dn.valOf, asB, ownAt, asI, isPin, sl, dCut, iOf, iNo, fin, endV, runP, runF, runV, runW, startR, startV, dEmp, dChain, res, truR, Dn.tru, itemsOf, sNone, sSeq, sRg1, sRg2, sZip, sEnum, sFor, dApp, dPop, sBrk, sCnt, isNone, atI0, atI1, atI2, ixN3_0, ixN3_1, ixN3_2, ixN2_0, ixN2_1, noPins, e_add, e_addT, e_addL, e_sub, e_mul, e_mulL, e_mulT, e_div, e_mod, e_neg, e_eqI, e_neI, e_eqB, e_eqT, e_eqL, e_neT, e_neL, e_cmp, e_is, e_isnot, e_ixL, e_ixT, e_lenL, e_lenT, e_tupL, e_tupT, e_lstL, e_lstT, e_int, e_intB, e_abs, e_sum, e_divmod, e_gcd, e_max, e_min, e_isi, e_cutL, e_cutT, isTy_tup, e2, nf]
  · cases d <;> first | (exact absurd rfl (h1 _)) | simp [F__law_is_frac, d__law_is_frac, dLoc, dCon, dNil, dCons, dOp, dTup, dLst, looks, look, frz, dCall, dCallV, dCallK, reord, sSeq2, sSkip, sExp, sRet, sRetN, sIf, sAsg, sAsgT, bVal, bTru, bNot, bAnd, bOr, bYes, dAnd, dOr, dNot, dIf, tName, gsNil, gsCons, gTupD, Dn.tSub, Dn.valOf, asB, ownAt, asI, isPin, sl, dCut, iOf, iNo, fin, endV, runP, runF, runV, runW, startR, startV, dEmp, dChain, res, truR, Dn.tru, itemsOf, sNone, sSeq, sRg1, sRg2, sZip, sEnum, sFor, dApp, dPop, sBrk, sCnt, isNone, atI0, atI1, atI2, ixN3_0, ixN3_1, ixN3_2, ixN2_0, ixN2_1, noPins, e_add, e_addT, e_addL, e_sub, e_mul, e_mulL, e_mulT, e_div, e_mod, e_neg, e_eqI, e_neI, e_eqB, e_eqT, e_eqL, e_neT, e_neL, e_cmp, e_is, e_isnot, e_ixL, e_ixT, e_lenL, e_lenT, e_tupL, e_tupT, e_lstL, e_lstT, e_int, e_intB, e_abs, e_sum, e_divmod, e_gcd, e_max, e_min, e_isi, e_cutL, e_cutT, h2, isFr]
theorem ix_num {d : D} (h : isFr d = true) : ∃ a b, d = .tuple [.int a, .int b] ∧ isNo d = (a == 0) := by
  obtain ⟨a, b, rfl, _⟩ := isFr_some h
  exact ⟨a, b, rfl, rfl⟩
def bodyF : TSD := (sSeq2 (sIf (bOr (bNot (bTru (dOp (pIsi "tuple") (dCons (dLoc 1) dNil)))) (bOr (bVal (dOp pNe (dCons (dOp pLen (dCons (dLoc 1) dNil)) (dCons (dCon (.int 2)) dNil)))) (bNot (bTru (dCall F__law_is_frac (dCons (dOp pIx (dCons (dLoc 1) (dCons (dCon (.int 1)) dNil))) dNil)))))) (sSeq2 (sRet (dCon (.bool false)))
  sSkip) sSkip)
  (sSeq2 (sIf (bNot (bTru (dOp (pIsi "tuple") (dCons (dOp pIx (dCons (dLoc 1) (dCons (dCon (.int 0)) dNil))) dNil)))) (sSeq2 (sRet (dCon (.bool false)))
  sSkip) sSkip)
  (sSeq2 (sIf (bOr (bNot (bVal (dChain (fun i j => decide (i ≤ j)) (fun i j => decide (i ≤ j)) (dCon (.int 1)) (dOp pLen (dCons (dOp pIx (dCons (dLoc 1) (dCons (dCon (.int 0)) dNil))) dNil)) (dCon (.int 5))))) (bVal (dOp pIn (dCons (dCon (.bool false)) (dCons (dComp [2] (sSeq (dOp pIx (dCons (dLoc 1) (dCons (dCon (.int 0)) dNil)))) (tName 2) bYes (dCall F__law_is_frac (dCons (dLoc 2) dNil))) dNil))))) (sSeq2 (sRet (dCon (.bool false)))
  sSkip) sSkip)
  (sSeq2 (sIf (bVal (dOp pEq (dCons (dComp [2] (sSeq (dOp pIx (dCons (dLoc 1) (dCons (dCon (.int 0)) dNil)))) (tName 2) (bVal (dOp pNe (dCons (dOp pIx (dCons (dLoc 2) (dCons (dCon (.int 0)) dNil))) (dCons (dCon (.int 0)) dNil)))) (dLoc 2)) (dCons (dLst dNil) dNil)))) (sSeq2 (sRet (dCon (.bool false)))
  sSkip) sSkip)
  sSkip))))
theorem bodyF_q {d v : D} {n L F : Nat} (h : OKD n L F d) (hL : L ≤ 1000) (hn : n ≤ 9000) : (isWall d = true ∧ bodyF [some (.val v), some (.val d), none] = some (.nx [some (.val v), some (.val d), none])) ∨ (isWall d = false ∧ ∃ ρ', bodyF [some (.val v), some (.val d), none] = some (.rt (.v (.bool false)) ρ')) := by
  rcases tup_or d with ⟨ds, rfl⟩ | ⟨h1, h2⟩
  · obtain ⟨hl, G, rfl, hs⟩ := h.tup
    by_cases z : ds.length = 2
    · obtain ⟨x, y, rfl⟩ : ∃ x y, ds = [x, y] := by match ds, z with | [x, y], _ => exact ⟨x, y, rfl⟩
      have fy := law_is_frac_q (hs y (by simp)) hL hn
      cases hy : isFr y with
      | false =>
        rw [hy] at fy
        refine .inr ⟨by cases x <;> simp [isWall, hy], ?_⟩
        simp [bodyF, dLoc, dCon, dNil, dCons, dOp, dTup, dLst, looks, look, frz, dCall, dCallV, dCallK, reord, sSeq2, sSkip, sExp, sRet, sRetN, sIf, sAsg, sAsgT, bVal, bTru, bNot, bAnd, bOr, bYes, dAnd, dOr, dNot, dIf, tName, gsNil, gsCons, gTupD, Dn.tSub, Dn.valOf, asB, ownAt, asI, isPin, sl, dCut, iOf, iNo, fin, endV, runP, runF, runV, runW, startR, startV, dEmp, dChain, res, truR, Dn.tru, itemsOf, sNone, sSeq, sRg1, sRg2, sZip, sEnum, sFor, dApp, dPop, sBrk, sCnt, isNone, atI0, atI1, atI2, ixN3_0, ixN3_1, ixN3_2, ixN2_0, ixN2_1, noPins, e_add, e_addT, e_addL, e_sub, e_mul, e_mulL, e_mulT, e_div, e_mod, e_neg, e_eqI, e_neI, e_eqB, e_eqT, e_eqL, e_neT, e_neL, e_cmp, e_is, e_isnot, e_ixL, e_ixT, e_lenL, e_lenT, e_tupL, e_tupT, e_lstL, e_lstT, e_int, e_intB, e_abs, e_sum, e_divmod, e_gcd, e_max, e_min, e_isi, e_cutL, e_cutT, isTy_tup, fy]
      | true =>
        rw [hy] at fy
        rcases tup_or x with ⟨as, rfl⟩ | ⟨g1, g2⟩
        · have ha : OKD n L G (.tuple as) := hs _ (by simp)
          obtain ⟨la, G', rfl, hs'⟩ := ha.tup
          have c := dComp_map (vs := [2]) (src := sSeq (dOp pIx (dCons (dLoc 1) (dCons (dCon (.int 0)) dNil)))) (tgt := tName 2) (cond := bYes) (elt := dCall F__law_is_frac (dCons (dLoc 2) dNil)) (ρ := [some (.val v), some (.val (.tuple [.tuple as, y])), none]) (ρ1 := [some (.val v), some (.val (.tuple [.tuple as, y])), none]) (l := as) (f := id) (g := fun d => some (.bool (isFr d)))
            (by simp [dLoc, dCon, dNil, dCons, dOp, dTup, dLst, looks, look, frz, dCall, dCallV, dCallK, reord, sSeq2, sSkip, sExp, sRet, sRetN, sIf, sAsg, sAsgT, bVal, bTru, bNot, bAnd, bOr, bYes, dAnd, dOr, dNot, dIf, tName, gsNil, gsCons, gTupD, Dn.tSub, Dn.valOf, asB, ownAt, asI, isPin, sl, dCut, iOf, iNo, fin, endV, runP, runF, runV, runW, startR, startV, dEmp, dChain, res, truR, Dn.tru, itemsOf, sNone, sSeq, sRg1, sRg2, sZip, sEnum, sFor, dApp, dPop, sBrk, sCnt, isNone, atI0, atI1, atI2, ixN3_0, ixN3_1, ixN3_2, ixN2_0, ixN2_1, noPins, e_add, e_addT, e_addL, e_sub, e_mul, e_mulL, e_mulT, e_div, e_mod, e_neg, e_eqI, e_neI, e_eqB, e_eqT, e_eqL, e_neT, e_neL, e_cmp, e_is, e_isnot, e_ixL, e_ixT, e_lenL, e_lenT, e_tupL, e_tupT, e_lstL, e_lstT, e_int, e_intB, e_abs, e_sum, e_divmod, e_gcd, e_max, e_min, e_isi, e_cutL, e_cutT]) (by simp [dLoc, dCon, dNil, dCons, dOp, dTup, dLst, looks, look, frz, dCall, dCallV, dCallK, reord, sSeq2, sSkip, sExp, sRet, sRetN, sIf, sAsg, sAsgT, bVal, bTru, bNot, bAnd, bOr, bYes, dAnd, dOr, dNot, dIf, tName, gsNil, gsCons, gTupD, Dn.tSub, Dn.valOf, asB, ownAt, asI, isPin, sl, dCut, iOf, iNo, fin, endV, runP, runF, runV, runW, startR, startV, dEmp, dChain, res, truR, Dn.tru, itemsOf, sNone, sSeq, sRg1, sRg2, sZip, sEnum, sFor, dApp, dPop, sBrk, sCnt, isNone, atI0, atI1, atI2, ixN3_0, ixN3_1, ixN3_2, ixN2_0, ixN2_1, noPins, e_add, e_addT, e_addL, e_sub, e_mul, e_mulL, e_mulT, e_div, e_mod, e_neg, e_eqI, e_neI, e_eqB, e_eqT, e_eqL, e_neT, e_neL, e_cmp, e_is, e_isnot, e_ixL, e_ixT, e_lenL, e_lenT, e_tupL, e_tupT, e_lstL, e_lstT, e_int, e_intB, e_abs, e_sum, e_divmod, e_gcd, e_max, e_min, e_isi, e_cutL, e_cutT]) (by omega) (fun d hd => by
              have q := law_is_frac_q (hs' d hd) hL hn
              simp [stepC, dLoc, dCon, dNil, dCons, dOp, dTup, dLst, looks, look, frz, dCall, dCallV, dCallK, reord, sSeq2, sSkip, sExp, sRet, sRetN, sIf, sAsg, sAsgT, bVal, bTru, bNot, bAnd, bOr, bYes, dAnd, dOr, dNot, dIf, tName, gsNil, gsCons, gTupD, Dn.tSub, Dn.valOf, asB, ownAt, asI, isPin, sl, dCut, iOf, iNo, fin, endV, runP, runF, runV, runW, startR, startV, dEmp, dChain, res, truR, Dn.tru, itemsOf, sNone, sSeq, sRg1, sRg2, sZip, sEnum, sFor, dApp, dPop, sBrk, sCnt, isNone, atI0, atI1, atI2, ixN3_0, ixN3_1, ixN3_2, ixN2_0, ixN2_1, noPins, e_add, e_addT, e_addL, e_sub, e_mul, e_mulL, e_mulT, e_div, e_mod, e_neg, e_eqI, e_neI, e_eqB, e_eqT, e_eqL, e_neT, e_neL, e_cmp, e_is, e_isnot, e_ixL, e_ixT, e_lenL, e_lenT, e_tupL, e_tupT, e_lstL, e_lstT, e_int, e_intB, e_abs, e_sum, e_divmod, e_gcd, e_max, e_min, e_isi, e_cutL, e_cutT, wipeR, q])
          rw [filterMap_some, map_bools isFr as] at c
          have b := in_bools (as.map isFr)
          have ea : (as.map isFr).all id = as.all isFr := by simp [List.all_map]
          rw [ea] at b
          by_cases z1 : 1 ≤ as.length
          · have y1 : decide ((1 : Int) ≤ (as.length : Int)) = true := decide_eq_true (by omega)
            by_cases z2 : as.length ≤ 5
            · have y2 : decide ((as.length : Int) ≤ 5) = true := decide_eq_true (by omega)
              cases q : as.all isFr with
              | false =>
                rw [q] at b
                refine .inr ⟨by simp [isWall, q], ?_⟩
                simp [bodyF, dLoc, dCon, dNil, dCons, dOp, dTup, dLst, looks, look, frz, dCall, dCallV, dCallK, reord, sSeq2, sSkip, sExp, sRet, sRetN, sIf, sAsg, sAsgT, bVal, bTru, bNot, bAnd, bOr, bYes, dAnd, dOr, dNot, dIf, tName, gsNil, gsCons, gTupD, Dn.tSub, Dn.valOf, asB, ownAt, asI, isPin, sl, dCut, iOf, iNo, fin, endV, runP, runF, runV, runW, startR, startV, dEmp, dChain, res, truR, Dn.tru, itemsOf, sNone, sSeq, sRg1, sRg2, sZip, sEnum, sFor, dApp, dPop, sBrk, sCnt, isNone, atI0, atI1, atI2, ixN3_0, ixN3_1, ixN3_2, ixN2_0, ixN2_1, noPins, e_add, e_addT, e_addL, e_sub, e_mul, e_mulL, e_mulT, e_div, e_mod, e_neg, e_eqI, e_neI, e_eqB, e_eqT, e_eqL, e_neT, e_neL, e_cmp, e_is, e_isnot, e_ixL, e_ixT, e_lenL, e_lenT, e_tupL, e_tupT, e_lstL, e_lstT, e_int, e_intB, e_abs, e_sum, e_divmod, e_gcd, e_max, e_min, e_isi, e_cutL, e_cutT, isTy_tup, fy, y1, y2, z1, z2, c, b, wipeR, -List.map_map]
              | true =>
                rw [q] at b
                have c2 := dComp_map (vs := [2]) (src := sSeq (dOp pIx (dCons (dLoc 1) (dCons (dCon (.int 0)) dNil)))) (tgt := tName 2) (cond := bVal (dOp pNe (dCons (dOp pIx (dCons (dLoc 2) (dCons (dCon (.int 0)) dNil))) (dCons (dCon (.int 0)) dNil)))) (elt := dLoc 2) (ρ := [some (.val v), some (.val (.tuple [.tuple as, y])), none]) (ρ1 := [some (.val v), some (.val (.tuple [.tuple as, y])), none]) (l := as) (f := id) (g := fun d => if !isNo d then some d else none)
                  (by simp [dLoc, dCon, dNil, dCons, dOp, dTup, dLst, looks, look, frz, dCall, dCallV, dCallK, reord, sSeq2, sSkip, sExp, sRet, sRetN, sIf, sAsg, sAsgT, bVal, bTru, bNot, bAnd, bOr, bYes, dAnd, dOr, dNot, dIf, tName, gsNil, gsCons, gTupD, Dn.tSub, Dn.valOf, asB, ownAt, asI, isPin, sl, dCut, iOf, iNo, fin, endV, runP, runF, runV, runW, startR, startV, dEmp, dChain, res, truR, Dn.tru, itemsOf, sNone, sSeq, sRg1, sRg2, sZip, sEnum, sFor, dApp, dPop, sBrk, sCnt, isNone, atI0, atI1, atI2, ixN3_0, ixN3_1, ixN3_2, ixN2_0, ixN2_1, noPins, e_add, e_addT, e_addL, e_sub, e_mul, e_mulL, e_mulT, e_div, e_mod, e_neg, e_eqI, e_neI, e_eqB, e_eqT, e_eqL, e_neT, e_neL, e_cmp, e_is, e_isnot, e_ixL, e_ixT, e_lenL, e_lenT, e_tupL, e_tupT, e_lstL, e_lstT, e_int, e_intB, e_abs, e_sum, e_divmod, e_gcd, e_max, e_min, e_isi, e_cutL, e_cutT]) (by simp [dLoc, dCon, dNil, dCons, dOp, dTup, dLst, looks, look, frz, dCall, dCallV, dCallK, reord, sSeq2, sSkip, sExp, sRet, sRetN, sIf, sAsg, sAsgT, bVal, bTru, bNot, bAnd, bOr, bYes, dAnd, dOr, dNot, dIf, tName, gsNil, gsCons, gTupD, Dn.tSub, Dn.valOf, asB, ownAt, asI, isPin, sl, dCut, iOf, iNo, fin, endV, runP, runF, runV, runW, startR, startV, dEmp, dChain, res, truR, Dn.tru, itemsOf, sNone, sSeq, sRg1, sRg2, sZip, sEnum, sFor, dApp, dPop, sBrk, sCnt, isNone, atI0, atI1, atI2, ixN3_0, ixN3_1, ixN3_2, ixN2_0, ixN2_1, noPins, e_add, e_addT, e_addL, e_sub, e_mul, e_mulL, e_mulT, e_div, e_mod, e_neg, e_eqI, e_neI, e_eqB, e_eqT, e_eqL, e_neT, e_neL, e_cmp, e_is, e_isnot, e_ixL, e_ixT, e_lenL, e_lenT, e_tupL, e_tupT, e_lstL, e_lstT, e_int, e_intB, e_abs, e_sum, e_divmod, e_gcd, e_max, e_min, e_isi, e_cutL, e_cutT]) (by omega) (fun d hd => by
                    obtain ⟨a', b', rfl, e⟩ := ix_num (List.all_eq_true.mp q d hd)
                    rw [e]
                    cases hz : (a' == 0) <;> simp [stepC, dLoc, dCon, dNil, dCons, dOp, dTup, dLst, looks, look, frz, dCall, dCallV, dCallK, reord, sSeq2, sSkip, sExp, sRet, sRetN, sIf, sAsg, sAsgT, bVal, bTru, bNot, bAnd, bOr, bYes, dAnd, dOr, dNot, dIf, tName, gsNil, gsCons, gTupD, Dn.tSub, Dn.valOf, asB, ownAt, asI, isPin, sl, dCut, iOf, iNo, fin, endV, runP, runF, runV, runW, startR, startV, dEmp, dChain, res, truR, Dn.tru, itemsOf, sNone, sSeq, sRg1, sRg2, sZip, sEnum, sFor, dApp, dPop, sBrk, sCnt, isNone, atI0, atI1, atI2, ixN3_0, ixN3_1, ixN3_2, ixN2_0, ixN2_1, noPins, e_add, e_addT, e_addL, e_sub, e_mul, e_mulL, e_mulT, e_div, e_mod, e_neg, e_eqI, e_neI, e_eqB, e_eqT, e_eqL, e_neT, e_neL, e_cmp, e_is, e_isnot, e_ixL, e_ixT, e_lenL, e_lenT, e_tupL, e_tupT, e_lstL, e_lstT, e_int, e_intB, e_abs, e_sum, e_divmod, e_gcd, e_max, e_min, e_isi, e_cutL, e_cutT, wipeR, hz])
                rw [filterMap_if] at c2
                cases q2 : as.all isNo with
                | true =>
                  refine .inr ⟨by simp [isWall, q2], ?_⟩
                  simp [bodyF, dLoc, dCon, dNil, dCons, dOp, dTup, dLst, looks, look, frz, dCall, dCallV, dCallK, reord, sSeq2, sSkip, sExp, sRet, sRetN, sIf, sAsg, sAsgT, bVal, bTru, bNot, bAnd, bOr, bYes, dAnd, dOr, dNot, dIf, tName, gsNil, gsCons, gTupD, Dn.tSub, Dn.valOf, asB, ownAt, asI, isPin, sl, dCut, iOf, iNo, fin, endV, runP, runF, runV, runW, startR, startV, dEmp, dChain, res, truR, Dn.tru, itemsOf, sNone, sSeq, sRg1, sRg2, sZip, sEnum, sFor, dApp, dPop, sBrk, sCnt, isNone, atI0, atI1, atI2, ixN3_0, ixN3_1, ixN3_2, ixN2_0, ixN2_1, noPins, e_add, e_addT, e_addL, e_sub, e_mul, e_mulL, e_mulT, e_div, e_mod, e_neg, e_eqI, e_neI, e_eqB, e_eqT, e_eqL, e_neT, e_neL, e_cmp, e_is, e_isnot, e_ixL, e_ixT, e_lenL, e_lenT, e_tupL, e_tupT, e_lstL, e_lstT, e_int, e_intB, e_abs, e_sum, e_divmod, e_gcd, e_max, e_min, e_isi, e_cutL, e_cutT, isTy_tup, fy, y1, y2, z1, z2, c, b, c2, wipeR, filter_empty, q2, -List.map_map]
                | false =>
                  refine .inl ⟨by simp [isWall, z1, z2, q, q2, hy], ?_⟩
                  simp [bodyF, dLoc, dCon, dNil, dCons, dOp, dTup, dLst, looks, look, frz, dCall, dCallV, dCallK, reord, sSeq2, sSkip, sExp, sRet, sRetN, sIf, sAsg, sAsgT, bVal, bTru, bNot, bAnd, bOr, bYes, dAnd, dOr, dNot, dIf, tName, gsNil, gsCons, gTupD, Dn.tSub, Dn.valOf, asB, ownAt, asI, isPin, sl, dCut, iOf, iNo, fin, endV, runP, runF, runV, runW, startR, startV, dEmp, dChain, res, truR, Dn.tru, itemsOf, sNone, sSeq, sRg1, sRg2, sZip, sEnum, sFor, dApp, dPop, sBrk, sCnt, isNone, atI0, atI1, atI2, ixN3_0, ixN3_1, ixN3_2, ixN2_0, ixN2_1, noPins, e_add, e_addT, e_addL, e_sub, e_mul, e_mulL, e_mulT, e_div, e_mod, e_neg, e_eqI, e_neI, e_eqB, e_eqT, e_eqL, e_neT, e_neL, e_cmp, e_is, e_isnot, e_ixL, e_ixT, e_lenL, e_lenT, e_tupL, e_tupT, e_lstL, e_lstT, e_int, e_intB, e_abs, e_sum, e_divmod, e_gcd, e_max, e_min, e_isi, e_cutL, e_cutT, isTy_tup, fy, y1, y2, z1, z2, c, b, c2, wipeR, filter_empty, q2, -List.map_map]
            · have y2 : decide ((as.length : Int) ≤ 5) = false := decide_eq_false (by omega)
              refine .inr ⟨by simp [isWall, z2], ?_⟩
              simp [bodyF, dLoc, dCon, dNil, dCons, dOp, dTup, dLst, looks, look, frz, dCall, dCallV, dCallK, reord, sSeq2, sSkip, sExp, sRet, sRetN, sIf, sAsg, sAsgT, bVal, bTru, bNot, bAnd, bOr, bYes, dAnd, dOr, dNot, dIf, tName, gsNil, gsCons, gTupD, Dn.tSub, Dn.valOf, asB, ownAt, asI, isPin, sl, dCut, iOf, iNo, fin, endV, runP, runF, runV, runW, startR, startV, dEmp, dChain, res, truR, Dn.tru, itemsOf, sNone, sSeq, sRg1, sRg2, sZip, sEnum, sFor, dApp, dPop, sBrk, sCnt, isNone, atI0, atI1, atI2, ixN3_0, ixN3_1, ixN3_2, ixN2_0, ixN2_1, noPins, e_add, e_addT, e_addL, e_sub, e_mul, e_mulL, e_mulT, e_div, e_mod, e_neg, e_eqI, e_neI, e_eqB, e_eqT, e_eqL, e_neT, e_neL, e_cmp, e_is, e_isnot, e_ixL, e_ixT, e_lenL, e_lenT, e_tupL, e_tupT, e_lstL, e_lstT, e_int, e_intB, e_abs, e_sum, e_divmod, e_gcd, e_max, e_min, e_isi, e_cutL, e_cutT, isTy_tup, fy, y1, y2, z1, z2]
          · have y1 : decide ((1 : Int) ≤ (as.length : Int)) = false := decide_eq_false (by omega)
            refine .inr ⟨by simp [isWall, z1], ?_⟩
            simp [bodyF, dLoc, dCon, dNil, dCons, dOp, dTup, dLst, looks, look, frz, dCall, dCallV, dCallK, reord, sSeq2, sSkip, sExp, sRet, sRetN, sIf, sAsg, sAsgT, bVal, bTru, bNot, bAnd, bOr, bYes, dAnd, dOr, dNot, dIf, tName, gsNil, gsCons, gTupD, Dn.tSub, Dn.valOf, asB, ownAt, asI, isPin, sl, dCut, iOf, iNo, fin, endV, runP, runF, runV, runW, startR, startV, dEmp, dChain, res, truR, Dn.tru, itemsOf, sNone, sSeq, sRg1, sRg2, sZip, sEnum, sFor, dApp, dPop, sBrk, sCnt, isNone, atI0, atI1, atI2, ixN3_0, ixN3_1, ixN3_2, ixN2_0, ixN2_1, noPins, e_add, e_addT, e_addL, e_sub, e_mul, e_mulL, e_mulT, e_div, e_mod, e_neg, e_eqI, e_neI, e_eqB, e_eqT, e_eqL, e_neT, e_neL, e_cmp, e_is, e_isnot, e_ixL, e_ixT, e_lenL, e_lenT, e_tupL, e_tupT, e_lstL, e_lstT, e_int, e_intB, e_abs, e_sum, e_divmod, e_gcd, e_max, e_min, e_isi, e_cutL, e_cutT, isTy_tup, fy, y1, z1]
        · refine .inr ⟨by cases x <;> first | rfl | exact absurd rfl (g1 _), ?_⟩
          simp [bodyF, dLoc, dCon, dNil, dCons, dOp, dTup, dLst, looks, look, frz, dCall, dCallV, dCallK, reord, sSeq2, sSkip, sExp, sRet, sRetN, sIf, sAsg, sAsgT, bVal, bTru, bNot, bAnd, bOr, bYes, dAnd, dOr, dNot, dIf, tName, gsNil, gsCons, gTupD, Dn.tSub, Dn.valOf, asB, ownAt, asI, isPin, sl, dCut, iOf, iNo, fin, endV, runP, runF, runV, runW, startR, startV, dEmp, dChain, res, truR, Dn.tru, itemsOf, sNone, sSeq, sRg1, sRg2, sZip, sEnum, sFor, dApp, dPop, sBrk, sCnt, isNone, atI0, atI1, atI2, ixN3_0, ixN3_1, ixN3_2, ixN2_0, ixN2_1, noPins, e_add, e_addT, e_addL, e_sub, e_mul, e_mulL, e_mulT, e_div, e_mod, e_neg, e_eqI, e_neI, e_eqB, e_eqT, e_eqL, e_neT, e_neL, e_cmp, e_is, e_isnot, e_ixL, e_ixT, e_lenL, e_lenT, e_tupL, e_tupT, e_lstL, e_lstT, e_int, e_intB, e_abs, e_sum, e_divmod, e_gcd, e_max, e_min, e_isi, e_cutL, e_cutT, isTy_tup, fy, g2]
    · have e2 : ((ds.length : Int) == 2) = false := by simp; omega
      refine .inr ⟨?_, ?_⟩
      · cases hw : isWall (.tuple ds) with
        | false => rfl
        | true =>
          obtain ⟨as, b, e, _⟩ := isWall_some hw
          cases e
          exact absurd rfl z
      · simp [bodyF, dLoc, dCon, dNil, dCons, dOp, dTup, dLst, looks, look, frz, dCall, dCallV, dCallK, reord, sSeq2, sSkip, sExp, sRet, sRetN, sIf, sAsg, sAsgT, bVal, bTru, bNot, bAnd, bOr, bYes, dAnd, dOr, dNot, dIf, tName, gsNil, gsCons, gTupD, Dn.tSub, Dn.valOf, asB, ownAt, asI, isPin, sl, dCut, iOf, iNo, fin, endV, runP, runF, runV, runW, startR, startV, dEmp, dChain, res, truR, Dn.tru, itemsOf, sNone, sSeq, sRg1, sRg2, sZip, sEnum, sFor, dApp, dPop, sBrk, sCnt, isNone, atI0, atI1, atI2, ixN3_0, ixN3_1, ixN3_2, ixN2_0, ixN2_1, noPins, e_add, e_addT, e_addL, e_sub, e_mul, e_mulL, e_mulT, e_div, e_mod, e_neg, e_eqI, e_neI, e_eqB, e_eqT, e_eqL, e_neT, e_neL, e_cmp, e_is, e_isnot, e_ixL, e_ixT, e_lenL, e_lenT, e_tupL, e_tupT, e_lstL, e_lstT, e_int, e_intB, e_abs, e_sum, e_divmod, e_gcd, e_max, e_min, e_isi, e_cutL, e_cutT, isTy_tup, e2]
  · refine .inr ⟨by cases d <;> first | rfl | exact absurd rfl (h1 _), ?_⟩
    simp [bodyF, dLoc, dCon, dNil, dCons, dOp, dTup, dLst, looks, look, frz, dCall, dCallV, dCallK, reord, sSeq2, sSkip, sExp, sRet, sRetN, sIf, sAsg, sAsgT, bVal, bTru, bNot, bAnd, bOr, bYes, dAnd, dOr, dNot, dIf, tName, gsNil, gsCons, gTupD, Dn.tSub, Dn.valOf, asB, ownAt, asI, isPin, sl, dCut, iOf, iNo, fin, endV, runP, runF, runV, runW, startR, startV, dEmp, dChain, res, truR, Dn.tru, itemsOf, sNone, sSeq, sRg1, sRg2, sZip, sEnum, sFor, dApp, dPop, sBrk, sCnt, isNone, atI0, atI1, atI2, ixN3_0, ixN3_1, ixN3_2, ixN2_0, ixN2_1, noPins, e_add, e_addT, e_addL, e_sub, e_mul, e_mulL, e_mulT, e_div, e_mod, e_neg, e_eqI, e_neI, e_eqB, e_eqT, e_eqL, e_neT, e_neL, e_cmp, e_is, e_isnot, e_ixL, e_ixT, e_lenL, e_lenT, e_tupL, e_tupT, e_lstL, e_lstT, e_int, e_intB, e_abs, e_sum, e_divmod, e_gcd, e_max, e_min, e_isi, e_cutL, e_cutT, h2]
theorem fence_loop {n L : Nat} (hL : L ≤ 1000) (hn : n ≤ 9000) {v : D} : ∀ (ds : List D) (i1 : Option D), (∀ d ∈ ds, ∃ F, OKD n L F d) →
    (∃ j1, loopF (tName 1) bodyF ds [some (.val v), i1.map Slot.val, none] = some (.nx [some (.val v), Option.map Slot.val j1, none]) ∧ ds.all isWall = true) ∨ (∃ ρ', loopF (tName 1) bodyF ds [some (.val v), i1.map Slot.val, none] = some (.rt (.v (.bool false)) ρ') ∧ ds.all isWall = false)
  | [], i1, _ => .inl ⟨i1, rfl, rfl⟩
  | d :: ds, i1, hd => by
    obtain ⟨F, o⟩ := hd d List.mem_cons_self
    have t : tName 1 (.v d) [some (.val v), i1.map Slot.val, none] = some [some (.val v), some (.val d), none] := by cases i1 <;> simp [dLoc, dCon, dNil, dCons, dOp, dTup, dLst, looks, look, frz, dCall, dCallV, dCallK, reord, sSeq2, sSkip, sExp, sRet, sRetN, sIf, sAsg, sAsgT, bVal, bTru, bNot, bAnd, bOr, bYes, dAnd, dOr, dNot, dIf, tName, gsNil, gsCons, gTupD, Dn.tSub, Dn.valOf, asB, ownAt, asI, isPin, sl, dCut, iOf, iNo, fin, endV, runP, runF, runV, runW, startR, startV, dEmp, dChain, res, truR, Dn.tru, itemsOf, sNone, sSeq, sRg1, sRg2, sZip, sEnum, sFor, dApp, dPop, sBrk, sCnt, isNone, atI0, atI1, atI2, ixN3_0, ixN3_1, ixN3_2, ixN2_0, ixN2_1, noPins, e_add, e_addT, e_addL, e_sub, e_mul, e_mulL, e_mulT, e_div, e_mod, e_neg, e_eqI, e_neI, e_eqB, e_eqT, e_eqL, e_neT, e_neL, e_cmp, e_is, e_isnot, e_ixL, e_ixT, e_lenL, e_lenT, e_tupL, e_tupT, e_lstL, e_lstT, e_int, e_intB, e_abs, e_sum, e_divmod, e_gcd, e_max, e_min, e_isi, e_cutL, e_cutT]
    rcases bodyF_q (v := v) o hL hn with ⟨w, e⟩ | ⟨w, ρ', e⟩
    · rcases fence_loop hL hn ds (some d) (fun x hx => hd x (List.mem_cons_of_mem _ hx)) with ⟨j1, e2, q⟩ | ⟨ρ', e2, q⟩
      · refine .inl ⟨j1, ?_, by rw [List.all_cons, w, q]; rfl⟩
        rw [← e2, loopF, t]
        simp only [e]
        rfl
      · refine .inr ⟨ρ', ?_, by rw [List.all_cons, q]; simp⟩
        rw [← e2, loopF, t]
        simp only [e]
        rfl
    · refine .inr ⟨ρ', ?_, by rw [List.all_cons, w]; rfl⟩
      rw [loopF, t]
      simp only [e]
theorem are_fence_eq : d__law_are_fence = (sSeq2 (sIf (bOr (bNot (bTru (dOp (pIsi "tuple") (dCons (dLoc 0) dNil)))) (bNot (bVal (dChain (fun i j => decide (i ≤ j)) (fun i j => decide (i ≤ j)) (dCon (.int 1)) (dOp pLen (dCons (dLoc 0) dNil)) (dCon (.int 6)))))) (sSeq2 (sRet (dCon (.bool false)))
  sSkip) sSkip)
  (sSeq2 (sFor (sSeq (dLoc 0)) (tName 1) bodyF)
  (sSeq2 (sRet (dOp pEq (dCons (dComp [1] (sSeq (dLoc 0)) (tName 1) (bVal (dOp pNe (dCons (dOp pLen (dCons (dOp pIx (dCons (dLoc 1) (dCons (dCon (.int 0)) dNil))) dNil)) (dCons (dOp pLen (dCons (dOp pIx (dCons (dOp pIx (dCons (dLoc 0) (dCons (dCon (.int 0)) dNil))) (dCons (dCon (.int 0)) dNil))) dNil)) dNil)))) (dLoc 1)) (dCons (dLst dNil) dNil))))
  sSkip))) := rfl
theorem law_are_fence_q {d : D} {n L F : Nat} (h : OKD n L F d) (hL : L ≤ 1000) (hn : n ≤ 9000) : F__law_are_fence [d] = some (.v (.bool (isFence d))) := by
  rcases tup_or d with ⟨ds, rfl⟩ | ⟨h1, h2⟩
  · obtain ⟨hl, G, rfl, hs⟩ := h.tup
    by_cases z1 : 1 ≤ ds.length
    · have y1 : decide ((1 : Int) ≤ (ds.length : Int)) = true := decide_eq_true (by omega)
      by_cases z2 : ds.length ≤ 6
      · have y2 : decide ((ds.length : Int) ≤ 6) = true := decide_eq_true (by omega)
        rcases fence_loop (v := .tuple ds) hL hn ds none (fun x hx => ⟨G, hs x hx⟩) with ⟨j1, e, q⟩ | ⟨ρ', e, q⟩
        · obtain ⟨e0, rest, rfl⟩ : ∃ e0 rest, ds = e0 :: rest := by cases ds with
            | nil => simp at z1
            | cons a b => exact ⟨a, b, rfl⟩
          obtain ⟨as0, b0, e00, _⟩ := isWall_some (List.all_eq_true.mp q e0 (by simp))
          have c := dComp_map (vs := [1]) (src := sSeq (dLoc 0)) (tgt := tName 1) (cond := bVal (dOp pNe (dCons (dOp pLen (dCons (dOp pIx (dCons (dLoc 1) (dCons (dCon (.int 0)) dNil))) dNil)) (dCons (dOp pLen (dCons (dOp pIx (dCons (dOp pIx (dCons (dLoc 0) (dCons (dCon (.int 0)) dNil))) (dCons (dCon (.int 0)) dNil))) dNil)) dNil)))) (elt := dLoc 1) (ρ := [some (.val (.tuple (e0 :: rest))), Option.map Slot.val j1, none]) (ρ1 := [some (.val (.tuple (e0 :: rest))), Option.map Slot.val j1, none]) (l := e0 :: rest) (f := id) (g := fun d => if !(wallLen d == wallLen e0) then some d else none)
            (by simp [dLoc, dCon, dNil, dCons, dOp, dTup, dLst, looks, look, frz, dCall, dCallV, dCallK, reord, sSeq2, sSkip, sExp, sRet, sRetN, sIf, sAsg, sAsgT, bVal, bTru, bNot, bAnd, bOr, bYes, dAnd, dOr, dNot, dIf, tName, gsNil, gsCons, gTupD, Dn.tSub, Dn.valOf, asB, ownAt, asI, isPin, sl, dCut, iOf, iNo, fin, endV, runP, runF, runV, runW, startR, startV, dEmp, dChain, res, truR, Dn.tru, itemsOf, sNone, sSeq, sRg1, sRg2, sZip, sEnum, sFor, dApp, dPop, sBrk, sCnt, isNone, atI0, atI1, atI2, ixN3_0, ixN3_1, ixN3_2, ixN2_0, ixN2_1, noPins, e_add, e_addT, e_addL, e_sub, e_mul, e_mulL, e_mulT, e_div, e_mod, e_neg, e_eqI, e_neI, e_eqB, e_eqT, e_eqL, e_neT, e_neL, e_cmp, e_is, e_isnot, e_ixL, e_ixT, e_lenL, e_lenT, e_tupL, e_tupT, e_lstL, e_lstT, e_int, e_intB, e_abs, e_sum, e_divmod, e_gcd, e_max, e_min, e_isi, e_cutL, e_cutT]) (by cases j1 <;> simp [dLoc, dCon, dNil, dCons, dOp, dTup, dLst, looks, look, frz, dCall, dCallV, dCallK, reord, sSeq2, sSkip, sExp, sRet, sRetN, sIf, sAsg, sAsgT, bVal, bTru, bNot, bAnd, bOr, bYes, dAnd, dOr, dNot, dIf, tName, gsNil, gsCons, gTupD, Dn.tSub, Dn.valOf, asB, ownAt, asI, isPin, sl, dCut, iOf, iNo, fin, endV, runP, runF, runV, runW, startR, startV, dEmp, dChain, res, truR, Dn.tru, itemsOf, sNone, sSeq, sRg1, sRg2, sZip, sEnum, sFor, dApp, dPop, sBrk, sCnt, isNone, atI0, atI1, atI2, ixN3_0, ixN3_1, ixN3_2, ixN2_0, ixN2_1, noPins, e_add, e_addT, e_addL, e_sub, e_mul, e_mulL, e_mulT, e_div, e_mod, e_neg, e_eqI, e_neI, e_eqB, e_eqT, e_eqL, e_neT, e_neL, e_cmp, e_is, e_isnot, e_ixL, e_ixT, e_lenL, e_lenT, e_tupL, e_tupT, e_lstL, e_lstT, e_int, e_intB, e_abs, e_sum, e_divmod, e_gcd, e_max, e_min, e_isi, e_cutL, e_cutT]) (by omega) (fun d hd => by
              obtain ⟨as, b, rfl, _⟩ := isWall_some (List.all_eq_true.mp q d hd)
              subst e00
              have ee : ((as.length : Int) == (as0.length : Int)) = (as.length == as0.length) := by rw [Bool.eq_iff_iff]; simp; omega
              cases hz : (as.length == as0.length) <;> simp [stepC, dLoc, dCon, dNil, dCons, dOp, dTup, dLst, looks, look, frz, dCall, dCallV, dCallK, reord, sSeq2, sSkip, sExp, sRet, sRetN, sIf, sAsg, sAsgT, bVal, bTru, bNot, bAnd, bOr, bYes, dAnd, dOr, dNot, dIf, tName, gsNil, gsCons, gTupD, Dn.tSub, Dn.valOf, asB, ownAt, asI, isPin, sl, dCut, iOf, iNo, fin, endV, runP, runF, runV, runW, startR, startV, dEmp, dChain, res, truR, Dn.tru, itemsOf, sNone, sSeq, sRg1, sRg2, sZip, sEnum, sFor, dApp, dPop, sBrk, sCnt, isNone, atI0, atI1, atI2, ixN3_0, ixN3_1, ixN3_2, ixN2_0, ixN2_1, noPins, e_add, e_addT, e_addL, e_sub, e_mul, e_mulL, e_mulT, e_div, e_mod, e_neg, e_eqI, e_neI, e_eqB, e_eqT, e_eqL, e_neT, e_neL, e_cmp, e_is, e_isnot, e_ixL, e_ixT, e_lenL, e_lenT, e_tupL, e_tupT, e_lstL, e_lstT, e_int, e_intB, e_abs, e_sum, e_divmod, e_gcd, e_max, e_min, e_isi, e_cutL, e_cutT, wipeR, wallLen, ee, hz])
          rw [filterMap_if] at c
          have fl : isFence (.tuple (e0 :: rest)) = (e0 :: rest).all fun d => wallLen d == wallLen e0 := by
            simp only [isFence, decide_eq_true z1, decide_eq_true z2, q, List.headD_cons, Bool.true_and]
          simp only [Option.map_none] at e
          simp only [F__law_are_fence, runF, runP, are_fence_eq]
          rw [fl]
          have pl : pLen [.tuple (e0 :: rest)] = some (.v (.int ((e0 :: rest).length : Int))) := rfl
          generalize (e0 :: rest).length = m at pl y1 y2 z1 z2
          simp [dLoc, dCon, dNil, dCons, dOp, dTup, dLst, looks, look, frz, dCall, dCallV, dCallK, reord, sSeq2, sSkip, sExp, sRet, sRetN, sIf, sAsg, sAsgT, bVal, bTru, bNot, bAnd, bOr, bYes, dAnd, dOr, dNot, dIf, tName, gsNil, gsCons, gTupD, Dn.tSub, Dn.valOf, asB, ownAt, asI, isPin, sl, dCut, iOf, iNo, fin, endV, runP, runF, runV, runW, startR, startV, dEmp, dChain, res, truR, Dn.tru, itemsOf, sNone, sSeq, sRg1, sRg2, sZip, sEnum, sFor, dApp, dPop, sBrk, sCnt, isNone, atI0, atI1, atI2, ixN3_0, ixN3_1, ixN3_2, ixN2_0, ixN2_1, noPins, e_add, e_addT, e_addL, e_sub, e_mul, e_mulL, e_mulT, e_div, e_mod, e_neg, e_eqI, e_neI, e_eqB, e_eqT, e_eqL, e_neT, e_neL, e_cmp, e_is, e_isnot, e_ixL, e_ixT, e_lenL, e_lenT, e_tupL, e_tupT, e_lstL, e_lstT, e_int, e_intB, e_abs, e_sum, e_divmod, e_gcd, e_max, e_min, e_isi, e_cutL, e_cutT, isTy_tup, pl, y1, y2, z1, z2, e, c, filter_empty, wipeR, -e_lenT, -List.all_cons, -List.filter_cons]
          rw [List.all_cons, beq_self_eq_true, Bool.true_and]
        · simp only [Option.map_none] at e
          have fl : isFence (.tuple ds) = false := by simp [isFence, q]
          simp only [F__law_are_fence, runF, runP, are_fence_eq]
          rw [fl]
          simp [dLoc, dCon, dNil, dCons, dOp, dTup, dLst, looks, look, frz, dCall, dCallV, dCallK, reord, sSeq2, sSkip, sExp, sRet, sRetN, sIf, sAsg, sAsgT, bVal, bTru, bNot, bAnd, bOr, bYes, dAnd, dOr, dNot, dIf, tName, gsNil, gsCons, gTupD, Dn.tSub, Dn.valOf, asB, ownAt, asI, isPin, sl, dCut, iOf, iNo, fin, endV, runP, runF, runV, runW, startR, startV, dEmp, dChain, res, truR, Dn.tru, itemsOf, sNone, sSeq, sRg1, sRg2, sZip, sEnum, sFor, dApp, dPop, sBrk, sCnt, isNone, atI0, atI1, atI2, ixN3_0, ixN3_1, ixN3_2, ixN2_0, ixN2_1, noPins, e_add, e_addT, e_addL, e_sub, e_mul, e_mulL, e_mulT, e_div, e_mod, e_neg, e_eqI, e_neI, e_eqB, e_eqT, e_eqL, e_neT, e_neL, e_cmp, e_is, e_isnot, e_ixL, e_ixT, e_lenL, e_lenT, e_tupL, e_tupT, e_lstL, e_lstT, e_int, e_intB, e_abs, e_sum, e_divmod, e_gcd, e_max, e_min, e_isi, e_cutL, e_cutT, isTy_tup, y1, y2, z1, z2, e]
      · have y2 : decide ((ds.length : Int) ≤ 6) = false := decide_eq_false (by omega)
        simp [F__law_are_fence, d__law_are_fence, dLoc, dCon, dNil, dCons, dOp, dTup, dLst, looks, look, frz, dCall, dCallV, dCallK, reord, sSeq2, sSkip, sExp, sRet, sRetN, sIf, sAsg, sAsgT, bVal, bTru, bNot, bAnd, bOr, bYes, dAnd, dOr, dNot, dIf, tName, gsNil, gsCons, gTupD, Dn.tSub, Dn.valOf, asB, ownAt, asI, isPin, sl, dCut, iOf, iNo, fin, endV, runP, runF, runV, runW, startR, startV, dEmp, dChain, res, truR, Dn.tru, itemsOf, sNone, sSeq, sRg1, sRg2, sZip, sEnum, sFor, dApp, dPop, sBrk, sCnt, isNone, atI0, atI1, atI2, ixN3_0, ixN3_1, ixN3_2, ixN2_0, ixN2_1, noPins, e_add, e_addT, e_addL, e_sub, e_mul, e_mulL, e_mulT, e_div, e_mod, e_neg, e_eqI, e_neI, e_eqB, e_eqT, e_eqL, e_neT, e_neL, e_cmp, e_is, e_isnot, e_ixL, e_ixT, e_lenL, e_lenT, e_tupL, e_tupT, e_lstL, e_lstT, e_int, e_intB, e_abs, e_sum, e_divmod, e_gcd, e_max, e_min, e_isi, e_cutL, e_cutT, isTy_tup, y1, y2, z1, z2, isFence]
    · have y1 : decide ((1 : Int) ≤ (ds.length : Int)) = false := decide_eq_false (by omega)
      simp [F__law_are_fence, d__law_are_fence, dLoc, dCon, dNil, dCons, dOp, dTup, dLst, looks, look, frz, dCall, dCallV, dCallK, reord, sSeq2, sSkip, sExp, sRet, sRetN, sIf, sAsg, sAsgT, bVal, bTru, bNot, bAnd, bOr, bYes, dAnd, dOr, dNot, dIf, tName, gsNil, gsCons, gTupD, Dn.tSub, Dn.valOf, asB, ownAt, asI, isPin, sl, dCut, iOf, iNo, fin, endV, runP, runF, runV, runW, startR, startV, dEmp, dChain, res, truR, Dn.tru, itemsOf, sNone, sSeq, sRg1, sRg2, sZip, sEnum, sFor, dApp, dPop, sBrk, sCnt, isNone, atI0, atI1, atI2, ixN3_0, ixN3_1, ixN3_2, ixN2_0, ixN2_1, noPins, e_add, e_addT, e_addL, e_sub, e_mul, e_mulL, e_mulT, e_div, e_mod, e_neg, e_eqI, e_neI, e_eqB, e_eqT, e_eqL, e_neT, e_neL, e_cmp, e_is, e_isnot, e_ixL, e_ixT, e_lenL, e_lenT, e_tupL, e_tupT, e_lstL, e_lstT, e_int, e_intB, e_abs, e_sum, e_divmod, e_gcd, e_max, e_min, e_isi, e_cutL, e_cutT, isTy_tup, y1, z1, isFence]
  · cases d <;> first | (exact absurd rfl (h1 _)) | simp [F__law_are_fence, d__law_are_fence, dLoc, dCon, dNil, dCons, dOp, dTup, dLst, looks, look, frz, dCall, dCallV, dCallK, reord, sSeq2, sSkip, sExp, sRet, sRetN, sIf, sAsg, sAsgT, bVal, bTru, bNot, bAnd, bOr, bYes, dAnd, dOr, dNot, dIf, tName, gsNil, gsCons, gTupD, Dn.tSub, Dn.valOf, asB, ownAt, asI, isPin, sl, dCut, iOf, iNo, fin, endV, runP, runF, runV, runW, startR, startV, dEmp, dChain, res, truR, Dn.tru, itemsOf, sNone, sSeq, sRg1, sRg2, sZip, sEnum, sFor, dApp, dPop, sBrk, sCnt, isNone, atI0, atI1, atI2, ixN3_0, ixN3_1, ixN3_2, ixN2_0, ixN2_1, noPins, e_add, e_addT, e_addL, e_sub, e_mul, e_mulL, e_mulT, e_div, e_mod, e_neg, e_eqI, e_neI, e_eqB, e_eqT, e_eqL, e_neT, e_neL, e_cmp, e_is, e_isnot, e_ixL, e_ixT, e_lenL, e_lenT, e_tupL, e_tupT, e_lstL, e_lstT, e_int, e_intB, e_abs, e_sum, e_divmod, e_gcd, e_max, e_min, e_isi, e_cutL, e_cutT, h2, isFence]
end
end Pq

set_option Elab.async false
set_option linter.all false
set_option maxRecDepth 100000
set_option maxHeartbeats 4000000
namespace K84
open PySem PySem.Spec PyProof.Rows L2 Dn
noncomputable section
def topS (i : Nat) : Stmt := PySem.Challenge.pw_sweepends_k84_whole_walls_and_steps.main.body.getD i (.Pass ⟨0, 0, 0, 0⟩)
abbrev s__law_draw : Stmt := topS 46
abbrev s__law_pick : Stmt := topS 47
abbrev s__law_ratio : Stmt := topS 48
abbrev s__law_small : Stmt := topS 55
abbrev s__law_row : Stmt := topS 56
abbrev s__law_plus : Stmt := topS 49
abbrev s__law_by : Stmt := topS 51
abbrev s__law_dot : Stmt := topS 54
abbrev s__law_fence : Stmt := topS 58
abbrev s__law_strange : Stmt := topS 62
abbrev s__law_bent : Stmt := topS 63
abbrev s__law_is_frac : Stmt := topS 61
abbrev s__law_are_fence : Stmt := topS 64
abbrev s_is_whole : Stmt := topS 8
abbrev s_are_wholes : Stmt := topS 10
abbrev s_is_fraction : Stmt := topS 16
abbrev s_are_fractions : Stmt := topS 18
abbrev s_is_noughts : Stmt := topS 31
abbrev s_is_wall : Stmt := topS 35
abbrev s_are_walls : Stmt := topS 36
abbrev s_is_fence : Stmt := topS 39
abbrev s__law_is_known : Stmt := topS 66
abbrev s__law_added : Stmt := topS 57
abbrev s__law_over : Stmt := topS 52
abbrev s__law_minus : Stmt := topS 50
abbrev s__law_stepped : Stmt := topS 59
abbrev s_check_walls : Stmt := topS 40
abbrev s_is_amount : Stmt := topS 17
abbrev s_check_share : Stmt := topS 41
abbrev s_check_row : Stmt := topS 19
abbrev s_common_part : Stmt := topS 11
abbrev s_lowest : Stmt := topS 12
abbrev s_lowest_over : Stmt := topS 13
abbrev s_ratio : Stmt := topS 14
abbrev s_divided : Stmt := topS 25
abbrev s_plus : Stmt := topS 22
abbrev s_row_sum : Stmt := topS 29
abbrev s_minus : Stmt := topS 23
abbrev s_total : Stmt := topS 26
abbrev s_times : Stmt := topS 24
abbrev s_dot : Stmt := topS 28
abbrev s_row_scaled : Stmt := topS 30
abbrev s_moved : Stmt := topS 37
abbrev s_is_between : Stmt := topS 9
abbrev s_unknowns : Stmt := topS 42
abbrev s_wall_step : Stmt := topS 43
abbrev s__law_share : Stmt := topS 60
abbrev s__law_below : Stmt := topS 53
abbrev s__law_apart : Stmt := topS 65
abbrev s__law_right : Stmt := topS 67
abbrev s__law_pool : Stmt := topS 45
abbrev s_law : Stmt := topS 68
/-- what stands under the names of the module -/
structure Env (K : PySem.W.Frag) (mg : Str → Option Value) : Prop where
  r__law_draw : Raw K mg "_law_draw" s__law_draw
  r__law_pick : Raw K mg "_law_pick" s__law_pick
  r__law_ratio : Raw K mg "_law_ratio" s__law_ratio
  r__law_small : Raw K mg "_law_small" s__law_small
  r__law_row : Raw K mg "_law_row" s__law_row
  r__law_plus : Raw K mg "_law_plus" s__law_plus
  r__law_by : Raw K mg "_law_by" s__law_by
  r__law_dot : Raw K mg "_law_dot" s__law_dot
  r__law_fence : Raw K mg "_law_fence" s__law_fence
  r__law_strange : Raw K mg "_law_strange" s__law_strange
  r__law_bent : Raw K mg "_law_bent" s__law_bent
  r__law_is_frac : Raw K mg "_law_is_frac" s__law_is_frac
  r__law_are_fence : Raw K mg "_law_are_fence" s__law_are_fence
  r_is_whole : Raw K mg "is_whole" s_is_whole
  r_are_wholes : Raw K mg "are_wholes" s_are_wholes
  r_is_fraction : Raw K mg "is_fraction" s_is_fraction
  r_are_fractions : Raw K mg "are_fractions" s_are_fractions
  r_is_noughts : Raw K mg "is_noughts" s_is_noughts
  r_is_wall : Raw K mg "is_wall" s_is_wall
  r_are_walls : Raw K mg "are_walls" s_are_walls
  r_is_fence : Raw K mg "is_fence" s_is_fence
  r__law_is_known : Raw K mg "_law_is_known" s__law_is_known
  r__law_added : Raw K mg "_law_added" s__law_added
  r__law_over : Raw K mg "_law_over" s__law_over
  r__law_minus : Raw K mg "_law_minus" s__law_minus
  r__law_stepped : Raw K mg "_law_stepped" s__law_stepped
  r_check_walls : Raw K mg "check_walls" s_check_walls
  r_is_amount : Raw K mg "is_amount" s_is_amount
  r_check_share : Raw K mg "check_share" s_check_share
  r_check_row : Raw K mg "check_row" s_check_row
  r_common_part : Raw K mg "common_part" s_common_part
  r_lowest : Raw K mg "lowest" s_lowest
  r_lowest_over : Raw K mg "lowest_over" s_lowest_over
  r_ratio : Raw K mg "ratio" s_ratio
  r_divided : Raw K mg "divided" s_divided
  r_plus : Raw K mg "plus" s_plus
  r_row_sum : Raw K mg "row_sum" s_row_sum
  r_minus : Raw K mg "minus" s_minus
  r_total : Raw K mg "total" s_total
  r_times : Raw K mg "times" s_times
  r_dot : Raw K mg "dot" s_dot
  r_row_scaled : Raw K mg "row_scaled" s_row_scaled
  r_moved : Raw K mg "moved" s_moved
  r_is_between : Raw K mg "is_between" s_is_between
  r_unknowns : Raw K mg "unknowns" s_unknowns
  r_wall_step : Raw K mg "wall_step" s_wall_step
  r__law_share : Raw K mg "_law_share" s__law_share
  r__law_below : Raw K mg "_law_below" s__law_below
  r__law_apart : Raw K mg "_law_apart" s__law_apart
  r__law_right : Raw K mg "_law_right" s__law_right
  r__law_pool : Raw K mg "_law_pool" s__law_pool
  r_law : Raw K mg "law" s_law
  z_abs : mg "abs" = none
  z_all : mg "all" = none
  z_bool : mg "bool" = none
  z_divmod : mg "divmod" = none
  z_enumerate : mg "enumerate" = none
  m_gcd : mg "gcd" = some (.builtin "math.gcd")
  z_int : mg "int" = none
  z_isinstance : mg "isinstance" = none
  z_len : mg "len" = none
  z_list : mg "list" = none
  z_max : mg "max" = none
  z_min : mg "min" = none
  z_range : mg "range" = none
  z_repr : mg "repr" = none
  z_str : mg "str" = none
  z_sum : mg "sum" = none
  z_tuple : mg "tuple" = none
  z_zip : mg "zip" = none
  c_MOST_UNKNOWNS : KGl K mg "MOST_UNKNOWNS" (.int 5)
  c_MOST_WALLS : KGl K mg "MOST_WALLS" (.int 6)
  c_NOUGHT : KGl K mg "NOUGHT" (.tuple [(.int 0), (.int 1)])
def d__law_draw : TSD := (sSeq2 (sIf (bVal (dOp pGt (dCons (dOp pIx (dCons (dLoc 0) (dCons (dCon (.int 0)) dNil))) (dCons (dCon (.int 0)) dNil)))) (sSeq2 (sAsg (dOp pDivmod (dCons (dOp pIx (dCons (dLoc 0) (dCons (dCon (.int 0)) dNil))) (dCons (dLoc 1) dNil))) (gTupD 2 (gsCons (tSub 0 (dCon (.int 0))) (gsCons (tName 3) gsNil))))
  (sSeq2 (sRet (dLoc 3))
  sSkip)) sSkip)
  (sSeq2 (sAsg (dOp pAdd (dCons (dOp pIx (dCons (dLoc 0) (dCons (dCon (.int 2)) dNil))) (dCons (dCon (.int 1)) dNil))) (tSub 0 (dCon (.int 2))))
  (sSeq2 (sAsg (dOp pMod (dCons (dOp pInt (dCons (dOp pAdd (dCons (dOp pAdd (dCons (dOp pMul (dCons (dOp pIx (dCons (dLoc 0) (dCons (dCon (.int 1)) dNil))) (dCons (dCon (.int 44021)) dNil))) (dCons (dOp pMul (dCons (dOp pIx (dCons (dLoc 0) (dCons (dCon (.int 2)) dNil))) (dCons (dCon (.int 60029)) dNil))) dNil))) (dCons (dCon (.int 23)) dNil))) dNil)) (dCons (dCon (.int 2147483629)) dNil))) (tName 2))
  (sSeq2 (sAsg (dOp pMod (dCons (dOp pInt (dCons (dOp pAdd (dCons (dOp pMul (dCons (dLoc 2) (dCons (dOp pAdd (dCons (dOp pMul (dCons (dCon (.int 3)) (dCons (dOp pDiv (dCons (dLoc 2) (dCons (dCon (.int 29)) dNil))) dNil))) (dCons (dCon (.int 20021)) dNil))) dNil))) (dCons (dOp pIx (dCons (dLoc 0) (dCons (dCon (.int 2)) dNil))) dNil))) dNil)) (dCons (dCon (.int 2147483587)) dNil))) (tSub 0 (dCon (.int 1))))
  (sSeq2 (sRet (dOp pMod (dCons (dOp pInt (dCons (dOp pDiv (dCons (dOp pIx (dCons (dLoc 0) (dCons (dCon (.int 1)) dNil))) (dCons (dCon (.int 139)) dNil))) dNil)) (dCons (dLoc 1) dNil))))
  sSkip)))))
def F__law_draw : List D → List D → Option (R × List D) := runW 2 4 d__law_draw
theorem sc__law_draw : FnScope ["pool", "many", "mixed", "digit"] ["pool", "many"] (defScope s__law_draw) := ⟨rfl, rfl, rfl, by decide +kernel, rfl, by decide +kernel, by decide +kernel⟩
theorem g__law_draw {P : Program} {w : World} {K : PySem.W.Frag} {mg : Str → Option Value} {base : Heap} (V : Env K mg) : CalV P w K mg base 1 "_law_draw" s__law_draw ["pool", "many"] F__law_draw := by
  refine cal_v V.r__law_draw sc__law_draw (fun _ _ _ _ _ _ us hl => match us, hl with | [_, _], _ => rfl) fun f cdv A outer s H E hr hG => ?_
  have ND := sc__law_draw.nd
  exact (dss_cons (ds_if (dt_cmp o_gt (de_ix o_ix (de_loc (i := 0) rfl (vis_of rfl) rfl rfl) de_int (fun _ _ => rfl)) de_int (nomark _)) (dss_cons (ds_asg (de_callB c_divmod rfl V.z_divmod bt_divmod (da_cons (de_ix o_ix (de_loc (i := 0) rfl (vis_of rfl) rfl rfl) de_int (fun _ _ => rfl)) (da_cons (de_loc (i := 1) rfl (vis_of rfl) rfl rfl) da_nil rfl) rfl) (by decide) rfl rfl rfl) (dg_tup rfl (dgs_cons (dg_sub (i := 0) (pe_var rfl (vis_of rfl) rfl rfl) de_int (fun _ => rfl)) (dgs_cons (dg_name (i := 3) ND rfl (loc_of rfl) (lfn_of rfl)) dgs_nil rfl) rfl) rfl rfl) rfl rfl rfl)
  (dss_cons (ds_ret (de_loc (i := 3) rfl (vis_of rfl) rfl rfl))
  dss_nil)) dss_nil)
  (dss_cons (ds_asg (de_bin o_add (de_ix o_ix (de_loc (i := 0) rfl (vis_of rfl) rfl rfl) de_int (fun _ _ => rfl)) de_int) (dg_sub (i := 0) (pe_var rfl (vis_of rfl) rfl rfl) de_int (fun _ => rfl)) rfl rfl rfl)
  (dss_cons (ds_asg (de_bin o_mod (de_callTy c_int rfl V.z_int bt_int (da_cons (de_bin o_add (de_bin o_add (de_bin o_mul (de_ix o_ix (de_loc (i := 0) rfl (vis_of rfl) rfl rfl) de_int (fun _ _ => rfl)) de_int) (de_bin o_mul (de_ix o_ix (de_loc (i := 0) rfl (vis_of rfl) rfl rfl) de_int (fun _ _ => rfl)) de_int)) de_int) da_nil rfl) (by decide) rfl rfl rfl) de_int) (dg_name (i := 2) ND rfl (loc_of rfl) (lfn_of rfl)) rfl rfl rfl)
  (dss_cons (ds_asg (de_bin o_mod (de_callTy c_int rfl V.z_int bt_int (da_cons (de_bin o_add (de_bin o_mul (de_loc (i := 2) rfl (vis_of rfl) rfl rfl) (de_bin o_add (de_bin o_mul de_int (de_bin o_div (de_loc (i := 2) rfl (vis_of rfl) rfl rfl) de_int)) de_int)) (de_ix o_ix (de_loc (i := 0) rfl (vis_of rfl) rfl rfl) de_int (fun _ _ => rfl))) da_nil rfl) (by decide) rfl rfl rfl) de_int) (dg_sub (i := 0) (pe_var rfl (vis_of rfl) rfl rfl) de_int (fun _ => rfl)) rfl rfl rfl)
  (dss_cons (ds_ret (de_bin o_mod (de_callTy c_int rfl V.z_int bt_int (da_cons (de_bin o_div (de_ix o_ix (de_loc (i := 0) rfl (vis_of rfl) rfl rfl) de_int (fun _ _ => rfl)) de_int) da_nil rfl) (by decide) rfl rfl rfl) (de_loc (i := 1) rfl (vis_of rfl) rfl rfl)))
  dss_nil)))))
def d__law_pick : TSD := (sSeq2 (sRet (dOp pIx (dCons (dLoc 1) (dCons (dCallV F__law_draw (dCons (dLoc 0) (dCons (dOp pLen (dCons (dLoc 1) dNil)) dNil))) dNil))))
  sSkip)
def F__law_pick : List D → List D → Option (R × List D) := runW 2 2 d__law_pick
theorem sc__law_pick : FnScope ["pool", "some"] ["pool", "some"] (defScope s__law_pick) := ⟨rfl, rfl, rfl, by decide +kernel, rfl, by decide +kernel, by decide +kernel⟩
theorem g__law_pick {P : Program} {w : World} {K : PySem.W.Frag} {mg : Str → Option Value} {base : Heap} (V : Env K mg) : CalV P w K mg base 2 "_law_pick" s__law_pick ["pool", "some"] F__law_pick := by
  have C__law_draw : CalV P w K mg base 1 "_law_draw" _ _ _ := (g__law_draw V).up (by decide)
  refine cal_v V.r__law_pick sc__law_pick (fun _ _ _ _ _ _ us hl => match us, hl with | [_, _], _ => rfl) fun f cdv A outer s H E hr hG => ?_
  have ND := sc__law_pick.nd
  exact (dss_cons (ds_ret (de_ix o_ix (de_loc (i := 1) rfl (vis_of rfl) rfl rfl) (de_v C__law_draw hr hG rfl (da_cons (de_loc (i := 0) rfl (vis_of rfl) rfl rfl) (da_cons (de_callB c_len rfl V.z_len bt_len (da_cons (de_loc (i := 1) rfl (vis_of rfl) rfl rfl) da_nil rfl) (by decide) rfl rfl rfl) da_nil rfl) rfl) rfl rfl rfl) (fun _ _ => rfl)))
  dss_nil)
def d__law_ratio : TSD := (sSeq2 (sAsgT (dCons (dOp pAbs (dCons (dLoc 0) dNil)) (dCons (dOp pAbs (dCons (dLoc 1) dNil)) dNil)) 2 (gsCons (tName 2) (gsCons (tName 3) gsNil)))
  (sSeq2 (sWhile (bVal (dOp pGt (dCons (dLoc 3) (dCons (dCon (.int 0)) dNil)))) (sSeq2 (sAsgT (dCons (dLoc 3) (dCons (dOp pMod (dCons (dOp pInt (dCons (dLoc 2) dNil)) (dCons (dLoc 3) dNil))) dNil)) 2 (gsCons (tName 2) (gsCons (tName 3) gsNil)))
  sSkip))
  (sSeq2 (sAsg (dIf (bVal (dOp pGt (dCons (dLoc 1) (dCons (dCon (.int 0)) dNil)))) (dLoc 2) (dOp pSub (dCons (dCon (.int 0)) (dCons (dLoc 2) dNil)))) (tName 2))
  (sSeq2 (sRet (dTup (dCons (dOp pDiv (dCons (dLoc 0) (dCons (dLoc 2) dNil))) (dCons (dOp pDiv (dCons (dLoc 1) (dCons (dLoc 2) dNil))) dNil))))
  sSkip))))
def F__law_ratio : List D → Option R := runF 2 4 d__law_ratio
theorem sc__law_ratio : FnScope ["top", "under", "one", "two"] ["top", "under"] (defScope s__law_ratio) := ⟨rfl, rfl, rfl, by decide +kernel, rfl, by decide +kernel, by decide +kernel⟩
theorem g__law_ratio {P : Program} {w : World} {K : PySem.W.Frag} {mg : Str → Option Value} {base : Heap} (V : Env K mg) : CalP P w K mg base 1 "_law_ratio" s__law_ratio ["top", "under"] F__law_ratio := by
  refine cal_p V.r__law_ratio sc__law_ratio (fun _ _ _ _ _ _ us hl => match us, hl with | [_, _], _ => rfl) fun f cdv A outer s H E hr hG => ?_
  have ND := sc__law_ratio.nd
  exact (dss_cons (ds_par (i := 2) (j := 3) rfl ND rfl rfl (by decide) rfl rfl (da_cons (de_callB c_abs rfl V.z_abs bt_abs (da_cons (de_loc (i := 0) rfl (vis_of rfl) rfl rfl) da_nil rfl) (by decide) rfl rfl rfl) (da_cons (de_callB c_abs rfl V.z_abs bt_abs (da_cons (de_loc (i := 1) rfl (vis_of rfl) rfl rfl) da_nil rfl) (by decide) rfl rfl rfl) da_nil rfl) rfl) rfl rfl)
  (dss_cons (ds_while PassesOwn.never (dt_cmp o_gt (de_loc (i := 3) rfl (vis_of rfl) rfl rfl) de_int (nomark _)) (dss_cons (ds_par (i := 2) (j := 3) rfl ND rfl rfl (by decide) rfl rfl (da_cons (de_loc (i := 3) rfl (vis_of rfl) rfl rfl) (da_cons (de_bin o_mod (de_callTy c_int rfl V.z_int bt_int (da_cons (de_loc (i := 2) rfl (vis_of rfl) rfl rfl) da_nil rfl) (by decide) rfl rfl rfl) (de_loc (i := 3) rfl (vis_of rfl) rfl rfl)) da_nil rfl) rfl) rfl rfl)
  dss_nil))
  (dss_cons (ds_asg (de_if (dt_cmp o_gt (de_loc (i := 1) rfl (vis_of rfl) rfl rfl) de_int (nomark _)) (de_loc (i := 2) rfl (vis_of rfl) rfl rfl) (de_bin o_sub de_int (de_loc (i := 2) rfl (vis_of rfl) rfl rfl))) (dg_name (i := 2) ND rfl (loc_of rfl) (lfn_of rfl)) rfl rfl rfl)
  (dss_cons (ds_ret (de_tup (da_cons (de_bin o_div (de_loc (i := 0) rfl (vis_of rfl) rfl rfl) (de_loc (i := 2) rfl (vis_of rfl) rfl rfl)) (da_cons (de_bin o_div (de_loc (i := 1) rfl (vis_of rfl) rfl rfl) (de_loc (i := 2) rfl (vis_of rfl) rfl rfl)) da_nil rfl) rfl)))
  dss_nil))))
def d__law_small : TSD := (sSeq2 (sRet (dCall F__law_ratio (dCons (dOp pSub (dCons (dCallV F__law_draw (dCons (dLoc 0) (dCons (dCon (.int 9)) dNil))) (dCons (dCon (.int 4)) dNil))) (dCons (dCallV F__law_pick (dCons (dLoc 0) (dCons (dTup (dCons (dCon (.int 1)) (dCons (dCon (.int 1)) (dCons (dCon (.int 2)) (dCons (dCon (.int 2)) (dCons (dCon (.int 3)) (dCons (dCon (.int 5)) dNil))))))) dNil))) dNil))))
  sSkip)
def F__law_small : List D → List D → Option (R × List D) := runW 1 1 d__law_small
theorem sc__law_small : FnScope ["pool"] ["pool"] (defScope s__law_small) := ⟨rfl, rfl, rfl, by decide +kernel, rfl, by decide +kernel, by decide +kernel⟩
theorem g__law_small {P : Program} {w : World} {K : PySem.W.Frag} {mg : Str → Option Value} {base : Heap} (V : Env K mg) : CalV P w K mg base 3 "_law_small" s__law_small ["pool"] F__law_small := by
  have C__law_draw : CalV P w K mg base 2 "_law_draw" _ _ _ := (g__law_draw V).up (by decide)
  have C__law_pick : CalV P w K mg base 2 "_law_pick" _ _ _ := (g__law_pick V).up (by decide)
  have C__law_ratio : CalP P w K mg base 2 "_law_ratio" _ _ _ := (g__law_ratio V).up (by decide)
  refine cal_v V.r__law_small sc__law_small (fun _ _ _ _ _ _ us hl => match us, hl with | [_], _ => rfl) fun f cdv A outer s H E hr hG => ?_
  have ND := sc__law_small.nd
  exact (dss_cons (ds_ret (de_p C__law_ratio hr hG rfl (da_cons (de_bin o_sub (de_v C__law_draw hr hG rfl (da_cons (de_loc (i := 0) rfl (vis_of rfl) rfl rfl) (da_cons de_int da_nil rfl) rfl) rfl rfl rfl) de_int) (da_cons (de_v C__law_pick hr hG rfl (da_cons (de_loc (i := 0) rfl (vis_of rfl) rfl rfl) (da_cons (de_tup (da_cons de_int (da_cons de_int (da_cons de_int (da_cons de_int (da_cons de_int (da_cons de_int da_nil rfl) rfl) rfl) rfl) rfl) rfl)) da_nil rfl) rfl) rfl rfl rfl) da_nil rfl) rfl) rfl rfl rfl))
  dss_nil)
def d__law_row : TSD := (sSeq2 (sAsg (dLst dNil) (tName 2))
  (sSeq2 (sFor (sRg1 (dLoc 1)) (tName 3) (sSeq2 (sExp (dApp 2 (dCallV F__law_small (dCons (dLoc 0) dNil))))
  sSkip))
  (sSeq2 (sRet (dOp pTuple (dCons (dLoc 2) dNil)))
  sSkip)))
def F__law_row : List D → List D → Option (R × List D) := runW 2 4 d__law_row
theorem sc__law_row : FnScope ["pool", "n", "found", "k"] ["pool", "n"] (defScope s__law_row) := ⟨rfl, rfl, rfl, by decide +kernel, rfl, by decide +kernel, by decide +kernel⟩
theorem g__law_row {P : Program} {w : World} {K : PySem.W.Frag} {mg : Str → Option Value} {base : Heap} (V : Env K mg) : CalV P w K mg base 4 "_law_row" s__law_row ["pool", "n"] F__law_row := by
  have C__law_small : CalV P w K mg base 3 "_law_small" _ _ _ := (g__law_small V).up (by decide)
  refine cal_v V.r__law_row sc__law_row (fun _ _ _ _ _ _ us hl => match us, hl with | [_, _], _ => rfl) fun f cdv A outer s H E hr hG => ?_
  have ND := sc__law_row.nd
  exact (dss_cons (ds_asg (de_lst da_nil) (dg_name (i := 2) ND rfl (loc_of rfl) (lfn_of rfl)) rfl rfl rfl)
  (dss_cons (ds_for PassesOwn.never rfl (di_rg1 rfl V.z_range (de_loc (i := 1) rfl (vis_of rfl) rfl rfl) rfl) (dg_name (i := 3) ND rfl (loc_of rfl) (lfn_of rfl)) (dss_cons (ds_exp (de_app (i := 2) (pe_var rfl (vis_of rfl) rfl rfl) (de_v C__law_small hr hG rfl (da_cons (de_loc (i := 0) rfl (vis_of rfl) rfl rfl) da_nil rfl) rfl rfl rfl) (fun m h1 h2 => pe_bm PySem.F.plainAttrs_list PySem.F.slot_list_append PySem.F.type_list_append m h1 h2) rfl) rfl)
  dss_nil) (fun _ => rfl))
  (dss_cons (ds_ret (de_callTy c_tuple rfl V.z_tuple bt_tuple (da_cons (de_loc (i := 2) rfl (vis_of rfl) rfl rfl) da_nil rfl) (by decide) rfl rfl rfl))
  dss_nil)))
def d__law_plus : TSD := (sSeq2 (sRet (dCall F__law_ratio (dCons (dOp pAdd (dCons (dOp pMul (dCons (dOp pIx (dCons (dLoc 0) (dCons (dCon (.int 0)) dNil))) (dCons (dOp pIx (dCons (dLoc 1) (dCons (dCon (.int 1)) dNil))) dNil))) (dCons (dOp pMul (dCons (dOp pIx (dCons (dLoc 1) (dCons (dCon (.int 0)) dNil))) (dCons (dOp pIx (dCons (dLoc 0) (dCons (dCon (.int 1)) dNil))) dNil))) dNil))) (dCons (dOp pMul (dCons (dOp pIx (dCons (dLoc 0) (dCons (dCon (.int 1)) dNil))) (dCons (dOp pIx (dCons (dLoc 1) (dCons (dCon (.int 1)) dNil))) dNil))) dNil))))
  sSkip)
def F__law_plus : List D → Option R := runF 2 2 d__law_plus
theorem sc__law_plus : FnScope ["one", "two"] ["one", "two"] (defScope s__law_plus) := ⟨rfl, rfl, rfl, by decide +kernel, rfl, by decide +kernel, by decide +kernel⟩
theorem g__law_plus {P : Program} {w : World} {K : PySem.W.Frag} {mg : Str → Option Value} {base : Heap} (V : Env K mg) : CalP P w K mg base 2 "_law_plus" s__law_plus ["one", "two"] F__law_plus := by
  have C__law_ratio : CalP P w K mg base 1 "_law_ratio" _ _ _ := (g__law_ratio V).up (by decide)
  refine cal_p V.r__law_plus sc__law_plus (fun _ _ _ _ _ _ us hl => match us, hl with | [_, _], _ => rfl) fun f cdv A outer s H E hr hG => ?_
  have ND := sc__law_plus.nd
  exact (dss_cons (ds_ret (de_p C__law_ratio hr hG rfl (da_cons (de_bin o_add (de_bin o_mul (de_ix o_ix (de_loc (i := 0) rfl (vis_of rfl) rfl rfl) de_int (fun _ _ => rfl)) (de_ix o_ix (de_loc (i := 1) rfl (vis_of rfl) rfl rfl) de_int (fun _ _ => rfl))) (de_bin o_mul (de_ix o_ix (de_loc (i := 1) rfl (vis_of rfl) rfl rfl) de_int (fun _ _ => rfl)) (de_ix o_ix (de_loc (i := 0) rfl (vis_of rfl) rfl rfl) de_int (fun _ _ => rfl)))) (da_cons (de_bin o_mul (de_ix o_ix (de_loc (i := 0) rfl (vis_of rfl) rfl rfl) de_int (fun _ _ => rfl)) (de_ix o_ix (de_loc (i := 1) rfl (vis_of rfl) rfl rfl) de_int (fun _ _ => rfl))) da_nil rfl) rfl) rfl rfl rfl))
  dss_nil)
def d__law_by : TSD := (sSeq2 (sRet (dCall F__law_ratio (dCons (dOp pMul (dCons (dOp pIx (dCons (dLoc 0) (dCons (dCon (.int 0)) dNil))) (dCons (dOp pIx (dCons (dLoc 1) (dCons (dCon (.int 0)) dNil))) dNil))) (dCons (dOp pMul (dCons (dOp pIx (dCons (dLoc 0) (dCons (dCon (.int 1)) dNil))) (dCons (dOp pIx (dCons (dLoc 1) (dCons (dCon (.int 1)) dNil))) dNil))) dNil))))
  sSkip)
def F__law_by : List D → Option R := runF 2 2 d__law_by
theorem sc__law_by : FnScope ["one", "two"] ["one", "two"] (defScope s__law_by) := ⟨rfl, rfl, rfl, by decide +kernel, rfl, by decide +kernel, by decide +kernel⟩
theorem g__law_by {P : Program} {w : World} {K : PySem.W.Frag} {mg : Str → Option Value} {base : Heap} (V : Env K mg) : CalP P w K mg base 2 "_law_by" s__law_by ["one", "two"] F__law_by := by
  have C__law_ratio : CalP P w K mg base 1 "_law_ratio" _ _ _ := (g__law_ratio V).up (by decide)
  refine cal_p V.r__law_by sc__law_by (fun _ _ _ _ _ _ us hl => match us, hl with | [_, _], _ => rfl) fun f cdv A outer s H E hr hG => ?_
  have ND := sc__law_by.nd
  exact (dss_cons (ds_ret (de_p C__law_ratio hr hG rfl (da_cons (de_bin o_mul (de_ix o_ix (de_loc (i := 0) rfl (vis_of rfl) rfl rfl) de_int (fun _ _ => rfl)) (de_ix o_ix (de_loc (i := 1) rfl (vis_of rfl) rfl rfl) de_int (fun _ _ => rfl))) (da_cons (de_bin o_mul (de_ix o_ix (de_loc (i := 0) rfl (vis_of rfl) rfl rfl) de_int (fun _ _ => rfl)) (de_ix o_ix (de_loc (i := 1) rfl (vis_of rfl) rfl rfl) de_int (fun _ _ => rfl))) da_nil rfl) rfl) rfl rfl rfl))
  dss_nil)
def d__law_dot : TSD := (sSeq2 (sAsg (dTup (dCons (dCon (.int 0)) (dCons (dCon (.int 1)) dNil))) (tName 2))
  (sSeq2 (sFor (sZip (dLoc 0) (dLoc 1)) (gTupD 2 (gsCons (tName 3) (gsCons (tName 4) gsNil))) (sSeq2 (sAsg (dCall F__law_plus (dCons (dLoc 2) (dCons (dCall F__law_by (dCons (dLoc 3) (dCons (dLoc 4) dNil))) dNil))) (tName 2))
  sSkip))
  (sSeq2 (sRet (dLoc 2))
  sSkip)))
def F__law_dot : List D → Option R := runF 2 5 d__law_dot
theorem sc__law_dot : FnScope ["one", "two", "found", "here", "there"] ["one", "two"] (defScope s__law_dot) := ⟨rfl, rfl, rfl, by decide +kernel, rfl, by decide +kernel, by decide +kernel⟩
theorem g__law_dot {P : Program} {w : World} {K : PySem.W.Frag} {mg : Str → Option Value} {base : Heap} (V : Env K mg) : CalP P w K mg base 3 "_law_dot" s__law_dot ["one", "two"] F__law_dot := by
  have C__law_by : CalP P w K mg base 2 "_law_by" _ _ _ := (g__law_by V).up (by decide)
  have C__law_plus : CalP P w K mg base 2 "_law_plus" _ _ _ := (g__law_plus V).up (by decide)
  refine cal_p V.r__law_dot sc__law_dot (fun _ _ _ _ _ _ us hl => match us, hl with | [_, _], _ => rfl) fun f cdv A outer s H E hr hG => ?_
  have ND := sc__law_dot.nd
  exact (dss_cons (ds_asg (de_tup (da_cons de_int (da_cons de_int da_nil rfl) rfl)) (dg_name (i := 2) ND rfl (loc_of rfl) (lfn_of rfl)) rfl rfl rfl)
  (dss_cons (ds_for PassesOwn.never rfl (di_zip rfl V.z_zip (de_loc (i := 0) rfl (vis_of rfl) rfl rfl) (de_loc (i := 1) rfl (vis_of rfl) rfl rfl) rfl rfl rfl) (dg_tup rfl (dgs_cons (dg_name (i := 3) ND rfl (loc_of rfl) (lfn_of rfl)) (dgs_cons (dg_name (i := 4) ND rfl (loc_of rfl) (lfn_of rfl)) dgs_nil rfl) rfl) rfl rfl) (dss_cons (ds_asg (de_p C__law_plus hr hG rfl (da_cons (de_loc (i := 2) rfl (vis_of rfl) rfl rfl) (da_cons (de_p C__law_by hr hG rfl (da_cons (de_loc (i := 3) rfl (vis_of rfl) rfl rfl) (da_cons (de_loc (i := 4) rfl (vis_of rfl) rfl rfl) da_nil rfl) rfl) rfl rfl rfl) da_nil rfl) rfl) rfl rfl rfl) (dg_name (i := 2) ND rfl (loc_of rfl) (lfn_of rfl)) rfl rfl rfl)
  dss_nil) (fun _ => rfl))
  (dss_cons (ds_ret (de_loc (i := 2) rfl (vis_of rfl) rfl rfl))
  dss_nil)))
def d__law_fence : TSD := (sSeq2 (sAsgT (dCons (dCallV F__law_row (dCons (dLoc 0) (dCons (dLoc 1) dNil))) (dCons (dLst dNil) (dCons (dOp pEq (dCons (dCallV F__law_draw (dCons (dLoc 0) (dCons (dCon (.int 3)) dNil))) (dCons (dCon (.int 0)) dNil))) dNil))) 3 (gsCons (tName 4) (gsCons (tName 5) (gsCons (tName 6) gsNil))))
  (sSeq2 (sFor (sRg1 (dLoc 2)) (tName 3) (sSeq2 (sAsgT (dCons (dCallV F__law_row (dCons (dLoc 0) (dCons (dLoc 1) dNil))) (dCons (dCallV F__law_pick (dCons (dLoc 0) (dCons (dTup (dCons (dTup (dCons (dCon (.int 2)) (dCons (dCon (.int 1)) dNil))) (dCons (dTup (dCons (dOp pNeg (dCons (dCon (.int 1)) dNil)) (dCons (dCon (.int 1)) dNil))) (dCons (dTup (dCons (dCon (.int 1)) (dCons (dCon (.int 3)) dNil))) (dCons (dTup (dCons (dCon (.int 1)) (dCons (dCon (.int 1)) dNil))) dNil))))) dNil))) dNil)) 2 (gsCons (tName 8) (gsCons (tName 9) gsNil)))
  (sSeq2 (sIf (bAnd (bVal (dOp pGt (dCons (dLoc 3) (dCons (dCon (.int 0)) dNil)))) (bVal (dOp pEq (dCons (dCallV F__law_draw (dCons (dLoc 0) (dCons (dCon (.int 4)) dNil))) (dCons (dCon (.int 0)) dNil))))) (sSeq2 (sAsg (dOp pTuple (dCons (dComp [10] (sSeq (dOp pIx (dCons (dOp pIx (dCons (dLoc 5) (dCons (dCon (.int 0)) dNil))) (dCons (dCon (.int 0)) dNil)))) (tName 10) bYes (dCall F__law_by (dCons (dLoc 9) (dCons (dLoc 10) dNil)))) dNil)) (tName 8))
  sSkip) sSkip)
  (sSeq2 (sIf (bVal (dOp pEq (dCons (dComp [10] (sSeq (dLoc 8)) (tName 10) (bVal (dOp pNe (dCons (dOp pIx (dCons (dLoc 10) (dCons (dCon (.int 0)) dNil))) (dCons (dCon (.int 0)) dNil)))) (dLoc 10)) (dCons (dLst dNil) dNil)))) (sSeq2 (sAsg (dOp pTuple (dCons (dComp [11] (sRg1 (dLoc 1)) (tName 11) bYes (dTup (dCons (dOp pInt (dCons (dOp pEq (dCons (dLoc 11) (dCons (dOp pMod (dCons (dOp pInt (dCons (dLoc 3) dNil)) (dCons (dLoc 1) dNil))) dNil))) dNil)) (dCons (dCon (.int 1)) dNil)))) dNil)) (tName 8))
  sSkip) sSkip)
  (sSeq2 (sExp (dApp 5 (dTup (dCons (dLoc 8) (dCons (dCall F__law_dot (dCons (dLoc 8) (dCons (dLoc 4) dNil))) dNil)))))
  sSkip)))))
  (sSeq2 (sIf (bTru (dLoc 6)) (sSeq2 (sAsg (dCallV F__law_draw (dCons (dLoc 0) (dCons (dLoc 2) dNil))) (tName 7))
  (sSeq2 (sAsg (dTup (dCons (dOp pIx (dCons (dOp pIx (dCons (dLoc 5) (dCons (dLoc 7) dNil))) (dCons (dCon (.int 0)) dNil))) (dCons (dCall F__law_plus (dCons (dOp pIx (dCons (dOp pIx (dCons (dLoc 5) (dCons (dLoc 7) dNil))) (dCons (dCon (.int 1)) dNil))) (dCons (dCallV F__law_pick (dCons (dLoc 0) (dCons (dTup (dCons (dTup (dCons (dCon (.int 1)) (dCons (dCon (.int 1)) dNil))) (dCons (dTup (dCons (dOp pNeg (dCons (dCon (.int 1)) dNil)) (dCons (dCon (.int 2)) dNil))) (dCons (dTup (dCons (dCon (.int 3)) (dCons (dCon (.int 1)) dNil))) dNil)))) dNil))) dNil))) dNil))) (tSub 5 (dLoc 7)))
  sSkip)) sSkip)
  (sSeq2 (sRet (dOp pTuple (dCons (dLoc 5) dNil)))
  sSkip))))
def F__law_fence : List D → List D → Option (R × List D) := runW 3 12 d__law_fence
theorem sc__law_fence : FnScope ["pool", "n", "many", "k", "point", "found", "is_off", "at", "row", "by", "each", "i"] ["pool", "n", "many"] (defScope s__law_fence) := ⟨rfl, rfl, rfl, by decide +kernel, rfl, by decide +kernel, by decide +kernel⟩
theorem g__law_fence {P : Program} {w : World} {K : PySem.W.Frag} {mg : Str → Option Value} {base : Heap} (V : Env K mg) : CalV P w K mg base 5 "_law_fence" s__law_fence ["pool", "n", "many"] F__law_fence := by
  have C__law_by : CalP P w K mg base 4 "_law_by" _ _ _ := (g__law_by V).up (by decide)
  have C__law_dot : CalP P w K mg base 4 "_law_dot" _ _ _ := (g__law_dot V).up (by decide)
  have C__law_draw : CalV P w K mg base 4 "_law_draw" _ _ _ := (g__law_draw V).up (by decide)
  have C__law_pick : CalV P w K mg base 4 "_law_pick" _ _ _ := (g__law_pick V).up (by decide)
  have C__law_plus : CalP P w K mg base 4 "_law_plus" _ _ _ := (g__law_plus V).up (by decide)
  have C__law_row : CalV P w K mg base 4 "_law_row" _ _ _ := (g__law_row V).up (by decide)
  refine cal_v V.r__law_fence sc__law_fence (fun _ _ _ _ _ _ us hl => match us, hl with | [_, _, _], _ => rfl) fun f cdv A outer s H E hr hG => ?_
  have ND := sc__law_fence.nd
  exact (dss_cons (ds_par3 (i := 4) (j := 5) (l := 6) rfl ND rfl rfl rfl (by decide) (by decide) (by decide) rfl rfl rfl (da_cons (de_v C__law_row hr hG rfl (da_cons (de_loc (i := 0) rfl (vis_of rfl) rfl rfl) (da_cons (de_loc (i := 1) rfl (vis_of rfl) rfl rfl) da_nil rfl) rfl) rfl rfl rfl) (da_cons (de_lst da_nil) (da_cons (de_cmp (o_eq (huo hr)) (de_v C__law_draw hr hG rfl (da_cons (de_loc (i := 0) rfl (vis_of rfl) rfl rfl) (da_cons de_int da_nil rfl) rfl) rfl rfl rfl) de_int (nomark _)) da_nil rfl) rfl) rfl) rfl rfl)
  (dss_cons (ds_for PassesOwn.never rfl (di_rg1 rfl V.z_range (de_loc (i := 2) rfl (vis_of rfl) rfl rfl) rfl) (dg_name (i := 3) ND rfl (loc_of rfl) (lfn_of rfl)) (dss_cons (ds_asgT rfl (by decide) (da_cons (de_v C__law_row hr hG rfl (da_cons (de_loc (i := 0) rfl (vis_of rfl) rfl rfl) (da_cons (de_loc (i := 1) rfl (vis_of rfl) rfl rfl) da_nil rfl) rfl) rfl rfl rfl) (da_cons (de_v C__law_pick hr hG rfl (da_cons (de_loc (i := 0) rfl (vis_of rfl) rfl rfl) (da_cons (de_tup (da_cons (de_tup (da_cons de_int (da_cons de_int da_nil rfl) rfl)) (da_cons (de_tup (da_cons (de_un o_neg de_int) (da_cons de_int da_nil rfl) rfl)) (da_cons (de_tup (da_cons de_int (da_cons de_int da_nil rfl) rfl)) (da_cons (de_tup (da_cons de_int (da_cons de_int da_nil rfl) rfl)) da_nil rfl) rfl) rfl) rfl)) da_nil rfl) rfl) rfl rfl rfl) da_nil rfl) rfl) (dgs_cons (dg_name (i := 8) ND rfl (loc_of rfl) (lfn_of rfl)) (dgs_cons (dg_name (i := 9) ND rfl (loc_of rfl) (lfn_of rfl)) dgs_nil rfl) rfl) rfl rfl rfl rfl rfl)
  (dss_cons (ds_if (DW.dt (dw_and (dt_cmp o_gt (de_loc (i := 3) rfl (vis_of rfl) rfl rfl) de_int (nomark _)) (dw_and1 (dt_cmp (o_eq (huo hr)) (de_v C__law_draw hr hG rfl (da_cons (de_loc (i := 0) rfl (vis_of rfl) rfl rfl) (da_cons de_int da_nil rfl) rfl) rfl rfl rfl) de_int (nomark _))))) (dss_cons (ds_asg (de_callTy c_tuple rfl V.z_tuple bt_tuple (da_cons (de_comp rfl (own := [("each", 10)]) ND (di_seq (de_ix o_ix (de_ix o_ix (de_loc (i := 5) rfl (vis_of rfl) rfl rfl) de_int (fun _ _ => rfl)) de_int (fun _ _ => rfl))) (blkOk_by rfl) (fun _ _ _ _ _ => (dg_name (i := 10) ND rfl (loc_of rfl) (lfn_of rfl))) (fun _ _ _ _ _ => pts_yes) (fun _ _ _ _ _ => (de_p C__law_by hr hG rfl (da_cons (de_loc (i := 9) rfl (vis_of rfl) rfl rfl) (da_cons (de_loc (i := 10) rfl (vis_of rfl) rfl rfl) da_nil rfl) rfl) rfl rfl rfl)) (fun _ => rfl) (by decide)) da_nil rfl) (by decide) rfl rfl rfl) (dg_name (i := 8) ND rfl (loc_of rfl) (lfn_of rfl)) rfl rfl rfl)
  dss_nil) dss_nil)
  (dss_cons (ds_if (dt_cmp (o_eq (huo hr)) (de_comp rfl (own := [("each", 10)]) ND (di_seq (de_loc (i := 8) rfl (vis_of rfl) rfl rfl)) (blkOk_by rfl) (fun _ _ _ _ _ => (dg_name (i := 10) ND rfl (loc_of rfl) (lfn_of rfl))) (fun _ _ _ _ _ => (pts_one (dt_cmp (o_ne (huo hr)) (de_ix o_ix (de_loc (i := 10) rfl (vis_of rfl) rfl rfl) de_int (fun _ _ => rfl)) de_int (nomark _)))) (fun _ _ _ _ _ => (de_loc (i := 10) rfl (vis_of rfl) rfl rfl)) (fun _ => rfl) (by decide)) (de_lst da_nil) (nomark _)) (dss_cons (ds_asg (de_callTy c_tuple rfl V.z_tuple bt_tuple (da_cons (de_comp rfl (own := [("i", 11)]) ND (di_rg1 rfl V.z_range (de_loc (i := 1) rfl (vis_of rfl) rfl rfl) rfl) (blkOk_by rfl) (fun _ _ _ _ _ => (dg_name (i := 11) ND rfl (loc_of rfl) (lfn_of rfl))) (fun _ _ _ _ _ => pts_yes) (fun _ _ _ _ _ => (de_tup (da_cons (de_callTy c_int rfl V.z_int bt_int (da_cons (de_cmp (o_eq (huo hr)) (de_loc (i := 11) rfl (vis_of rfl) rfl rfl) (de_bin o_mod (de_callTy c_int rfl V.z_int bt_int (da_cons (de_loc (i := 3) rfl (vis_of rfl) rfl rfl) da_nil rfl) (by decide) rfl rfl rfl) (de_loc (i := 1) rfl (vis_of rfl) rfl rfl)) (nomark _)) da_nil rfl) (by decide) rfl rfl rfl) (da_cons de_int da_nil rfl) rfl))) (fun _ => rfl) (by decide)) da_nil rfl) (by decide) rfl rfl rfl) (dg_name (i := 8) ND rfl (loc_of rfl) (lfn_of rfl)) rfl rfl rfl)
  dss_nil) dss_nil)
  (dss_cons (ds_exp (de_app (i := 5) (pe_var rfl (vis_of rfl) rfl rfl) (de_tup (da_cons (de_loc (i := 8) rfl (vis_of rfl) rfl rfl) (da_cons (de_p C__law_dot hr hG rfl (da_cons (de_loc (i := 8) rfl (vis_of rfl) rfl rfl) (da_cons (de_loc (i := 4) rfl (vis_of rfl) rfl rfl) da_nil rfl) rfl) rfl rfl rfl) da_nil rfl) rfl)) (fun m h1 h2 => pe_bm PySem.F.plainAttrs_list PySem.F.slot_list_append PySem.F.type_list_append m h1 h2) rfl) rfl)
  dss_nil)))) (fun _ => rfl))
  (dss_cons (ds_if (dt_tru (de_loc (i := 6) rfl (vis_of rfl) rfl rfl) (fun _ => rfl)) (dss_cons (ds_asg (de_v C__law_draw hr hG rfl (da_cons (de_loc (i := 0) rfl (vis_of rfl) rfl rfl) (da_cons (de_loc (i := 2) rfl (vis_of rfl) rfl rfl) da_nil rfl) rfl) rfl rfl rfl) (dg_name (i := 7) ND rfl (loc_of rfl) (lfn_of rfl)) rfl rfl rfl)
  (dss_cons (ds_asg (de_tup (da_cons (de_ix o_ix (de_ix o_ix (de_loc (i := 5) rfl (vis_of rfl) rfl rfl) (de_loc (i := 7) rfl (vis_of rfl) rfl rfl) (fun _ _ => rfl)) de_int (fun _ _ => rfl)) (da_cons (de_p C__law_plus hr hG rfl (da_cons (de_ix o_ix (de_ix o_ix (de_loc (i := 5) rfl (vis_of rfl) rfl rfl) (de_loc (i := 7) rfl (vis_of rfl) rfl rfl) (fun _ _ => rfl)) de_int (fun _ _ => rfl)) (da_cons (de_v C__law_pick hr hG rfl (da_cons (de_loc (i := 0) rfl (vis_of rfl) rfl rfl) (da_cons (de_tup (da_cons (de_tup (da_cons de_int (da_cons de_int da_nil rfl) rfl)) (da_cons (de_tup (da_cons (de_un o_neg de_int) (da_cons de_int da_nil rfl) rfl)) (da_cons (de_tup (da_cons de_int (da_cons de_int da_nil rfl) rfl)) da_nil rfl) rfl) rfl)) da_nil rfl) rfl) rfl rfl rfl) da_nil rfl) rfl) rfl rfl rfl) da_nil rfl) rfl)) (dg_sub (i := 5) (pe_var rfl (vis_of rfl) rfl rfl) (de_loc (i := 7) rfl (vis_of rfl) rfl rfl) (fun _ => rfl)) rfl rfl rfl)
  dss_nil)) dss_nil)
  (dss_cons (ds_ret (de_callTy c_tuple rfl V.z_tuple bt_tuple (da_cons (de_loc (i := 5) rfl (vis_of rfl) rfl rfl) da_nil rfl) (by decide) rfl rfl rfl))
  dss_nil))))
def d__law_strange : TSD := (sSeq2 (sAsgT (dCons (dTup (dCons (dCon (.int 1)) (dCons (dCon (.int 1)) dNil))) (dCons (dTup (dCons (dCon (.int 0)) (dCons (dCon (.int 1)) dNil))) dNil)) 2 (gsCons (tName 2) (gsCons (tName 3) gsNil)))
  (sSeq2 (sAsg (dLst (dCons (dCon .none) (dCons (dCon (.bool true)) (dCons (dCon (.bool false)) (dCons (dCon (.int 0)) (dCons (dCon (.int 1)) (dCons (dCon (.int 2)) (dCons (dOp pNeg (dCons (dCon (.int 1)) dNil)) (dCons (dCon (.int 6)) (dCons (dCon (.int 201)) (dCons (dOp pPow (dCons (dCon (.int 10)) (dCons (dCon (.int 24)) dNil))) (dCons (dCon (.str "")) (dCons (dCon (.str "each")) (dCons (dTup dNil) (dCons (dTup (dCons (dCon (.int 1)) dNil)) (dCons (dTup (dCons (dCon (.int 1)) (dCons (dCon (.int 2)) dNil))) (dCons (dTup (dCons (dCon (.int 2)) (dCons (dCon (.int 4)) dNil))) (dCons (dTup (dCons (dCon (.int 0)) (dCons (dCon (.int 2)) dNil))) (dCons (dTup (dCons (dCon (.int 3)) (dCons (dOp pNeg (dCons (dCon (.int 5)) dNil)) dNil))) dNil))))))))))))))))))) (tName 1))
  (sSeq2 (sAsg (dOp pAdd (dCons (dLoc 1) (dCons (dLst (dCons (dTup (dCons (dCon (.bool true)) (dCons (dCon (.int 1)) dNil))) (dCons (dLst (dCons (dCon (.int 1)) (dCons (dCon (.int 2)) dNil))) (dCons (dLst dNil) (dCons dEmp (dCons (dDic (.dict [(.str "a", .int 1)])) (dCons (dLoc 3) (dCons (dLoc 2) (dCons (dTup (dCons (dLoc 2) dNil)) (dCons (dTup (dCons (dLoc 3) (dCons (dLoc 2) dNil))) (dCons (dTup (dCons (dLoc 2) (dCons (dLoc 2) (dCons (dLoc 2) dNil)))) (dCons (dTup (dCons (dTup (dCons (dLoc 3) dNil)) dNil)) dNil)))))))))))) dNil))) (tName 1))
  (sSeq2 (sAsg (dOp pAdd (dCons (dLoc 1) (dCons (dLst (dCons (dTup (dCons (dTup (dCons (dLoc 2) dNil)) dNil)) (dCons (dTup (dCons (dTup (dCons (dLoc 2) (dCons (dLoc 3) dNil))) (dCons (dTup (dCons (dLoc 3) (dCons (dLoc 2) dNil))) dNil))) (dCons (dTup (dCons (dTup (dCons (dLoc 2) (dCons (dLoc 3) dNil))) (dCons (dTup (dCons (dLoc 3) dNil)) dNil))) (dCons (dLst (dCons (dTup (dCons (dLoc 2) (dCons (dLoc 3) dNil))) (dCons (dTup (dCons (dLoc 3) (dCons (dLoc 2) dNil))) dNil))) dNil))))) dNil))) (tName 1))
  (sSeq2 (sAsg (dOp pAdd (dCons (dLoc 1) (dCons (dLst (dCons (dTup (dCons (dTup (dCons (dLoc 2) (dCons (dLoc 2) dNil))) (dCons (dTup (dCons (dLoc 2) (dCons (dLoc 2) dNil))) dNil))) (dCons (dTup (dCons (dTup (dCons (dTup (dCons (dLoc 2) dNil)) dNil)) (dCons (dTup (dCons (dTup (dCons (dLoc 2) dNil)) dNil)) dNil))) (dCons (dTup (dCons (dTup (dCons (dCon (.int 0)) (dCons (dTup (dCons (dCon (.int 0)) dNil)) dNil))) dNil)) (dCons (dTup (dCons (dTup (dCons (dCon (.int 0)) (dCons (dTup (dCons (dCon (.int 0)) (dCons (dCon (.int 1)) dNil))) dNil))) (dCons (dTup (dCons (dCon (.int 1)) (dCons (dTup (dCons (dCon (.int 2)) (dCons (dCon (.int 1)) dNil))) dNil))) dNil))) dNil))))) dNil))) (tName 1))
  (sSeq2 (sRet (dCallV F__law_pick (dCons (dLoc 0) (dCons (dOp pAdd (dCons (dLoc 1) (dCons (dLst (dCons (dTup (dCons (dTup (dCons (dLoc 2) (dCons (dLoc 3) dNil))) (dCons (dCon (.int 1)) dNil))) dNil)) dNil))) dNil))))
  sSkip))))))
def F__law_strange : List D → List D → Option (R × List D) := runW 1 4 d__law_strange
theorem sc__law_strange : FnScope ["pool", "some", "one", "nil"] ["pool"] (defScope s__law_strange) := ⟨rfl, rfl, rfl, by decide +kernel, rfl, by decide +kernel, by decide +kernel⟩
theorem g__law_strange {P : Program} {w : World} {K : PySem.W.Frag} {mg : Str → Option Value} {base : Heap} (V : Env K mg) : CalV P w K mg base 3 "_law_strange" s__law_strange ["pool"] F__law_strange := by
  have C__law_pick : CalV P w K mg base 2 "_law_pick" _ _ _ := (g__law_pick V).up (by decide)
  refine cal_v V.r__law_strange sc__law_strange (fun _ _ _ _ _ _ us hl => match us, hl with | [_], _ => rfl) fun f cdv A outer s H E hr hG => ?_
  have ND := sc__law_strange.nd
  exact (dss_cons (ds_asgT rfl (by decide) (da_cons (de_tup (da_cons de_int (da_cons de_int da_nil rfl) rfl)) (da_cons (de_tup (da_cons de_int (da_cons de_int da_nil rfl) rfl)) da_nil rfl) rfl) (dgs_cons (dg_name (i := 2) ND rfl (loc_of rfl) (lfn_of rfl)) (dgs_cons (dg_name (i := 3) ND rfl (loc_of rfl) (lfn_of rfl)) dgs_nil rfl) rfl) rfl rfl rfl rfl rfl)
  (dss_cons (ds_asg (de_lst (da_cons de_non (da_cons de_bl (da_cons de_bl (da_cons de_int (da_cons de_int (da_cons de_int (da_cons (de_un o_neg de_int) (da_cons de_int (da_cons de_int (da_cons (de_bin o_pow de_int de_int) (da_cons de_str (da_cons de_str (da_cons (de_tup da_nil) (da_cons (de_tup (da_cons de_int da_nil rfl)) (da_cons (de_tup (da_cons de_int (da_cons de_int da_nil rfl) rfl)) (da_cons (de_tup (da_cons de_int (da_cons de_int da_nil rfl) rfl)) (da_cons (de_tup (da_cons de_int (da_cons de_int da_nil rfl) rfl)) (da_cons (de_tup (da_cons de_int (da_cons (de_un o_neg de_int) da_nil rfl) rfl)) da_nil rfl) rfl) rfl) rfl) rfl) rfl) rfl) rfl) rfl) rfl) rfl) rfl) rfl) rfl) rfl) rfl) rfl) rfl)) (dg_name (i := 1) ND rfl (loc_of rfl) (lfn_of rfl)) rfl rfl rfl)
  (dss_cons (ds_asg (de_bin o_add (de_loc (i := 1) rfl (vis_of rfl) rfl rfl) (de_lst (da_cons (de_tup (da_cons de_bl (da_cons de_int da_nil rfl) rfl)) (da_cons (de_lst (da_cons de_int (da_cons de_int da_nil rfl) rfl)) (da_cons (de_lst da_nil) (da_cons de_emp (da_cons de_dic (da_cons (de_loc (i := 3) rfl (vis_of rfl) rfl rfl) (da_cons (de_loc (i := 2) rfl (vis_of rfl) rfl rfl) (da_cons (de_tup (da_cons (de_loc (i := 2) rfl (vis_of rfl) rfl rfl) da_nil rfl)) (da_cons (de_tup (da_cons (de_loc (i := 3) rfl (vis_of rfl) rfl rfl) (da_cons (de_loc (i := 2) rfl (vis_of rfl) rfl rfl) da_nil rfl) rfl)) (da_cons (de_tup (da_cons (de_loc (i := 2) rfl (vis_of rfl) rfl rfl) (da_cons (de_loc (i := 2) rfl (vis_of rfl) rfl rfl) (da_cons (de_loc (i := 2) rfl (vis_of rfl) rfl rfl) da_nil rfl) rfl) rfl)) (da_cons (de_tup (da_cons (de_tup (da_cons (de_loc (i := 3) rfl (vis_of rfl) rfl rfl) da_nil rfl)) da_nil rfl)) da_nil rfl) rfl) rfl) rfl) rfl) rfl) rfl) rfl) rfl) rfl) rfl))) (dg_name (i := 1) ND rfl (loc_of rfl) (lfn_of rfl)) rfl rfl rfl)
  (dss_cons (ds_asg (de_bin o_add (de_loc (i := 1) rfl (vis_of rfl) rfl rfl) (de_lst (da_cons (de_tup (da_cons (de_tup (da_cons (de_loc (i := 2) rfl (vis_of rfl) rfl rfl) da_nil rfl)) da_nil rfl)) (da_cons (de_tup (da_cons (de_tup (da_cons (de_loc (i := 2) rfl (vis_of rfl) rfl rfl) (da_cons (de_loc (i := 3) rfl (vis_of rfl) rfl rfl) da_nil rfl) rfl)) (da_cons (de_tup (da_cons (de_loc (i := 3) rfl (vis_of rfl) rfl rfl) (da_cons (de_loc (i := 2) rfl (vis_of rfl) rfl rfl) da_nil rfl) rfl)) da_nil rfl) rfl)) (da_cons (de_tup (da_cons (de_tup (da_cons (de_loc (i := 2) rfl (vis_of rfl) rfl rfl) (da_cons (de_loc (i := 3) rfl (vis_of rfl) rfl rfl) da_nil rfl) rfl)) (da_cons (de_tup (da_cons (de_loc (i := 3) rfl (vis_of rfl) rfl rfl) da_nil rfl)) da_nil rfl) rfl)) (da_cons (de_lst (da_cons (de_tup (da_cons (de_loc (i := 2) rfl (vis_of rfl) rfl rfl) (da_cons (de_loc (i := 3) rfl (vis_of rfl) rfl rfl) da_nil rfl) rfl)) (da_cons (de_tup (da_cons (de_loc (i := 3) rfl (vis_of rfl) rfl rfl) (da_cons (de_loc (i := 2) rfl (vis_of rfl) rfl rfl) da_nil rfl) rfl)) da_nil rfl) rfl)) da_nil rfl) rfl) rfl) rfl))) (dg_name (i := 1) ND rfl (loc_of rfl) (lfn_of rfl)) rfl rfl rfl)
  (dss_cons (ds_asg (de_bin o_add (de_loc (i := 1) rfl (vis_of rfl) rfl rfl) (de_lst (da_cons (de_tup (da_cons (de_tup (da_cons (de_loc (i := 2) rfl (vis_of rfl) rfl rfl) (da_cons (de_loc (i := 2) rfl (vis_of rfl) rfl rfl) da_nil rfl) rfl)) (da_cons (de_tup (da_cons (de_loc (i := 2) rfl (vis_of rfl) rfl rfl) (da_cons (de_loc (i := 2) rfl (vis_of rfl) rfl rfl) da_nil rfl) rfl)) da_nil rfl) rfl)) (da_cons (de_tup (da_cons (de_tup (da_cons (de_tup (da_cons (de_loc (i := 2) rfl (vis_of rfl) rfl rfl) da_nil rfl)) da_nil rfl)) (da_cons (de_tup (da_cons (de_tup (da_cons (de_loc (i := 2) rfl (vis_of rfl) rfl rfl) da_nil rfl)) da_nil rfl)) da_nil rfl) rfl)) (da_cons (de_tup (da_cons (de_tup (da_cons de_int (da_cons (de_tup (da_cons de_int da_nil rfl)) da_nil rfl) rfl)) da_nil rfl)) (da_cons (de_tup (da_cons (de_tup (da_cons de_int (da_cons (de_tup (da_cons de_int (da_cons de_int da_nil rfl) rfl)) da_nil rfl) rfl)) (da_cons (de_tup (da_cons de_int (da_cons (de_tup (da_cons de_int (da_cons de_int da_nil rfl) rfl)) da_nil rfl) rfl)) da_nil rfl) rfl)) da_nil rfl) rfl) rfl) rfl))) (dg_name (i := 1) ND rfl (loc_of rfl) (lfn_of rfl)) rfl rfl rfl)
  (dss_cons (ds_ret (de_v C__law_pick hr hG rfl (da_cons (de_loc (i := 0) rfl (vis_of rfl) rfl rfl) (da_cons (de_bin o_add (de_loc (i := 1) rfl (vis_of rfl) rfl rfl) (de_lst (da_cons (de_tup (da_cons (de_tup (da_cons (de_loc (i := 2) rfl (vis_of rfl) rfl rfl) (da_cons (de_loc (i := 3) rfl (vis_of rfl) rfl rfl) da_nil rfl) rfl)) (da_cons de_int da_nil rfl) rfl)) da_nil rfl))) da_nil rfl) rfl) rfl rfl rfl))
  dss_nil))))))
def d__law_bent (R : List D → List D → Option (R × List D)) : TSD := (sSeq2 (sIf (bAnd (bTru (dOp (pIsi "int") (dCons (dLoc 1) dNil))) (bNot (bTru (dOp (pIsi "bool") (dCons (dLoc 1) dNil))))) (sSeq2 (sRet (dCallV F__law_pick (dCons (dLoc 0) (dCons (dTup (dCons (dOp pAdd (dCons (dLoc 1) (dCons (dCon (.int 1)) dNil))) (dCons (dOp pSub (dCons (dLoc 1) (dCons (dCon (.int 1)) dNil))) (dCons (dOp pSub (dCons (dCon (.int 0)) (dCons (dLoc 1) dNil))) (dCons (dOp pMul (dCons (dCon (.int 2)) (dCons (dLoc 1) dNil))) (dCons (dOp pEq (dCons (dLoc 1) (dCons (dCon (.int 1)) dNil))) (dCons (dOp pStr (dCons (dLoc 1) dNil)) (dCons (dTup (dCons (dLoc 1) (dCons (dCon (.int 1)) dNil))) (dCons (dCon .none) dNil))))))))) dNil))))
  sSkip) sSkip)
  (sSeq2 (sIf (bOr (bNot (bTru (dOp (pIsi "tuple") (dCons (dLoc 1) dNil)))) (bVal (dOp pEq (dCons (dLoc 1) (dCons (dTup dNil) dNil))))) (sSeq2 (sRet (dCallV F__law_strange (dCons (dLoc 0) dNil)))
  sSkip) sSkip)
  (sSeq2 (sAsgT (dCons (dCallV F__law_draw (dCons (dLoc 0) (dCons (dOp pLen (dCons (dLoc 1) dNil)) dNil))) (dCons (dCallV F__law_draw (dCons (dLoc 0) (dCons (dCon (.int 9)) dNil))) dNil)) 2 (gsCons (tName 2) (gsCons (tName 3) gsNil)))
  (sSeq2 (sIf (bVal (dOp pLt (dCons (dLoc 3) (dCons (dCon (.int 5)) dNil)))) (sSeq2 (sRet (dOp pAdd (dCons (dOp pAdd (dCons (dCut (dLoc 1) iNo (iOf (dLoc 2))) (dCons (dTup (dCons (dCallV R (dCons (dLoc 0) (dCons (dOp pIx (dCons (dLoc 1) (dCons (dLoc 2) dNil))) dNil))) dNil)) dNil))) (dCons (dCut (dLoc 1) (iOf (dOp pAdd (dCons (dLoc 2) (dCons (dCon (.int 1)) dNil)))) iNo) dNil))))
  sSkip) sSkip)
  (sSeq2 (sIf (bVal (dOp pEq (dCons (dLoc 3) (dCons (dCon (.int 5)) dNil)))) (sSeq2 (sRet (dOp pAdd (dCons (dCut (dLoc 1) iNo (iOf (dLoc 2))) (dCons (dCut (dLoc 1) (iOf (dOp pAdd (dCons (dLoc 2) (dCons (dCon (.int 1)) dNil)))) iNo) dNil))))
  sSkip) sSkip)
  (sSeq2 (sIf (bVal (dOp pEq (dCons (dLoc 3) (dCons (dCon (.int 6)) dNil)))) (sSeq2 (sRet (dOp pAdd (dCons (dOp pAdd (dCons (dCut (dLoc 1) iNo (iOf (dLoc 2))) (dCons (dCut (dLoc 1) (iOf (dLoc 2)) (iOf (dOp pAdd (dCons (dLoc 2) (dCons (dCon (.int 1)) dNil))))) dNil))) (dCons (dCut (dLoc 1) (iOf (dLoc 2)) iNo) dNil))))
  sSkip) sSkip)
  (sSeq2 (sRet (dIf (bVal (dOp pEq (dCons (dLoc 3) (dCons (dCon (.int 7)) dNil)))) (dOp pRev (dCons (dLoc 1) dNil)) (dOp pList (dCons (dLoc 1) dNil))))
  sSkip)))))))
def F__law_bent : Nat → List D → List D → Option (R × List D)
  | 0 => fun _ _ => none
  | n + 1 => runW 2 4 (d__law_bent (F__law_bent n))
theorem sc__law_bent : FnScope ["pool", "thing", "at", "way"] ["pool", "thing"] (defScope s__law_bent) := ⟨rfl, rfl, rfl, by decide +kernel, rfl, by decide +kernel, by decide +kernel⟩
theorem g__law_bent_n {P : Program} {w : World} {K : PySem.W.Frag} {mg : Str → Option Value} {base : Heap} (V : Env K mg) : ∀ n : Nat, CalV P w K mg base (3 + n) "_law_bent" s__law_bent ["pool", "thing"] (F__law_bent n)
  | 0 => cal_v0 V.r__law_bent (fun _ _ _ _ _ _ us hl => match us, hl with | [_, _], _ => rfl)
  | n + 1 => by
    have C__law_bent : CalV P w K mg base (3 + n) "_law_bent" _ _ _ := g__law_bent_n V n
    have C__law_draw : CalV P w K mg base (3 + n) "_law_draw" _ _ _ := (g__law_draw V).up (by omega)
    have C__law_pick : CalV P w K mg base (3 + n) "_law_pick" _ _ _ := (g__law_pick V).up (by omega)
    have C__law_strange : CalV P w K mg base (3 + n) "_law_strange" _ _ _ := (g__law_strange V).up (by omega)
    refine cal_v V.r__law_bent sc__law_bent (fun _ _ _ _ _ _ us hl => match us, hl with | [_, _], _ => rfl) fun f cdv A outer s H E hr hG => ?_
    have ND := sc__law_bent.nd
    show DSs _ _ (d__law_bent (F__law_bent n))
    generalize F__law_bent n = R at *
    exact (dss_cons (ds_if (DW.dt (dw_and (dt_tru (de_isi (T := "int") (by decide) rfl V.z_isinstance rfl V.z_int bt_int (by decide) rfl (de_loc (i := 1) rfl (vis_of rfl) rfl rfl) rfl) (fun _ => rfl)) (dw_and1 (dt_not (dt_tru (de_isi (T := "bool") (by decide) rfl V.z_isinstance rfl V.z_bool bt_bool (by decide) rfl (de_loc (i := 1) rfl (vis_of rfl) rfl rfl) rfl) (fun _ => rfl)))))) (dss_cons (ds_ret (de_v C__law_pick hr hG rfl (da_cons (de_loc (i := 0) rfl (vis_of rfl) rfl rfl) (da_cons (de_tup (da_cons (de_bin o_add (de_loc (i := 1) rfl (vis_of rfl) rfl rfl) de_int) (da_cons (de_bin o_sub (de_loc (i := 1) rfl (vis_of rfl) rfl rfl) de_int) (da_cons (de_bin o_sub de_int (de_loc (i := 1) rfl (vis_of rfl) rfl rfl)) (da_cons (de_bin o_mul de_int (de_loc (i := 1) rfl (vis_of rfl) rfl rfl)) (da_cons (de_cmp (o_eq (huo hr)) (de_loc (i := 1) rfl (vis_of rfl) rfl rfl) de_int (nomark _)) (da_cons (de_callTy c_str rfl V.z_str bt_str (da_cons (de_loc (i := 1) rfl (vis_of rfl) rfl rfl) da_nil rfl) (by decide) rfl rfl rfl) (da_cons (de_tup (da_cons (de_loc (i := 1) rfl (vis_of rfl) rfl rfl) (da_cons de_int da_nil rfl) rfl)) (da_cons de_non da_nil rfl) rfl) rfl) rfl) rfl) rfl) rfl) rfl)) da_nil rfl) rfl) rfl rfl rfl))
  dss_nil) dss_nil)
  (dss_cons (ds_if (DW.dt (dw_or (dt_not (dt_tru (de_isi (T := "tuple") (by decide) rfl V.z_isinstance rfl V.z_tuple bt_tuple (by decide) rfl (de_loc (i := 1) rfl (vis_of rfl) rfl rfl) rfl) (fun _ => rfl))) (dw_or1 (dt_cmp (o_eq (huo hr)) (de_loc (i := 1) rfl (vis_of rfl) rfl rfl) (de_tup da_nil) (nomark _))))) (dss_cons (ds_ret (de_v C__law_strange hr hG rfl (da_cons (de_loc (i := 0) rfl (vis_of rfl) rfl rfl) da_nil rfl) rfl rfl rfl))
  dss_nil) dss_nil)
  (dss_cons (ds_par (i := 2) (j := 3) rfl ND rfl rfl (by decide) rfl rfl (da_cons (de_v C__law_draw hr hG rfl (da_cons (de_loc (i := 0) rfl (vis_of rfl) rfl rfl) (da_cons (de_callB c_len rfl V.z_len bt_len (da_cons (de_loc (i := 1) rfl (vis_of rfl) rfl rfl) da_nil rfl) (by decide) rfl rfl rfl) da_nil rfl) rfl) rfl rfl rfl) (da_cons (de_v C__law_draw hr hG rfl (da_cons (de_loc (i := 0) rfl (vis_of rfl) rfl rfl) (da_cons de_int da_nil rfl) rfl) rfl rfl rfl) da_nil rfl) rfl) rfl rfl)
  (dss_cons (ds_if (dt_cmp o_lt (de_loc (i := 3) rfl (vis_of rfl) rfl rfl) de_int (nomark _)) (dss_cons (ds_ret (de_bin o_add (de_bin o_add (de_cut (de_loc (i := 1) rfl (vis_of rfl) rfl rfl) do_none (do_some (de_loc (i := 2) rfl (vis_of rfl) rfl rfl))) (de_tup (da_cons (de_v C__law_bent hr hG rfl (da_cons (de_loc (i := 0) rfl (vis_of rfl) rfl rfl) (da_cons (de_ix o_ix (de_loc (i := 1) rfl (vis_of rfl) rfl rfl) (de_loc (i := 2) rfl (vis_of rfl) rfl rfl) (fun _ _ => rfl)) da_nil rfl) rfl) rfl rfl rfl) da_nil rfl))) (de_cut (de_loc (i := 1) rfl (vis_of rfl) rfl rfl) (do_some (de_bin o_add (de_loc (i := 2) rfl (vis_of rfl) rfl rfl) de_int)) do_none)))
  dss_nil) dss_nil)
  (dss_cons (ds_if (dt_cmp (o_eq (huo hr)) (de_loc (i := 3) rfl (vis_of rfl) rfl rfl) de_int (nomark _)) (dss_cons (ds_ret (de_bin o_add (de_cut (de_loc (i := 1) rfl (vis_of rfl) rfl rfl) do_none (do_some (de_loc (i := 2) rfl (vis_of rfl) rfl rfl))) (de_cut (de_loc (i := 1) rfl (vis_of rfl) rfl rfl) (do_some (de_bin o_add (de_loc (i := 2) rfl (vis_of rfl) rfl rfl) de_int)) do_none)))
  dss_nil) dss_nil)
  (dss_cons (ds_if (dt_cmp (o_eq (huo hr)) (de_loc (i := 3) rfl (vis_of rfl) rfl rfl) de_int (nomark _)) (dss_cons (ds_ret (de_bin o_add (de_bin o_add (de_cut (de_loc (i := 1) rfl (vis_of rfl) rfl rfl) do_none (do_some (de_loc (i := 2) rfl (vis_of rfl) rfl rfl))) (de_cut (de_loc (i := 1) rfl (vis_of rfl) rfl rfl) (do_some (de_loc (i := 2) rfl (vis_of rfl) rfl rfl)) (do_some (de_bin o_add (de_loc (i := 2) rfl (vis_of rfl) rfl rfl) de_int)))) (de_cut (de_loc (i := 1) rfl (vis_of rfl) rfl rfl) (do_some (de_loc (i := 2) rfl (vis_of rfl) rfl rfl)) do_none)))
  dss_nil) dss_nil)
  (dss_cons (ds_ret (de_if (dt_cmp (o_eq (huo hr)) (de_loc (i := 3) rfl (vis_of rfl) rfl rfl) de_int (nomark _)) (de_rev (de_loc (i := 1) rfl (vis_of rfl) rfl rfl)) (de_callTy c_list rfl V.z_list bt_list (da_cons (de_loc (i := 1) rfl (vis_of rfl) rfl rfl) da_nil rfl) (by decide) rfl rfl rfl)))
  dss_nil)))))))
theorem g__law_bent {P : Program} {w : World} {K : PySem.W.Frag} {mg : Str → Option Value} {base : Heap} (V : Env K mg) : CalV P w K mg base 16 "_law_bent" s__law_bent ["pool", "thing"] (F__law_bent 12) := (g__law_bent_n V 12).up (by decide)
def d__law_is_frac : TSD := (sSeq2 (sIf (bOr (bNot (bTru (dOp (pIsi "tuple") (dCons (dLoc 0) dNil)))) (bVal (dOp pNe (dCons (dOp pLen (dCons (dLoc 0) dNil)) (dCons (dCon (.int 2)) dNil))))) (sSeq2 (sRet (dCon (.bool false)))
  sSkip) sSkip)
  (sSeq2 (sIf (bVal (dOp pIn (dCons (dCon (.bool false)) (dCons (dComp [1] (sSeq (dLoc 0)) (tName 1) bYes (dAnd (dOp (pIsi "int") (dCons (dLoc 1) dNil)) (dNot (dOp (pIsi "bool") (dCons (dLoc 1) dNil))))) dNil)))) (sSeq2 (sRet (dCon (.bool false)))
  sSkip) sSkip)
  (sSeq2 (sRet (dAnd (dOp pGt (dCons (dOp pIx (dCons (dLoc 0) (dCons (dCon (.int 1)) dNil))) (dCons (dCon (.int 0)) dNil))) (dOp pEq (dCons (dCall F__law_ratio (dCons (dOp pIx (dCons (dLoc 0) (dCons (dCon (.int 0)) dNil))) (dCons (dOp pIx (dCons (dLoc 0) (dCons (dCon (.int 1)) dNil))) dNil))) (dCons (dLoc 0) dNil)))))
  sSkip)))
def F__law_is_frac : List D → Option R := runF 1 2 d__law_is_frac
theorem sc__law_is_frac : FnScope ["value", "part"] ["value"] (defScope s__law_is_frac) := ⟨rfl, rfl, rfl, by decide +kernel, rfl, by decide +kernel, by decide +kernel⟩
theorem g__law_is_frac {P : Program} {w : World} {K : PySem.W.Frag} {mg : Str → Option Value} {base : Heap} (V : Env K mg) : CalP P w K mg base 2 "_law_is_frac" s__law_is_frac ["value"] F__law_is_frac := by
  have C__law_ratio : CalP P w K mg base 1 "_law_ratio" _ _ _ := (g__law_ratio V).up (by decide)
  refine cal_p V.r__law_is_frac sc__law_is_frac (fun _ _ _ _ _ _ us hl => match us, hl with | [_], _ => rfl) fun f cdv A outer s H E hr hG => ?_
  have ND := sc__law_is_frac.nd
  exact (dss_cons (ds_if (DW.dt (dw_or (dt_not (dt_tru (de_isi (T := "tuple") (by decide) rfl V.z_isinstance rfl V.z_tuple bt_tuple (by decide) rfl (de_loc (i := 0) rfl (vis_of rfl) rfl rfl) rfl) (fun _ => rfl))) (dw_or1 (dt_cmp (o_ne (huo hr)) (de_callB c_len rfl V.z_len bt_len (da_cons (de_loc (i := 0) rfl (vis_of rfl) rfl rfl) da_nil rfl) (by decide) rfl rfl rfl) de_int (nomark _))))) (dss_cons (ds_ret de_bl)
  dss_nil) dss_nil)
  (dss_cons (ds_if (dt_cmp (o_in (huo hr)) de_bl (de_comp rfl (own := [("part", 1)]) ND (di_seq (de_loc (i := 0) rfl (vis_of rfl) rfl rfl)) (blkOk_by rfl) (fun _ _ _ _ _ => (dg_name (i := 1) ND rfl (loc_of rfl) (lfn_of rfl))) (fun _ _ _ _ _ => pts_yes) (fun _ _ _ _ _ => (de_and (de_isi (T := "int") (by decide) rfl V.z_isinstance rfl V.z_int bt_int (by decide) rfl (de_loc (i := 1) rfl (vis_of rfl) rfl rfl) rfl) (de_one (de_not (de_isi (T := "bool") (by decide) rfl V.z_isinstance rfl V.z_bool bt_bool (by decide) rfl (de_loc (i := 1) rfl (vis_of rfl) rfl rfl) rfl))))) (fun _ => rfl) (by decide)) (by with_unfolding_all rfl)) (dss_cons (ds_ret de_bl)
  dss_nil) dss_nil)
  (dss_cons (ds_ret (de_and (de_cmp o_gt (de_ix o_ix (de_loc (i := 0) rfl (vis_of rfl) rfl rfl) de_int (fun _ _ => rfl)) de_int (nomark _)) (de_one (de_cmp (o_eq (huo hr)) (de_p C__law_ratio hr hG rfl (da_cons (de_ix o_ix (de_loc (i := 0) rfl (vis_of rfl) rfl rfl) de_int (fun _ _ => rfl)) (da_cons (de_ix o_ix (de_loc (i := 0) rfl (vis_of rfl) rfl rfl) de_int (fun _ _ => rfl)) da_nil rfl) rfl) rfl rfl rfl) (de_loc (i := 0) rfl (vis_of rfl) rfl rfl) (nomark _)))))
  dss_nil)))
def d__law_are_fence : TSD := (sSeq2 (sIf (bOr (bNot (bTru (dOp (pIsi "tuple") (dCons (dLoc 0) dNil)))) (bNot (bVal (dChain (fun i j => decide (i ≤ j)) (fun i j => decide (i ≤ j)) (dCon (.int 1)) (dOp pLen (dCons (dLoc 0) dNil)) (dCon (.int 6)))))) (sSeq2 (sRet (dCon (.bool false)))
  sSkip) sSkip)
  (sSeq2 (sFor (sSeq (dLoc 0)) (tName 1) (sSeq2 (sIf (bOr (bNot (bTru (dOp (pIsi "tuple") (dCons (dLoc 1) dNil)))) (bOr (bVal (dOp pNe (dCons (dOp pLen (dCons (dLoc 1) dNil)) (dCons (dCon (.int 2)) dNil)))) (bNot (bTru (dCall F__law_is_frac (dCons (dOp pIx (dCons (dLoc 1) (dCons (dCon (.int 1)) dNil))) dNil)))))) (sSeq2 (sRet (dCon (.bool false)))
  sSkip) sSkip)
  (sSeq2 (sIf (bNot (bTru (dOp (pIsi "tuple") (dCons (dOp pIx (dCons (dLoc 1) (dCons (dCon (.int 0)) dNil))) dNil)))) (sSeq2 (sRet (dCon (.bool false)))
  sSkip) sSkip)
  (sSeq2 (sIf (bOr (bNot (bVal (dChain (fun i j => decide (i ≤ j)) (fun i j => decide (i ≤ j)) (dCon (.int 1)) (dOp pLen (dCons (dOp pIx (dCons (dLoc 1) (dCons (dCon (.int 0)) dNil))) dNil)) (dCon (.int 5))))) (bVal (dOp pIn (dCons (dCon (.bool false)) (dCons (dComp [2] (sSeq (dOp pIx (dCons (dLoc 1) (dCons (dCon (.int 0)) dNil)))) (tName 2) bYes (dCall F__law_is_frac (dCons (dLoc 2) dNil))) dNil))))) (sSeq2 (sRet (dCon (.bool false)))
  sSkip) sSkip)
  (sSeq2 (sIf (bVal (dOp pEq (dCons (dComp [2] (sSeq (dOp pIx (dCons (dLoc 1) (dCons (dCon (.int 0)) dNil)))) (tName 2) (bVal (dOp pNe (dCons (dOp pIx (dCons (dLoc 2) (dCons (dCon (.int 0)) dNil))) (dCons (dCon (.int 0)) dNil)))) (dLoc 2)) (dCons (dLst dNil) dNil)))) (sSeq2 (sRet (dCon (.bool false)))
  sSkip) sSkip)
  sSkip)))))
  (sSeq2 (sRet (dOp pEq (dCons (dComp [1] (sSeq (dLoc 0)) (tName 1) (bVal (dOp pNe (dCons (dOp pLen (dCons (dOp pIx (dCons (dLoc 1) (dCons (dCon (.int 0)) dNil))) dNil)) (dCons (dOp pLen (dCons (dOp pIx (dCons (dOp pIx (dCons (dLoc 0) (dCons (dCon (.int 0)) dNil))) (dCons (dCon (.int 0)) dNil))) dNil)) dNil)))) (dLoc 1)) (dCons (dLst dNil) dNil))))
  sSkip)))
def F__law_are_fence : List D → Option R := runF 1 3 d__law_are_fence
theorem sc__law_are_fence : FnScope ["value", "each", "one"] ["value"] (defScope s__law_are_fence) := ⟨rfl, rfl, rfl, by decide +kernel, rfl, by decide +kernel, by decide +kernel⟩
theorem g__law_are_fence {P : Program} {w : World} {K : PySem.W.Frag} {mg : Str → Option Value} {base : Heap} (V : Env K mg) : CalP P w K mg base 3 "_law_are_fence" s__law_are_fence ["value"] F__law_are_fence := by
  have C__law_is_frac : CalP P w K mg base 2 "_law_is_frac" _ _ _ := (g__law_is_frac V).up (by decide)
  refine cal_p V.r__law_are_fence sc__law_are_fence (fun _ _ _ _ _ _ us hl => match us, hl with | [_], _ => rfl) fun f cdv A outer s H E hr hG => ?_
  have ND := sc__law_are_fence.nd
  exact (dss_cons (ds_if (DW.dt (dw_or (dt_not (dt_tru (de_isi (T := "tuple") (by decide) rfl V.z_isinstance rfl V.z_tuple bt_tuple (by decide) rfl (de_loc (i := 0) rfl (vis_of rfl) rfl rfl) rfl) (fun _ => rfl))) (dw_or1 (dt_not (dt_chain op_le op_le de_int (de_callB c_len rfl V.z_len bt_len (da_cons (de_loc (i := 0) rfl (vis_of rfl) rfl rfl) da_nil rfl) (by decide) rfl rfl rfl) de_int rfl))))) (dss_cons (ds_ret de_bl)
  dss_nil) dss_nil)
  (dss_cons (ds_for PassesOwn.never rfl (di_seq (de_loc (i := 0) rfl (vis_of rfl) rfl rfl)) (dg_name (i := 1) ND rfl (loc_of rfl) (lfn_of rfl)) (dss_cons (ds_if (DW.dt (dw_or (dt_not (dt_tru (de_isi (T := "tuple") (by decide) rfl V.z_isinstance rfl V.z_tuple bt_tuple (by decide) rfl (de_loc (i := 1) rfl (vis_of rfl) rfl rfl) rfl) (fun _ => rfl))) (dw_or (dt_cmp (o_ne (huo hr)) (de_callB c_len rfl V.z_len bt_len (da_cons (de_loc (i := 1) rfl (vis_of rfl) rfl rfl) da_nil rfl) (by decide) rfl rfl rfl) de_int (nomark _)) (dw_or1 (dt_not (dt_tru (de_p C__law_is_frac hr hG rfl (da_cons (de_ix o_ix (de_loc (i := 1) rfl (vis_of rfl) rfl rfl) de_int (fun _ _ => rfl)) da_nil rfl) rfl rfl rfl) (fun _ => rfl))))))) (dss_cons (ds_ret de_bl)
  dss_nil) dss_nil)
  (dss_cons (ds_if (dt_not (dt_tru (de_isi (T := "tuple") (by decide) rfl V.z_isinstance rfl V.z_tuple bt_tuple (by decide) rfl (de_ix o_ix (de_loc (i := 1) rfl (vis_of rfl) rfl rfl) de_int (fun _ _ => rfl)) rfl) (fun _ => rfl))) (dss_cons (ds_ret de_bl)
  dss_nil) dss_nil)
  (dss_cons (ds_if (DW.dt (dw_or (dt_not (dt_chain op_le op_le de_int (de_callB c_len rfl V.z_len bt_len (da_cons (de_ix o_ix (de_loc (i := 1) rfl (vis_of rfl) rfl rfl) de_int (fun _ _ => rfl)) da_nil rfl) (by decide) rfl rfl rfl) de_int rfl)) (dw_or1 (dt_cmp (o_in (huo hr)) de_bl (de_comp rfl (own := [("one", 2)]) ND (di_seq (de_ix o_ix (de_loc (i := 1) rfl (vis_of rfl) rfl rfl) de_int (fun _ _ => rfl))) (blkOk_by rfl) (fun _ _ _ _ _ => (dg_name (i := 2) ND rfl (loc_of rfl) (lfn_of rfl))) (fun _ _ _ _ _ => pts_yes) (fun _ _ _ _ _ => (de_p C__law_is_frac hr hG rfl (da_cons (de_loc (i := 2) rfl (vis_of rfl) rfl rfl) da_nil rfl) rfl rfl rfl)) (fun _ => rfl) (by decide)) (by with_unfolding_all rfl))))) (dss_cons (ds_ret de_bl)
  dss_nil) dss_nil)
  (dss_cons (ds_if (dt_cmp (o_eq (huo hr)) (de_comp rfl (own := [("one", 2)]) ND (di_seq (de_ix o_ix (de_loc (i := 1) rfl (vis_of rfl) rfl rfl) de_int (fun _ _ => rfl))) (blkOk_by rfl) (fun _ _ _ _ _ => (dg_name (i := 2) ND rfl (loc_of rfl) (lfn_of rfl))) (fun _ _ _ _ _ => (pts_one (dt_cmp (o_ne (huo hr)) (de_ix o_ix (de_loc (i := 2) rfl (vis_of rfl) rfl rfl) de_int (fun _ _ => rfl)) de_int (nomark _)))) (fun _ _ _ _ _ => (de_loc (i := 2) rfl (vis_of rfl) rfl rfl)) (fun _ => rfl) (by decide)) (de_lst da_nil) (nomark _)) (dss_cons (ds_ret de_bl)
  dss_nil) dss_nil)
  dss_nil)))) (fun _ => rfl))
  (dss_cons (ds_ret (de_cmp (o_eq (huo hr)) (de_comp rfl (own := [("each", 1)]) ND (di_seq (de_loc (i := 0) rfl (vis_of rfl) rfl rfl)) (blkOk_by rfl) (fun _ _ _ _ _ => (dg_name (i := 1) ND rfl (loc_of rfl) (lfn_of rfl))) (fun _ _ _ _ _ => (pts_one (dt_cmp (o_ne (huo hr)) (de_callB c_len rfl V.z_len bt_len (da_cons (de_ix o_ix (de_loc (i := 1) rfl (vis_of rfl) rfl rfl) de_int (fun _ _ => rfl)) da_nil rfl) (by decide) rfl rfl rfl) (de_callB c_len rfl V.z_len bt_len (da_cons (de_ix o_ix (de_ix o_ix (de_loc (i := 0) rfl (vis_of rfl) rfl rfl) de_int (fun _ _ => rfl)) de_int (fun _ _ => rfl)) da_nil rfl) (by decide) rfl rfl rfl) (nomark _)))) (fun _ _ _ _ _ => (de_loc (i := 1) rfl (vis_of rfl) rfl rfl)) (fun _ => rfl) (by decide)) (de_lst da_nil) (nomark _)))
  dss_nil)))
def d_is_whole : TSD := (sSeq2 (sRet (dAnd (dOp (pIsi "int") (dCons (dLoc 0) dNil)) (dNot (dOp (pIsi "bool") (dCons (dLoc 0) dNil)))))
  sSkip)
def F_is_whole : List D → Option R := runF 1 1 d_is_whole
theorem sc_is_whole : FnScope ["value"] ["value"] (defScope s_is_whole) := ⟨rfl, rfl, rfl, by decide +kernel, rfl, by decide +kernel, by decide +kernel⟩
theorem g_is_whole {P : Program} {w : World} {K : PySem.W.Frag} {mg : Str → Option Value} {base : Heap} (V : Env K mg) : CalP P w K mg base 1 "is_whole" s_is_whole ["value"] F_is_whole := by
  refine cal_p V.r_is_whole sc_is_whole (fun _ _ _ _ _ _ us hl => match us, hl with | [_], _ => rfl) fun f cdv A outer s H E hr hG => ?_
  have ND := sc_is_whole.nd
  exact (dss_cons (ds_ret (de_and (de_isi (T := "int") (by decide) rfl V.z_isinstance rfl V.z_int bt_int (by decide) rfl (de_loc (i := 0) rfl (vis_of rfl) rfl rfl) rfl) (de_one (de_not (de_isi (T := "bool") (by decide) rfl V.z_isinstance rfl V.z_bool bt_bool (by decide) rfl (de_loc (i := 0) rfl (vis_of rfl) rfl rfl) rfl)))))
  dss_nil)
def d_are_wholes : TSD := (sSeq2 (sRet (dAnd (dOp (pIsi "tuple") (dCons (dLoc 0) dNil)) (dAnd (dOp pEq (dCons (dOp pLen (dCons (dLoc 0) dNil)) (dCons (dLoc 1) dNil))) (dOp pEq (dCons (dComp [2] (sSeq (dLoc 0)) (tName 2) (bNot (bTru (dCall F_is_whole (dCons (dLoc 2) dNil)))) (dLoc 2)) (dCons (dLst dNil) dNil))))))
  sSkip)
def F_are_wholes : List D → Option R := runF 2 3 d_are_wholes
theorem sc_are_wholes : FnScope ["value", "many", "each"] ["value", "many"] (defScope s_are_wholes) := ⟨rfl, rfl, rfl, by decide +kernel, rfl, by decide +kernel, by decide +kernel⟩
theorem g_are_wholes {P : Program} {w : World} {K : PySem.W.Frag} {mg : Str → Option Value} {base : Heap} (V : Env K mg) : CalP P w K mg base 2 "are_wholes" s_are_wholes ["value", "many"] F_are_wholes := by
  have C_is_whole : CalP P w K mg base 1 "is_whole" _ _ _ := (g_is_whole V).up (by decide)
  refine cal_p V.r_are_wholes sc_are_wholes (fun _ _ _ _ _ _ us hl => match us, hl with | [_, _], _ => rfl) fun f cdv A outer s H E hr hG => ?_
  have ND := sc_are_wholes.nd
  exact (dss_cons (ds_ret (de_and (de_isi (T := "tuple") (by decide) rfl V.z_isinstance rfl V.z_tuple bt_tuple (by decide) rfl (de_loc (i := 0) rfl (vis_of rfl) rfl rfl) rfl) (de_and (de_cmp (o_eq (huo hr)) (de_callB c_len rfl V.z_len bt_len (da_cons (de_loc (i := 0) rfl (vis_of rfl) rfl rfl) da_nil rfl) (by decide) rfl rfl rfl) (de_loc (i := 1) rfl (vis_of rfl) rfl rfl) (nomark _)) (de_one (de_cmp (o_eq (huo hr)) (de_comp rfl (own := [("each", 2)]) ND (di_seq (de_loc (i := 0) rfl (vis_of rfl) rfl rfl)) (blkOk_by rfl) (fun _ _ _ _ _ => (dg_name (i := 2) ND rfl (loc_of rfl) (lfn_of rfl))) (fun _ _ _ _ _ => (pts_one (dt_not (dt_tru (de_p C_is_whole hr hG rfl (da_cons (de_loc (i := 2) rfl (vis_of rfl) rfl rfl) da_nil rfl) rfl rfl rfl) (fun _ => rfl))))) (fun _ _ _ _ _ => (de_loc (i := 2) rfl (vis_of rfl) rfl rfl)) (fun _ => rfl) (by decide)) (de_lst da_nil) (nomark _))))))
  dss_nil)
def d_is_fraction : TSD := (sSeq2 (sRet (dAnd (dCall F_are_wholes (dCons (dLoc 0) (dCons (dCon (.int 2)) dNil))) (dAnd (dOp pGt (dCons (dOp pIx (dCons (dLoc 0) (dCons (dCon (.int 1)) dNil))) (dCons (dCon (.int 0)) dNil))) (dOp pEq (dCons (dOp pGcd (dCons (dOp pIx (dCons (dLoc 0) (dCons (dCon (.int 0)) dNil))) (dCons (dOp pIx (dCons (dLoc 0) (dCons (dCon (.int 1)) dNil))) dNil))) (dCons (dCon (.int 1)) dNil))))))
  sSkip)
def F_is_fraction : List D → Option R := runF 1 1 d_is_fraction
theorem sc_is_fraction : FnScope ["value"] ["value"] (defScope s_is_fraction) := ⟨rfl, rfl, rfl, by decide +kernel, rfl, by decide +kernel, by decide +kernel⟩
theorem g_is_fraction {P : Program} {w : World} {K : PySem.W.Frag} {mg : Str → Option Value} {base : Heap} (V : Env K mg) : CalP P w K mg base 3 "is_fraction" s_is_fraction ["value"] F_is_fraction := by
  have C_are_wholes : CalP P w K mg base 2 "are_wholes" _ _ _ := (g_are_wholes V).up (by decide)
  refine cal_p V.r_is_fraction sc_is_fraction (fun _ _ _ _ _ _ us hl => match us, hl with | [_], _ => rfl) fun f cdv A outer s H E hr hG => ?_
  have ND := sc_is_fraction.nd
  exact (dss_cons (ds_ret (de_and (de_p C_are_wholes hr hG rfl (da_cons (de_loc (i := 0) rfl (vis_of rfl) rfl rfl) (da_cons de_int da_nil rfl) rfl) rfl rfl rfl) (de_and (de_cmp o_gt (de_ix o_ix (de_loc (i := 0) rfl (vis_of rfl) rfl rfl) de_int (fun _ _ => rfl)) de_int (nomark _)) (de_one (de_cmp (o_eq (huo hr)) (de_callF c_gcd rfl V.m_gcd (da_cons (de_ix o_ix (de_loc (i := 0) rfl (vis_of rfl) rfl rfl) de_int (fun _ _ => rfl)) (da_cons (de_ix o_ix (de_loc (i := 0) rfl (vis_of rfl) rfl rfl) de_int (fun _ _ => rfl)) da_nil rfl) rfl) rfl rfl rfl) de_int (nomark _))))))
  dss_nil)
def d_are_fractions : TSD := (sSeq2 (sRet (dAnd (dOp (pIsi "tuple") (dCons (dLoc 0) dNil)) (dAnd (dOp pEq (dCons (dOp pLen (dCons (dLoc 0) dNil)) (dCons (dLoc 1) dNil))) (dOp pEq (dCons (dComp [2] (sSeq (dLoc 0)) (tName 2) (bNot (bTru (dCall F_is_fraction (dCons (dLoc 2) dNil)))) (dLoc 2)) (dCons (dLst dNil) dNil))))))
  sSkip)
def F_are_fractions : List D → Option R := runF 2 3 d_are_fractions
theorem sc_are_fractions : FnScope ["value", "size", "each"] ["value", "size"] (defScope s_are_fractions) := ⟨rfl, rfl, rfl, by decide +kernel, rfl, by decide +kernel, by decide +kernel⟩
theorem g_are_fractions {P : Program} {w : World} {K : PySem.W.Frag} {mg : Str → Option Value} {base : Heap} (V : Env K mg) : CalP P w K mg base 4 "are_fractions" s_are_fractions ["value", "size"] F_are_fractions := by
  have C_is_fraction : CalP P w K mg base 3 "is_fraction" _ _ _ := (g_is_fraction V).up (by decide)
  refine cal_p V.r_are_fractions sc_are_fractions (fun _ _ _ _ _ _ us hl => match us, hl with | [_, _], _ => rfl) fun f cdv A outer s H E hr hG => ?_
  have ND := sc_are_fractions.nd
  exact (dss_cons (ds_ret (de_and (de_isi (T := "tuple") (by decide) rfl V.z_isinstance rfl V.z_tuple bt_tuple (by decide) rfl (de_loc (i := 0) rfl (vis_of rfl) rfl rfl) rfl) (de_and (de_cmp (o_eq (huo hr)) (de_callB c_len rfl V.z_len bt_len (da_cons (de_loc (i := 0) rfl (vis_of rfl) rfl rfl) da_nil rfl) (by decide) rfl rfl rfl) (de_loc (i := 1) rfl (vis_of rfl) rfl rfl) (nomark _)) (de_one (de_cmp (o_eq (huo hr)) (de_comp rfl (own := [("each", 2)]) ND (di_seq (de_loc (i := 0) rfl (vis_of rfl) rfl rfl)) (blkOk_by rfl) (fun _ _ _ _ _ => (dg_name (i := 2) ND rfl (loc_of rfl) (lfn_of rfl))) (fun _ _ _ _ _ => (pts_one (dt_not (dt_tru (de_p C_is_fraction hr hG rfl (da_cons (de_loc (i := 2) rfl (vis_of rfl) rfl rfl) da_nil rfl) rfl rfl rfl) (fun _ => rfl))))) (fun _ _ _ _ _ => (de_loc (i := 2) rfl (vis_of rfl) rfl rfl)) (fun _ => rfl) (by decide)) (de_lst da_nil) (nomark _))))))
  dss_nil)
def d_is_noughts : TSD := (sSeq2 (sRet (dOp pEq (dCons (dComp [1] (sSeq (dLoc 0)) (tName 1) (bVal (dOp pNe (dCons (dLoc 1) (dCons (dCon (.tuple [(.int 0), (.int 1)])) dNil)))) (dLoc 1)) (dCons (dLst dNil) dNil))))
  sSkip)
def F_is_noughts : List D → Option R := runF 1 2 d_is_noughts
theorem sc_is_noughts : FnScope ["row", "each"] ["row"] (defScope s_is_noughts) := ⟨rfl, rfl, rfl, by decide +kernel, rfl, by decide +kernel, by decide +kernel⟩
theorem g_is_noughts {P : Program} {w : World} {K : PySem.W.Frag} {mg : Str → Option Value} {base : Heap} (V : Env K mg) : CalP P w K mg base 1 "is_noughts" s_is_noughts ["row"] F_is_noughts := by
  refine cal_p V.r_is_noughts sc_is_noughts (fun _ _ _ _ _ _ us hl => match us, hl with | [_], _ => rfl) fun f cdv A outer s H E hr hG => ?_
  have ND := sc_is_noughts.nd
  exact (dss_cons (ds_ret (de_cmp (o_eq (huo hr)) (de_comp rfl (own := [("each", 1)]) ND (di_seq (de_loc (i := 0) rfl (vis_of rfl) rfl rfl)) (blkOk_by rfl) (fun _ _ _ _ _ => (dg_name (i := 1) ND rfl (loc_of rfl) (lfn_of rfl))) (fun _ _ _ _ _ => (pts_one (dt_cmp (o_ne (huo hr)) (de_loc (i := 1) rfl (vis_of rfl) rfl rfl) (de_gl V.c_NOUGHT rfl rfl) (nomark _)))) (fun _ _ _ _ _ => (de_loc (i := 1) rfl (vis_of rfl) rfl rfl)) (fun _ => rfl) (by decide)) (de_lst da_nil) (nomark _)))
  dss_nil)
def d_is_wall : TSD := (sSeq2 (sIf (bOr (bNot (bTru (dOp (pIsi "tuple") (dCons (dLoc 0) dNil)))) (bOr (bVal (dOp pNe (dCons (dOp pLen (dCons (dLoc 0) dNil)) (dCons (dCon (.int 2)) dNil)))) (bNot (bTru (dOp (pIsi "tuple") (dCons (dOp pIx (dCons (dLoc 0) (dCons (dCon (.int 0)) dNil))) dNil)))))) (sSeq2 (sRet (dCon (.bool false)))
  sSkip) sSkip)
  (sSeq2 (sIf (bOr (bNot (bVal (dChain (fun i j => decide (i ≤ j)) (fun i j => decide (i ≤ j)) (dCon (.int 1)) (dOp pLen (dCons (dOp pIx (dCons (dLoc 0) (dCons (dCon (.int 0)) dNil))) dNil)) (dCon (.int 5))))) (bNot (bTru (dCall F_are_fractions (dCons (dOp pIx (dCons (dLoc 0) (dCons (dCon (.int 0)) dNil))) (dCons (dOp pLen (dCons (dOp pIx (dCons (dLoc 0) (dCons (dCon (.int 0)) dNil))) dNil)) dNil)))))) (sSeq2 (sRet (dCon (.bool false)))
  sSkip) sSkip)
  (sSeq2 (sRet (dAnd (dNot (dCall F_is_noughts (dCons (dOp pIx (dCons (dLoc 0) (dCons (dCon (.int 0)) dNil))) dNil))) (dCall F_is_fraction (dCons (dOp pIx (dCons (dLoc 0) (dCons (dCon (.int 1)) dNil))) dNil))))
  sSkip)))
def F_is_wall : List D → Option R := runF 1 1 d_is_wall
theorem sc_is_wall : FnScope ["value"] ["value"] (defScope s_is_wall) := ⟨rfl, rfl, rfl, by decide +kernel, rfl, by decide +kernel, by decide +kernel⟩
theorem g_is_wall {P : Program} {w : World} {K : PySem.W.Frag} {mg : Str → Option Value} {base : Heap} (V : Env K mg) : CalP P w K mg base 5 "is_wall" s_is_wall ["value"] F_is_wall := by
  have C_are_fractions : CalP P w K mg base 4 "are_fractions" _ _ _ := (g_are_fractions V).up (by decide)
  have C_is_fraction : CalP P w K mg base 4 "is_fraction" _ _ _ := (g_is_fraction V).up (by decide)
  have C_is_noughts : CalP P w K mg base 4 "is_noughts" _ _ _ := (g_is_noughts V).up (by decide)
  refine cal_p V.r_is_wall sc_is_wall (fun _ _ _ _ _ _ us hl => match us, hl with | [_], _ => rfl) fun f cdv A outer s H E hr hG => ?_
  have ND := sc_is_wall.nd
  exact (dss_cons (ds_if (DW.dt (dw_or (dt_not (dt_tru (de_isi (T := "tuple") (by decide) rfl V.z_isinstance rfl V.z_tuple bt_tuple (by decide) rfl (de_loc (i := 0) rfl (vis_of rfl) rfl rfl) rfl) (fun _ => rfl))) (dw_or (dt_cmp (o_ne (huo hr)) (de_callB c_len rfl V.z_len bt_len (da_cons (de_loc (i := 0) rfl (vis_of rfl) rfl rfl) da_nil rfl) (by decide) rfl rfl rfl) de_int (nomark _)) (dw_or1 (dt_not (dt_tru (de_isi (T := "tuple") (by decide) rfl V.z_isinstance rfl V.z_tuple bt_tuple (by decide) rfl (de_ix o_ix (de_loc (i := 0) rfl (vis_of rfl) rfl rfl) de_int (fun _ _ => rfl)) rfl) (fun _ => rfl))))))) (dss_cons (ds_ret de_bl)
  dss_nil) dss_nil)
  (dss_cons (ds_if (DW.dt (dw_or (dt_not (dt_chain op_le op_le de_int (de_callB c_len rfl V.z_len bt_len (da_cons (de_ix o_ix (de_loc (i := 0) rfl (vis_of rfl) rfl rfl) de_int (fun _ _ => rfl)) da_nil rfl) (by decide) rfl rfl rfl) (de_gl V.c_MOST_UNKNOWNS rfl rfl) rfl)) (dw_or1 (dt_not (dt_tru (de_p C_are_fractions hr hG rfl (da_cons (de_ix o_ix (de_loc (i := 0) rfl (vis_of rfl) rfl rfl) de_int (fun _ _ => rfl)) (da_cons (de_callB c_len rfl V.z_len bt_len (da_cons (de_ix o_ix (de_loc (i := 0) rfl (vis_of rfl) rfl rfl) de_int (fun _ _ => rfl)) da_nil rfl) (by decide) rfl rfl rfl) da_nil rfl) rfl) rfl rfl rfl) (fun _ => rfl)))))) (dss_cons (ds_ret de_bl)
  dss_nil) dss_nil)
  (dss_cons (ds_ret (de_and (de_not (de_p C_is_noughts hr hG rfl (da_cons (de_ix o_ix (de_loc (i := 0) rfl (vis_of rfl) rfl rfl) de_int (fun _ _ => rfl)) da_nil rfl) rfl rfl rfl)) (de_one (de_p C_is_fraction hr hG rfl (da_cons (de_ix o_ix (de_loc (i := 0) rfl (vis_of rfl) rfl rfl) de_int (fun _ _ => rfl)) da_nil rfl) rfl rfl rfl))))
  dss_nil)))
def d_are_walls : TSD := (sSeq2 (sIf (bOr (bNot (bTru (dOp (pIsi "tuple") (dCons (dLoc 0) dNil)))) (bVal (dOp pEq (dCons (dLoc 0) (dCons (dTup dNil) dNil))))) (sSeq2 (sRet (dTup (dCons (dCon .none) dNil)))
  sSkip) sSkip)
  (sSeq2 (sFor (sEnumA (dLoc 0)) (gTupD 2 (gsCons (tName 1) (gsCons (tName 2) gsNil))) (sSeq2 (sIf (bOr (bVal (dOp pEq (dCons (dLoc 1) (dCons (dCon (.int 6)) dNil)))) (bOr (bNot (bTru (dCall F_is_wall (dCons (dLoc 2) dNil)))) (bVal (dOp pNe (dCons (dOp pLen (dCons (dOp pIx (dCons (dLoc 2) (dCons (dCon (.int 0)) dNil))) dNil)) (dCons (dOp pLen (dCons (dOp pIx (dCons (dOp pIx (dCons (dLoc 0) (dCons (dCon (.int 0)) dNil))) (dCons (dCon (.int 0)) dNil))) dNil)) dNil)))))) (sSeq2 (sRet (dTup (dCons (dLoc 1) dNil)))
  sSkip) sSkip)
  sSkip))
  (sSeq2 (sRet (dCon .none))
  sSkip)))
def F_are_walls : List D → Option R := runF 1 3 d_are_walls
theorem sc_are_walls : FnScope ["value", "index", "each"] ["value"] (defScope s_are_walls) := ⟨rfl, rfl, rfl, by decide +kernel, rfl, by decide +kernel, by decide +kernel⟩
theorem g_are_walls {P : Program} {w : World} {K : PySem.W.Frag} {mg : Str → Option Value} {base : Heap} (V : Env K mg) : CalP P w K mg base 6 "are_walls" s_are_walls ["value"] F_are_walls := by
  have C_is_wall : CalP P w K mg base 5 "is_wall" _ _ _ := (g_is_wall V).up (by decide)
  refine cal_p V.r_are_walls sc_are_walls (fun _ _ _ _ _ _ us hl => match us, hl with | [_], _ => rfl) fun f cdv A outer s H E hr hG => ?_
  have ND := sc_are_walls.nd
  exact (dss_cons (ds_if (DW.dt (dw_or (dt_not (dt_tru (de_isi (T := "tuple") (by decide) rfl V.z_isinstance rfl V.z_tuple bt_tuple (by decide) rfl (de_loc (i := 0) rfl (vis_of rfl) rfl rfl) rfl) (fun _ => rfl))) (dw_or1 (dt_cmp (o_eq (huo hr)) (de_loc (i := 0) rfl (vis_of rfl) rfl rfl) (de_tup da_nil) (nomark _))))) (dss_cons (ds_ret (de_tup (da_cons de_non da_nil rfl)))
  dss_nil) dss_nil)
  (dss_cons (ds_for PassesOwn.never rfl (di_enumA rfl V.z_enumerate (de_loc (i := 0) rfl (vis_of rfl) rfl rfl) rfl) (dg_tup rfl (dgs_cons (dg_name (i := 1) ND rfl (loc_of rfl) (lfn_of rfl)) (dgs_cons (dg_name (i := 2) ND rfl (loc_of rfl) (lfn_of rfl)) dgs_nil rfl) rfl) rfl rfl) (dss_cons (ds_if (DW.dt (dw_or (dt_cmp (o_eq (huo hr)) (de_loc (i := 1) rfl (vis_of rfl) rfl rfl) (de_gl V.c_MOST_WALLS rfl rfl) (nomark _)) (dw_or (dt_not (dt_tru (de_p C_is_wall hr hG rfl (da_cons (de_loc (i := 2) rfl (vis_of rfl) rfl rfl) da_nil rfl) rfl rfl rfl) (fun _ => rfl))) (dw_or1 (dt_cmp (o_ne (huo hr)) (de_callB c_len rfl V.z_len bt_len (da_cons (de_ix o_ix (de_loc (i := 2) rfl (vis_of rfl) rfl rfl) de_int (fun _ _ => rfl)) da_nil rfl) (by decide) rfl rfl rfl) (de_callB c_len rfl V.z_len bt_len (da_cons (de_ix o_ix (de_ix o_ix (de_loc (i := 0) rfl (vis_of rfl) rfl rfl) de_int (fun _ _ => rfl)) de_int (fun _ _ => rfl)) da_nil rfl) (by decide) rfl rfl rfl) (nomark _)))))) (dss_cons (ds_ret (de_tup (da_cons (de_loc (i := 1) rfl (vis_of rfl) rfl rfl) da_nil rfl)))
  dss_nil) dss_nil)
  dss_nil) (fun _ => rfl))
  (dss_cons (ds_ret de_non)
  dss_nil)))
def d_is_fence : TSD := (sSeq2 (sRet (dOp pIs (dCons (dCall F_are_walls (dCons (dLoc 0) dNil)) (dCons (dCon .none) dNil))))
  sSkip)
def F_is_fence : List D → Option R := runF 1 1 d_is_fence
theorem sc_is_fence : FnScope ["value"] ["value"] (defScope s_is_fence) := ⟨rfl, rfl, rfl, by decide +kernel, rfl, by decide +kernel, by decide +kernel⟩
theorem g_is_fence {P : Program} {w : World} {K : PySem.W.Frag} {mg : Str → Option Value} {base : Heap} (V : Env K mg) : CalP P w K mg base 7 "is_fence" s_is_fence ["value"] F_is_fence := by
  have C_are_walls : CalP P w K mg base 6 "are_walls" _ _ _ := (g_are_walls V).up (by decide)
  refine cal_p V.r_is_fence sc_is_fence (fun _ _ _ _ _ _ us hl => match us, hl with | [_], _ => rfl) fun f cdv A outer s H E hr hG => ?_
  have ND := sc_is_fence.nd
  exact (dss_cons (ds_ret (de_cmp o_is (de_p C_are_walls hr hG rfl (da_cons (de_loc (i := 0) rfl (vis_of rfl) rfl rfl) da_nil rfl) rfl rfl rfl) de_non (nomark _)))
  dss_nil)
def d__law_is_known : TSD := (sSeq2 (sAsgT (dCons (dOp pMul (dCons (dTup (dCons (dTup (dCons (dCon (.int 0)) (dCons (dCon (.int 1)) dNil))) dNil)) (dCons (dLoc 1) dNil))) (dCons (dOp pMul (dCons (dTup (dCons (dTup (dCons (dCon (.int 1)) (dCons (dCon (.int 1)) dNil))) dNil)) (dCons (dOp pAdd (dCons (dLoc 1) (dCons (dCon (.int 1)) dNil))) dNil))) dNil)) 2 (gsCons (tName 5) (gsCons (tName 6) gsNil)))
  (sSeq2 (sAsg (dLst (dCons (dLoc 2) (dCons (dCallV (F__law_bent 12) (dCons (dLoc 0) (dCons (dLoc 2) dNil))) (dCons (dCallV (F__law_bent 12) (dCons (dLoc 0) (dCons (dCallV (F__law_bent 12) (dCons (dLoc 0) (dCons (dLoc 2) dNil))) dNil))) (dCons (dCallV F__law_strange (dCons (dLoc 0) dNil)) (dCons (dOp pAdd (dCons (dLoc 2) (dCons (dLoc 2) dNil))) dNil)))))) (tName 3))
  (sSeq2 (sAsg (dOp pAdd (dCons (dLoc 3) (dCons (dLst (dCons (dOp pList (dCons (dLoc 2) dNil)) (dCons (dOp pAdd (dCons (dLoc 2) (dCons (dTup (dCons (dTup (dCons (dLoc 5) (dCons (dTup (dCons (dCon (.int 0)) (dCons (dCon (.int 1)) dNil))) dNil))) dNil)) dNil))) (dCons (dOp pAdd (dCons (dCut (dLoc 2) iNo (iOf (dCon (.int 1)))) (dCons (dTup (dCons (dTup (dCons (dLoc 6) (dCons (dTup (dCons (dCon (.int 1)) (dCons (dCon (.int 1)) dNil))) dNil))) dNil)) dNil))) (dCons (dTup dNil) (dCons (dOp pIx (dCons (dLoc 2) (dCons (dCon (.int 0)) dNil))) dNil)))))) dNil))) (tName 3))
  (sSeq2 (sExp (dApp 3 (dOp pMul (dCons (dTup (dCons (dTup (dCons (dLoc 6) (dCons (dTup (dCons (dCon (.int 0)) (dCons (dCon (.int 1)) dNil))) dNil))) dNil)) (dCons (dCon (.int 6)) dNil)))))
  (sSeq2 (sFor (sSeq (dLoc 3)) (tName 4) (sSeq2 (sAsg (dCall F__law_are_fence (dCons (dLoc 4) dNil)) (tName 7))
  (sSeq2 (sIf (bVal (dOp pNe (dCons (dOp pRepr (dCons (dLst (dCons (dCall F_is_fence (dCons (dLoc 4) dNil)) (dCons (dCallK F_is_fence 1 [0] (dCons (dLoc 4) dNil)) dNil))) dNil)) (dCons (dOp pRepr (dCons (dLst (dCons (dLoc 7) (dCons (dLoc 7) dNil))) dNil)) dNil)))) (sSeq2 (sRet (dCon (.bool false)))
  sSkip) sSkip)
  sSkip)))
  (sSeq2 (sRet (dCon (.bool true)))
  sSkip))))))
def F__law_is_known : List D → List D → Option (R × List D) := runW 3 8 d__law_is_known
theorem sc__law_is_known : FnScope ["pool", "n", "some", "values", "value", "nought", "far", "due"] ["pool", "n", "some"] (defScope s__law_is_known) := ⟨rfl, rfl, rfl, by decide +kernel, rfl, by decide +kernel, by decide +kernel⟩
theorem g__law_is_known {P : Program} {w : World} {K : PySem.W.Frag} {mg : Str → Option Value} {base : Heap} (V : Env K mg) : CalV P w K mg base 17 "_law_is_known" s__law_is_known ["pool", "n", "some"] F__law_is_known := by
  have C__law_are_fence : CalP P w K mg base 16 "_law_are_fence" _ _ _ := (g__law_are_fence V).up (by decide)
  have C__law_bent : CalV P w K mg base 16 "_law_bent" _ _ _ := (g__law_bent V).up (by decide)
  have C__law_strange : CalV P w K mg base 16 "_law_strange" _ _ _ := (g__law_strange V).up (by decide)
  have C_is_fence : CalP P w K mg base 16 "is_fence" _ _ _ := (g_is_fence V).up (by decide)
  refine cal_v V.r__law_is_known sc__law_is_known (fun _ _ _ _ _ _ us hl => match us, hl with | [_, _, _], _ => rfl) fun f cdv A outer s H E hr hG => ?_
  have ND := sc__law_is_known.nd
  exact (dss_cons (ds_par (i := 5) (j := 6) rfl ND rfl rfl (by decide) rfl rfl (da_cons (de_bin o_mul (de_tup (da_cons (de_tup (da_cons de_int (da_cons de_int da_nil rfl) rfl)) da_nil rfl)) (de_loc (i := 1) rfl (vis_of rfl) rfl rfl)) (da_cons (de_bin o_mul (de_tup (da_cons (de_tup (da_cons de_int (da_cons de_int da_nil rfl) rfl)) da_nil rfl)) (de_bin o_add (de_loc (i := 1) rfl (vis_of rfl) rfl rfl) de_int)) da_nil rfl) rfl) rfl rfl)
  (dss_cons (ds_asg (de_lst (da_cons (de_loc (i := 2) rfl (vis_of rfl) rfl rfl) (da_cons (de_v C__law_bent hr hG rfl (da_cons (de_loc (i := 0) rfl (vis_of rfl) rfl rfl) (da_cons (de_loc (i := 2) rfl (vis_of rfl) rfl rfl) da_nil rfl) rfl) rfl rfl rfl) (da_cons (de_v C__law_bent hr hG rfl (da_cons (de_loc (i := 0) rfl (vis_of rfl) rfl rfl) (da_cons (de_v C__law_bent hr hG rfl (da_cons (de_loc (i := 0) rfl (vis_of rfl) rfl rfl) (da_cons (de_loc (i := 2) rfl (vis_of rfl) rfl rfl) da_nil rfl) rfl) rfl rfl rfl) da_nil rfl) rfl) rfl rfl rfl) (da_cons (de_v C__law_strange hr hG rfl (da_cons (de_loc (i := 0) rfl (vis_of rfl) rfl rfl) da_nil rfl) rfl rfl rfl) (da_cons (de_bin o_add (de_loc (i := 2) rfl (vis_of rfl) rfl rfl) (de_loc (i := 2) rfl (vis_of rfl) rfl rfl)) da_nil rfl) rfl) rfl) rfl) rfl)) (dg_name (i := 3) ND rfl (loc_of rfl) (lfn_of rfl)) rfl rfl rfl)
  (dss_cons (ds_asg (de_bin o_add (de_loc (i := 3) rfl (vis_of rfl) rfl rfl) (de_lst (da_cons (de_callTy c_list rfl V.z_list bt_list (da_cons (de_loc (i := 2) rfl (vis_of rfl) rfl rfl) da_nil rfl) (by decide) rfl rfl rfl) (da_cons (de_bin o_add (de_loc (i := 2) rfl (vis_of rfl) rfl rfl) (de_tup (da_cons (de_tup (da_cons (de_loc (i := 5) rfl (vis_of rfl) rfl rfl) (da_cons (de_tup (da_cons de_int (da_cons de_int da_nil rfl) rfl)) da_nil rfl) rfl)) da_nil rfl))) (da_cons (de_bin o_add (de_cut (de_loc (i := 2) rfl (vis_of rfl) rfl rfl) do_none (do_some de_int)) (de_tup (da_cons (de_tup (da_cons (de_loc (i := 6) rfl (vis_of rfl) rfl rfl) (da_cons (de_tup (da_cons de_int (da_cons de_int da_nil rfl) rfl)) da_nil rfl) rfl)) da_nil rfl))) (da_cons (de_tup da_nil) (da_cons (de_ix o_ix (de_loc (i := 2) rfl (vis_of rfl) rfl rfl) de_int (fun _ _ => rfl)) da_nil rfl) rfl) rfl) rfl) rfl))) (dg_name (i := 3) ND rfl (loc_of rfl) (lfn_of rfl)) rfl rfl rfl)
  (dss_cons (ds_exp (de_app (i := 3) (pe_var rfl (vis_of rfl) rfl rfl) (de_bin o_mul (de_tup (da_cons (de_tup (da_cons (de_loc (i := 6) rfl (vis_of rfl) rfl rfl) (da_cons (de_tup (da_cons de_int (da_cons de_int da_nil rfl) rfl)) da_nil rfl) rfl)) da_nil rfl)) de_int) (fun m h1 h2 => pe_bm PySem.F.plainAttrs_list PySem.F.slot_list_append PySem.F.type_list_append m h1 h2) rfl) rfl)
  (dss_cons (ds_for PassesOwn.never rfl (di_seq (de_loc (i := 3) rfl (vis_of rfl) rfl rfl)) (dg_name (i := 4) ND rfl (loc_of rfl) (lfn_of rfl)) (dss_cons (ds_asg (de_p C__law_are_fence hr hG rfl (da_cons (de_loc (i := 4) rfl (vis_of rfl) rfl rfl) da_nil rfl) rfl rfl rfl) (dg_name (i := 7) ND rfl (loc_of rfl) (lfn_of rfl)) rfl rfl rfl)
  (dss_cons (ds_if (dt_cmp (o_ne (huo hr)) (de_callB (c_repr hG (hur hr)) rfl V.z_repr bt_repr (da_cons (de_lst (da_cons (de_p C_is_fence hr hG rfl (da_cons (de_loc (i := 4) rfl (vis_of rfl) rfl rfl) da_nil rfl) rfl rfl rfl) (da_cons (de_k (ks := ["value"]) (ix := [0]) C_is_fence (fun _ _ _ _ _ _ us hl => match us, hl with | [_], _ => rfl) hr hG rfl (dk_cons (de_loc (i := 4) rfl (vis_of rfl) rfl rfl) dk_nil) rfl rfl rfl rfl) da_nil rfl) rfl)) da_nil rfl) (by decide) rfl rfl rfl) (de_callB (c_repr hG (hur hr)) rfl V.z_repr bt_repr (da_cons (de_lst (da_cons (de_loc (i := 7) rfl (vis_of rfl) rfl rfl) (da_cons (de_loc (i := 7) rfl (vis_of rfl) rfl rfl) da_nil rfl) rfl)) da_nil rfl) (by decide) rfl rfl rfl) (nomark _)) (dss_cons (ds_ret de_bl)
  dss_nil) dss_nil)
  dss_nil)) (fun _ => rfl))
  (dss_cons (ds_ret de_bl)
  dss_nil))))))
def d__law_added : TSD := (sSeq2 (sRet (dOp pTuple (dCons (dComp [3, 4] (sZip (dLoc 0) (dLoc 2)) (gTupD 2 (gsCons (tName 3) (gsCons (tName 4) gsNil))) bYes (dCall F__law_plus (dCons (dLoc 3) (dCons (dCall F__law_by (dCons (dLoc 1) (dCons (dLoc 4) dNil))) dNil)))) dNil)))
  sSkip)
def F__law_added : List D → Option R := runF 3 5 d__law_added
theorem sc__law_added : FnScope ["one", "by", "two", "a", "b"] ["one", "by", "two"] (defScope s__law_added) := ⟨rfl, rfl, rfl, by decide +kernel, rfl, by decide +kernel, by decide +kernel⟩
theorem g__law_added {P : Program} {w : World} {K : PySem.W.Frag} {mg : Str → Option Value} {base : Heap} (V : Env K mg) : CalP P w K mg base 3 "_law_added" s__law_added ["one", "by", "two"] F__law_added := by
  have C__law_by : CalP P w K mg base 2 "_law_by" _ _ _ := (g__law_by V).up (by decide)
  have C__law_plus : CalP P w K mg base 2 "_law_plus" _ _ _ := (g__law_plus V).up (by decide)
  refine cal_p V.r__law_added sc__law_added (fun _ _ _ _ _ _ us hl => match us, hl with | [_, _, _], _ => rfl) fun f cdv A outer s H E hr hG => ?_
  have ND := sc__law_added.nd
  exact (dss_cons (ds_ret (de_callTy c_tuple rfl V.z_tuple bt_tuple (da_cons (de_comp rfl (own := [("a", 3), ("b", 4)]) ND (di_zip rfl V.z_zip (de_loc (i := 0) rfl (vis_of rfl) rfl rfl) (de_loc (i := 2) rfl (vis_of rfl) rfl rfl) rfl rfl rfl) (blkOk_by rfl) (fun _ _ _ _ _ => (dg_tup rfl (dgs_cons (dg_name (i := 3) ND rfl (loc_of rfl) (lfn_of rfl)) (dgs_cons (dg_name (i := 4) ND rfl (loc_of rfl) (lfn_of rfl)) dgs_nil rfl) rfl) rfl rfl)) (fun _ _ _ _ _ => pts_yes) (fun _ _ _ _ _ => (de_p C__law_plus hr hG rfl (da_cons (de_loc (i := 3) rfl (vis_of rfl) rfl rfl) (da_cons (de_p C__law_by hr hG rfl (da_cons (de_loc (i := 1) rfl (vis_of rfl) rfl rfl) (da_cons (de_loc (i := 4) rfl (vis_of rfl) rfl rfl) da_nil rfl) rfl) rfl rfl rfl) da_nil rfl) rfl) rfl rfl rfl)) (fun _ => rfl) (by decide)) da_nil rfl) (by decide) rfl rfl rfl))
  dss_nil)
def d__law_over : TSD := (sSeq2 (sRet (dCall F__law_ratio (dCons (dOp pMul (dCons (dOp pIx (dCons (dLoc 0) (dCons (dCon (.int 0)) dNil))) (dCons (dOp pIx (dCons (dLoc 1) (dCons (dCon (.int 1)) dNil))) dNil))) (dCons (dOp pMul (dCons (dOp pIx (dCons (dLoc 0) (dCons (dCon (.int 1)) dNil))) (dCons (dOp pIx (dCons (dLoc 1) (dCons (dCon (.int 0)) dNil))) dNil))) dNil))))
  sSkip)
def F__law_over : List D → Option R := runF 2 2 d__law_over
theorem sc__law_over : FnScope ["one", "two"] ["one", "two"] (defScope s__law_over) := ⟨rfl, rfl, rfl, by decide +kernel, rfl, by decide +kernel, by decide +kernel⟩
theorem g__law_over {P : Program} {w : World} {K : PySem.W.Frag} {mg : Str → Option Value} {base : Heap} (V : Env K mg) : CalP P w K mg base 2 "_law_over" s__law_over ["one", "two"] F__law_over := by
  have C__law_ratio : CalP P w K mg base 1 "_law_ratio" _ _ _ := (g__law_ratio V).up (by decide)
  refine cal_p V.r__law_over sc__law_over (fun _ _ _ _ _ _ us hl => match us, hl with | [_, _], _ => rfl) fun f cdv A outer s H E hr hG => ?_
  have ND := sc__law_over.nd
  exact (dss_cons (ds_ret (de_p C__law_ratio hr hG rfl (da_cons (de_bin o_mul (de_ix o_ix (de_loc (i := 0) rfl (vis_of rfl) rfl rfl) de_int (fun _ _ => rfl)) (de_ix o_ix (de_loc (i := 1) rfl (vis_of rfl) rfl rfl) de_int (fun _ _ => rfl))) (da_cons (de_bin o_mul (de_ix o_ix (de_loc (i := 0) rfl (vis_of rfl) rfl rfl) de_int (fun _ _ => rfl)) (de_ix o_ix (de_loc (i := 1) rfl (vis_of rfl) rfl rfl) de_int (fun _ _ => rfl))) da_nil rfl) rfl) rfl rfl rfl))
  dss_nil)
def d__law_minus : TSD := (sSeq2 (sRet (dCall F__law_ratio (dCons (dOp pSub (dCons (dOp pMul (dCons (dOp pIx (dCons (dLoc 0) (dCons (dCon (.int 0)) dNil))) (dCons (dOp pIx (dCons (dLoc 1) (dCons (dCon (.int 1)) dNil))) dNil))) (dCons (dOp pMul (dCons (dOp pIx (dCons (dLoc 1) (dCons (dCon (.int 0)) dNil))) (dCons (dOp pIx (dCons (dLoc 0) (dCons (dCon (.int 1)) dNil))) dNil))) dNil))) (dCons (dOp pMul (dCons (dOp pIx (dCons (dLoc 0) (dCons (dCon (.int 1)) dNil))) (dCons (dOp pIx (dCons (dLoc 1) (dCons (dCon (.int 1)) dNil))) dNil))) dNil))))
  sSkip)
def F__law_minus : List D → Option R := runF 2 2 d__law_minus
theorem sc__law_minus : FnScope ["one", "two"] ["one", "two"] (defScope s__law_minus) := ⟨rfl, rfl, rfl, by decide +kernel, rfl, by decide +kernel, by decide +kernel⟩
theorem g__law_minus {P : Program} {w : World} {K : PySem.W.Frag} {mg : Str → Option Value} {base : Heap} (V : Env K mg) : CalP P w K mg base 2 "_law_minus" s__law_minus ["one", "two"] F__law_minus := by
  have C__law_ratio : CalP P w K mg base 1 "_law_ratio" _ _ _ := (g__law_ratio V).up (by decide)
  refine cal_p V.r__law_minus sc__law_minus (fun _ _ _ _ _ _ us hl => match us, hl with | [_, _], _ => rfl) fun f cdv A outer s H E hr hG => ?_
  have ND := sc__law_minus.nd
  exact (dss_cons (ds_ret (de_p C__law_ratio hr hG rfl (da_cons (de_bin o_sub (de_bin o_mul (de_ix o_ix (de_loc (i := 0) rfl (vis_of rfl) rfl rfl) de_int (fun _ _ => rfl)) (de_ix o_ix (de_loc (i := 1) rfl (vis_of rfl) rfl rfl) de_int (fun _ _ => rfl))) (de_bin o_mul (de_ix o_ix (de_loc (i := 1) rfl (vis_of rfl) rfl rfl) de_int (fun _ _ => rfl)) (de_ix o_ix (de_loc (i := 0) rfl (vis_of rfl) rfl rfl) de_int (fun _ _ => rfl)))) (da_cons (de_bin o_mul (de_ix o_ix (de_loc (i := 0) rfl (vis_of rfl) rfl rfl) de_int (fun _ _ => rfl)) (de_ix o_ix (de_loc (i := 1) rfl (vis_of rfl) rfl rfl) de_int (fun _ _ => rfl))) da_nil rfl) rfl) rfl rfl rfl))
  dss_nil)
def d__law_stepped : TSD := (sSeq2 (sAsg (dLoc 0) (gTupD 2 (gsCons (tName 4) (gsCons (tName 5) gsNil))))
  (sSeq2 (sAsg (dCall F__law_by (dCons (dLoc 1) (dCons (dCall F__law_over (dCons (dCall F__law_minus (dCons (dLoc 5) (dCons (dCall F__law_dot (dCons (dLoc 4) (dCons (dLoc 2) dNil))) dNil))) (dCons (dCall F__law_dot (dCons (dLoc 4) (dCons (dLoc 4) dNil))) dNil))) dNil))) (tName 3))
  (sSeq2 (sRet (dCall F__law_added (dCons (dLoc 2) (dCons (dLoc 3) (dCons (dLoc 4) dNil)))))
  sSkip)))
def F__law_stepped : List D → Option R := runF 3 6 d__law_stepped
theorem sc__law_stepped : FnScope ["one", "share", "guess", "part", "row", "right"] ["one", "share", "guess"] (defScope s__law_stepped) := ⟨rfl, rfl, rfl, by decide +kernel, rfl, by decide +kernel, by decide +kernel⟩
theorem g__law_stepped {P : Program} {w : World} {K : PySem.W.Frag} {mg : Str → Option Value} {base : Heap} (V : Env K mg) : CalP P w K mg base 4 "_law_stepped" s__law_stepped ["one", "share", "guess"] F__law_stepped := by
  have C__law_added : CalP P w K mg base 3 "_law_added" _ _ _ := (g__law_added V).up (by decide)
  have C__law_by : CalP P w K mg base 3 "_law_by" _ _ _ := (g__law_by V).up (by decide)
  have C__law_dot : CalP P w K mg base 3 "_law_dot" _ _ _ := (g__law_dot V).up (by decide)
  have C__law_minus : CalP P w K mg base 3 "_law_minus" _ _ _ := (g__law_minus V).up (by decide)
  have C__law_over : CalP P w K mg base 3 "_law_over" _ _ _ := (g__law_over V).up (by decide)
  refine cal_p V.r__law_stepped sc__law_stepped (fun _ _ _ _ _ _ us hl => match us, hl with | [_, _, _], _ => rfl) fun f cdv A outer s H E hr hG => ?_
  have ND := sc__law_stepped.nd
  exact (dss_cons (ds_asg (de_loc (i := 0) rfl (vis_of rfl) rfl rfl) (dg_tup rfl (dgs_cons (dg_name (i := 4) ND rfl (loc_of rfl) (lfn_of rfl)) (dgs_cons (dg_name (i := 5) ND rfl (loc_of rfl) (lfn_of rfl)) dgs_nil rfl) rfl) rfl rfl) rfl rfl rfl)
  (dss_cons (ds_asg (de_p C__law_by hr hG rfl (da_cons (de_loc (i := 1) rfl (vis_of rfl) rfl rfl) (da_cons (de_p C__law_over hr hG rfl (da_cons (de_p C__law_minus hr hG rfl (da_cons (de_loc (i := 5) rfl (vis_of rfl) rfl rfl) (da_cons (de_p C__law_dot hr hG rfl (da_cons (de_loc (i := 4) rfl (vis_of rfl) rfl rfl) (da_cons (de_loc (i := 2) rfl (vis_of rfl) rfl rfl) da_nil rfl) rfl) rfl rfl rfl) da_nil rfl) rfl) rfl rfl rfl) (da_cons (de_p C__law_dot hr hG rfl (da_cons (de_loc (i := 4) rfl (vis_of rfl) rfl rfl) (da_cons (de_loc (i := 4) rfl (vis_of rfl) rfl rfl) da_nil rfl) rfl) rfl rfl rfl) da_nil rfl) rfl) rfl rfl rfl) da_nil rfl) rfl) rfl rfl rfl) (dg_name (i := 3) ND rfl (loc_of rfl) (lfn_of rfl)) rfl rfl rfl)
  (dss_cons (ds_ret (de_p C__law_added hr hG rfl (da_cons (de_loc (i := 2) rfl (vis_of rfl) rfl rfl) (da_cons (de_loc (i := 3) rfl (vis_of rfl) rfl rfl) (da_cons (de_loc (i := 4) rfl (vis_of rfl) rfl rfl) da_nil rfl) rfl) rfl) rfl rfl rfl))
  dss_nil)))
def d_check_walls : TSD := (sSeq2 (sAsg (dCall F_are_walls (dCons (dLoc 0) dNil)) (tName 1))
  (sSeq2 (sIf (bVal (dOp pIsNot (dCons (dLoc 1) (dCons (dCon .none) dNil)))) (sSeq2 sNone
  sSkip) sSkip)
  sSkip))
def F_check_walls : List D → Option R := runF 1 2 d_check_walls
theorem sc_check_walls : FnScope ["value", "wrong"] ["value"] (defScope s_check_walls) := ⟨rfl, rfl, rfl, by decide +kernel, rfl, by decide +kernel, by decide +kernel⟩
theorem g_check_walls {P : Program} {w : World} {K : PySem.W.Frag} {mg : Str → Option Value} {base : Heap} (V : Env K mg) : CalP P w K mg base 7 "check_walls" s_check_walls ["value"] F_check_walls := by
  have C_are_walls : CalP P w K mg base 6 "are_walls" _ _ _ := (g_are_walls V).up (by decide)
  refine cal_p V.r_check_walls sc_check_walls (fun _ _ _ _ _ _ us hl => match us, hl with | [_], _ => rfl) fun f cdv A outer s H E hr hG => ?_
  have ND := sc_check_walls.nd
  exact (dss_cons (ds_asg (de_p C_are_walls hr hG rfl (da_cons (de_loc (i := 0) rfl (vis_of rfl) rfl rfl) da_nil rfl) rfl rfl rfl) (dg_name (i := 1) ND rfl (loc_of rfl) (lfn_of rfl)) rfl rfl rfl)
  (dss_cons (ds_if (dt_cmp o_isnot (de_loc (i := 1) rfl (vis_of rfl) rfl rfl) de_non (nomark _)) (dss_cons ds_no
  dss_nil) dss_nil)
  dss_nil))
def d_is_amount : TSD := (sSeq2 (sRet (dAnd (dCall F_is_fraction (dCons (dLoc 0) dNil)) (dOp pGt (dCons (dOp pIx (dCons (dLoc 0) (dCons (dCon (.int 0)) dNil))) (dCons (dCon (.int 0)) dNil)))))
  sSkip)
def F_is_amount : List D → Option R := runF 1 1 d_is_amount
theorem sc_is_amount : FnScope ["value"] ["value"] (defScope s_is_amount) := ⟨rfl, rfl, rfl, by decide +kernel, rfl, by decide +kernel, by decide +kernel⟩
theorem g_is_amount {P : Program} {w : World} {K : PySem.W.Frag} {mg : Str → Option Value} {base : Heap} (V : Env K mg) : CalP P w K mg base 4 "is_amount" s_is_amount ["value"] F_is_amount := by
  have C_is_fraction : CalP P w K mg base 3 "is_fraction" _ _ _ := (g_is_fraction V).up (by decide)
  refine cal_p V.r_is_amount sc_is_amount (fun _ _ _ _ _ _ us hl => match us, hl with | [_], _ => rfl) fun f cdv A outer s H E hr hG => ?_
  have ND := sc_is_amount.nd
  exact (dss_cons (ds_ret (de_and (de_p C_is_fraction hr hG rfl (da_cons (de_loc (i := 0) rfl (vis_of rfl) rfl rfl) da_nil rfl) rfl rfl rfl) (de_one (de_cmp o_gt (de_ix o_ix (de_loc (i := 0) rfl (vis_of rfl) rfl rfl) de_int (fun _ _ => rfl)) de_int (nomark _)))))
  dss_nil)
def d_check_share : TSD := (sSeq2 (sIf (bOr (bNot (bTru (dCall F_is_amount (dCons (dLoc 0) dNil)))) (bVal (dOp pGe (dCons (dOp pIx (dCons (dLoc 0) (dCons (dCon (.int 0)) dNil))) (dCons (dOp pMul (dCons (dCon (.int 2)) (dCons (dOp pIx (dCons (dLoc 0) (dCons (dCon (.int 1)) dNil))) dNil))) dNil))))) (sSeq2 sNone
  sSkip) sSkip)
  sSkip)
def F_check_share : List D → Option R := runF 1 1 d_check_share
theorem sc_check_share : FnScope ["value"] ["value"] (defScope s_check_share) := ⟨rfl, rfl, rfl, by decide +kernel, rfl, by decide +kernel, by decide +kernel⟩
theorem g_check_share {P : Program} {w : World} {K : PySem.W.Frag} {mg : Str → Option Value} {base : Heap} (V : Env K mg) : CalP P w K mg base 5 "check_share" s_check_share ["value"] F_check_share := by
  have C_is_amount : CalP P w K mg base 4 "is_amount" _ _ _ := (g_is_amount V).up (by decide)
  refine cal_p V.r_check_share sc_check_share (fun _ _ _ _ _ _ us hl => match us, hl with | [_], _ => rfl) fun f cdv A outer s H E hr hG => ?_
  have ND := sc_check_share.nd
  exact (dss_cons (ds_if (DW.dt (dw_or (dt_not (dt_tru (de_p C_is_amount hr hG rfl (da_cons (de_loc (i := 0) rfl (vis_of rfl) rfl rfl) da_nil rfl) rfl rfl rfl) (fun _ => rfl))) (dw_or1 (dt_cmp o_ge (de_ix o_ix (de_loc (i := 0) rfl (vis_of rfl) rfl rfl) de_int (fun _ _ => rfl)) (de_bin o_mul de_int (de_ix o_ix (de_loc (i := 0) rfl (vis_of rfl) rfl rfl) de_int (fun _ _ => rfl))) (nomark _))))) (dss_cons ds_no
  dss_nil) dss_nil)
  dss_nil)
def d_check_row : TSD := (sSeq2 (sIf (bOr (bNot (bTru (dOp (pIsi "tuple") (dCons (dLoc 1) dNil)))) (bVal (dOp pNe (dCons (dOp pLen (dCons (dLoc 1) dNil)) (dCons (dLoc 0) dNil))))) (sSeq2 sNone
  sSkip) sSkip)
  (sSeq2 (sFor (sEnumA (dLoc 1)) (gTupD 2 (gsCons (tName 2) (gsCons (tName 3) gsNil))) (sSeq2 (sIf (bNot (bTru (dCall F_is_fraction (dCons (dLoc 3) dNil)))) (sSeq2 sNone
  sSkip) sSkip)
  sSkip))
  sSkip))
def F_check_row : List D → Option R := runF 2 4 d_check_row
theorem sc_check_row : FnScope ["size", "value", "index", "each"] ["size", "value"] (defScope s_check_row) := ⟨rfl, rfl, rfl, by decide +kernel, rfl, by decide +kernel, by decide +kernel⟩
theorem g_check_row {P : Program} {w : World} {K : PySem.W.Frag} {mg : Str → Option Value} {base : Heap} (V : Env K mg) : CalP P w K mg base 4 "check_row" s_check_row ["size", "value"] F_check_row := by
  have C_is_fraction : CalP P w K mg base 3 "is_fraction" _ _ _ := (g_is_fraction V).up (by decide)
  refine cal_p V.r_check_row sc_check_row (fun _ _ _ _ _ _ us hl => match us, hl with | [_, _], _ => rfl) fun f cdv A outer s H E hr hG => ?_
  have ND := sc_check_row.nd
  exact (dss_cons (ds_if (DW.dt (dw_or (dt_not (dt_tru (de_isi (T := "tuple") (by decide) rfl V.z_isinstance rfl V.z_tuple bt_tuple (by decide) rfl (de_loc (i := 1) rfl (vis_of rfl) rfl rfl) rfl) (fun _ => rfl))) (dw_or1 (dt_cmp (o_ne (huo hr)) (de_callB c_len rfl V.z_len bt_len (da_cons (de_loc (i := 1) rfl (vis_of rfl) rfl rfl) da_nil rfl) (by decide) rfl rfl rfl) (de_loc (i := 0) rfl (vis_of rfl) rfl rfl) (nomark _))))) (dss_cons ds_no
  dss_nil) dss_nil)
  (dss_cons (ds_for PassesOwn.never rfl (di_enumA rfl V.z_enumerate (de_loc (i := 1) rfl (vis_of rfl) rfl rfl) rfl) (dg_tup rfl (dgs_cons (dg_name (i := 2) ND rfl (loc_of rfl) (lfn_of rfl)) (dgs_cons (dg_name (i := 3) ND rfl (loc_of rfl) (lfn_of rfl)) dgs_nil rfl) rfl) rfl rfl) (dss_cons (ds_if (dt_not (dt_tru (de_p C_is_fraction hr hG rfl (da_cons (de_loc (i := 3) rfl (vis_of rfl) rfl rfl) da_nil rfl) rfl rfl rfl) (fun _ => rfl))) (dss_cons ds_no
  dss_nil) dss_nil)
  dss_nil) (fun _ => rfl))
  dss_nil))
def d_common_part : TSD := (sSeq2 (sAsg (dCon (.int 0)) (tName 1))
  (sSeq2 (sFor (sSeq (dLoc 0)) (tName 2) (sSeq2 (sAsg (dOp pGcd (dCons (dLoc 1) (dCons (dLoc 2) dNil))) (tName 1))
  sSkip))
  (sSeq2 (sRet (dLoc 1))
  sSkip)))
def F_common_part : List D → Option R := runF 1 3 d_common_part
theorem sc_common_part : FnScope ["numbers", "found", "number"] ["numbers"] (defScope s_common_part) := ⟨rfl, rfl, rfl, by decide +kernel, rfl, by decide +kernel, by decide +kernel⟩
theorem g_common_part {P : Program} {w : World} {K : PySem.W.Frag} {mg : Str → Option Value} {base : Heap} (V : Env K mg) : CalP P w K mg base 1 "common_part" s_common_part ["numbers"] F_common_part := by
  refine cal_p V.r_common_part sc_common_part (fun _ _ _ _ _ _ us hl => match us, hl with | [_], _ => rfl) fun f cdv A outer s H E hr hG => ?_
  have ND := sc_common_part.nd
  exact (dss_cons (ds_asg de_int (dg_name (i := 1) ND rfl (loc_of rfl) (lfn_of rfl)) rfl rfl rfl)
  (dss_cons (ds_for PassesOwn.never rfl (di_seq (de_loc (i := 0) rfl (vis_of rfl) rfl rfl)) (dg_name (i := 2) ND rfl (loc_of rfl) (lfn_of rfl)) (dss_cons (ds_asg (de_callF c_gcd rfl V.m_gcd (da_cons (de_loc (i := 1) rfl (vis_of rfl) rfl rfl) (da_cons (de_loc (i := 2) rfl (vis_of rfl) rfl rfl) da_nil rfl) rfl) rfl rfl rfl) (dg_name (i := 1) ND rfl (loc_of rfl) (lfn_of rfl)) rfl rfl rfl)
  dss_nil) (fun _ => rfl))
  (dss_cons (ds_ret (de_loc (i := 1) rfl (vis_of rfl) rfl rfl))
  dss_nil)))
def d_lowest : TSD := (sSeq2 (sAsg (dCall F_common_part (dCons (dLoc 0) dNil)) (tName 1))
  (sSeq2 (sRet (dOp pTuple (dCons (dComp [2] (sSeq (dLoc 0)) (tName 2) bYes (dOp pDiv (dCons (dLoc 2) (dCons (dLoc 1) dNil)))) dNil)))
  sSkip))
def F_lowest : List D → Option R := runF 1 3 d_lowest
theorem sc_lowest : FnScope ["numbers", "part", "number"] ["numbers"] (defScope s_lowest) := ⟨rfl, rfl, rfl, by decide +kernel, rfl, by decide +kernel, by decide +kernel⟩
theorem g_lowest {P : Program} {w : World} {K : PySem.W.Frag} {mg : Str → Option Value} {base : Heap} (V : Env K mg) : CalP P w K mg base 2 "lowest" s_lowest ["numbers"] F_lowest := by
  have C_common_part : CalP P w K mg base 1 "common_part" _ _ _ := (g_common_part V).up (by decide)
  refine cal_p V.r_lowest sc_lowest (fun _ _ _ _ _ _ us hl => match us, hl with | [_], _ => rfl) fun f cdv A outer s H E hr hG => ?_
  have ND := sc_lowest.nd
  exact (dss_cons (ds_asg (de_p C_common_part hr hG rfl (da_cons (de_loc (i := 0) rfl (vis_of rfl) rfl rfl) da_nil rfl) rfl rfl rfl) (dg_name (i := 1) ND rfl (loc_of rfl) (lfn_of rfl)) rfl rfl rfl)
  (dss_cons (ds_ret (de_callTy c_tuple rfl V.z_tuple bt_tuple (da_cons (de_comp rfl (own := [("number", 2)]) ND (di_seq (de_loc (i := 0) rfl (vis_of rfl) rfl rfl)) (blkOk_by rfl) (fun _ _ _ _ _ => (dg_name (i := 2) ND rfl (loc_of rfl) (lfn_of rfl))) (fun _ _ _ _ _ => pts_yes) (fun _ _ _ _ _ => (de_bin o_div (de_loc (i := 2) rfl (vis_of rfl) rfl rfl) (de_loc (i := 1) rfl (vis_of rfl) rfl rfl))) (fun _ => rfl) (by decide)) da_nil rfl) (by decide) rfl rfl rfl))
  dss_nil))
def d_lowest_over : TSD := (sSeq2 (sAsg (dIf (bVal (dOp pGt (dCons (dLoc 1) (dCons (dCon (.int 0)) dNil)))) (dCon (.int 1)) (dOp pNeg (dCons (dCon (.int 1)) dNil))) (tName 2))
  (sSeq2 (sRet (dCall F_lowest (dCons (dOp pAdd (dCons (dComp [3] (sSeq (dLoc 0)) (tName 3) bYes (dOp pMul (dCons (dLoc 2) (dCons (dLoc 3) dNil)))) (dCons (dLst (dCons (dOp pMul (dCons (dLoc 2) (dCons (dLoc 1) dNil))) dNil)) dNil))) dNil)))
  sSkip))
def F_lowest_over : List D → Option R := runF 2 4 d_lowest_over
theorem sc_lowest_over : FnScope ["numbers", "below", "factor", "number"] ["numbers", "below"] (defScope s_lowest_over) := ⟨rfl, rfl, rfl, by decide +kernel, rfl, by decide +kernel, by decide +kernel⟩
theorem g_lowest_over {P : Program} {w : World} {K : PySem.W.Frag} {mg : Str → Option Value} {base : Heap} (V : Env K mg) : CalP P w K mg base 3 "lowest_over" s_lowest_over ["numbers", "below"] F_lowest_over := by
  have C_lowest : CalP P w K mg base 2 "lowest" _ _ _ := (g_lowest V).up (by decide)
  refine cal_p V.r_lowest_over sc_lowest_over (fun _ _ _ _ _ _ us hl => match us, hl with | [_, _], _ => rfl) fun f cdv A outer s H E hr hG => ?_
  have ND := sc_lowest_over.nd
  exact (dss_cons (ds_asg (de_if (dt_cmp o_gt (de_loc (i := 1) rfl (vis_of rfl) rfl rfl) de_int (nomark _)) de_int (de_un o_neg de_int)) (dg_name (i := 2) ND rfl (loc_of rfl) (lfn_of rfl)) rfl rfl rfl)
  (dss_cons (ds_ret (de_p C_lowest hr hG rfl (da_cons (de_bin o_add (de_comp rfl (own := [("number", 3)]) ND (di_seq (de_loc (i := 0) rfl (vis_of rfl) rfl rfl)) (blkOk_by rfl) (fun _ _ _ _ _ => (dg_name (i := 3) ND rfl (loc_of rfl) (lfn_of rfl))) (fun _ _ _ _ _ => pts_yes) (fun _ _ _ _ _ => (de_bin o_mul (de_loc (i := 2) rfl (vis_of rfl) rfl rfl) (de_loc (i := 3) rfl (vis_of rfl) rfl rfl))) (fun _ => rfl) (by decide)) (de_lst (da_cons (de_bin o_mul (de_loc (i := 2) rfl (vis_of rfl) rfl rfl) (de_loc (i := 1) rfl (vis_of rfl) rfl rfl)) da_nil rfl))) da_nil rfl) rfl rfl rfl))
  dss_nil))
def d_ratio : TSD := (sSeq2 (sRet (dCall F_lowest_over (dCons (dLst (dCons (dLoc 0) dNil)) (dCons (dLoc 1) dNil))))
  sSkip)
def F_ratio : List D → Option R := runF 2 2 d_ratio
theorem sc_ratio : FnScope ["top", "below"] ["top", "below"] (defScope s_ratio) := ⟨rfl, rfl, rfl, by decide +kernel, rfl, by decide +kernel, by decide +kernel⟩
theorem g_ratio {P : Program} {w : World} {K : PySem.W.Frag} {mg : Str → Option Value} {base : Heap} (V : Env K mg) : CalP P w K mg base 4 "ratio" s_ratio ["top", "below"] F_ratio := by
  have C_lowest_over : CalP P w K mg base 3 "lowest_over" _ _ _ := (g_lowest_over V).up (by decide)
  refine cal_p V.r_ratio sc_ratio (fun _ _ _ _ _ _ us hl => match us, hl with | [_, _], _ => rfl) fun f cdv A outer s H E hr hG => ?_
  have ND := sc_ratio.nd
  exact (dss_cons (ds_ret (de_p C_lowest_over hr hG rfl (da_cons (de_lst (da_cons (de_loc (i := 0) rfl (vis_of rfl) rfl rfl) da_nil rfl)) (da_cons (de_loc (i := 1) rfl (vis_of rfl) rfl rfl) da_nil rfl) rfl) rfl rfl rfl))
  dss_nil)
def d_divided : TSD := (sSeq2 (sRet (dCall F_ratio (dCons (dOp pMul (dCons (dOp pIx (dCons (dLoc 0) (dCons (dCon (.int 0)) dNil))) (dCons (dOp pIx (dCons (dLoc 1) (dCons (dCon (.int 1)) dNil))) dNil))) (dCons (dOp pMul (dCons (dOp pIx (dCons (dLoc 0) (dCons (dCon (.int 1)) dNil))) (dCons (dOp pIx (dCons (dLoc 1) (dCons (dCon (.int 0)) dNil))) dNil))) dNil))))
  sSkip)
def F_divided : List D → Option R := runF 2 2 d_divided
theorem sc_divided : FnScope ["one", "other"] ["one", "other"] (defScope s_divided) := ⟨rfl, rfl, rfl, by decide +kernel, rfl, by decide +kernel, by decide +kernel⟩
theorem g_divided {P : Program} {w : World} {K : PySem.W.Frag} {mg : Str → Option Value} {base : Heap} (V : Env K mg) : CalP P w K mg base 5 "divided" s_divided ["one", "other"] F_divided := by
  have C_ratio : CalP P w K mg base 4 "ratio" _ _ _ := (g_ratio V).up (by decide)
  refine cal_p V.r_divided sc_divided (fun _ _ _ _ _ _ us hl => match us, hl with | [_, _], _ => rfl) fun f cdv A outer s H E hr hG => ?_
  have ND := sc_divided.nd
  exact (dss_cons (ds_ret (de_p C_ratio hr hG rfl (da_cons (de_bin o_mul (de_ix o_ix (de_loc (i := 0) rfl (vis_of rfl) rfl rfl) de_int (fun _ _ => rfl)) (de_ix o_ix (de_loc (i := 1) rfl (vis_of rfl) rfl rfl) de_int (fun _ _ => rfl))) (da_cons (de_bin o_mul (de_ix o_ix (de_loc (i := 0) rfl (vis_of rfl) rfl rfl) de_int (fun _ _ => rfl)) (de_ix o_ix (de_loc (i := 1) rfl (vis_of rfl) rfl rfl) de_int (fun _ _ => rfl))) da_nil rfl) rfl) rfl rfl rfl))
  dss_nil)
def d_plus : TSD := (sSeq2 (sRet (dCall F_ratio (dCons (dOp pAdd (dCons (dOp pMul (dCons (dOp pIx (dCons (dLoc 0) (dCons (dCon (.int 0)) dNil))) (dCons (dOp pIx (dCons (dLoc 1) (dCons (dCon (.int 1)) dNil))) dNil))) (dCons (dOp pMul (dCons (dOp pIx (dCons (dLoc 1) (dCons (dCon (.int 0)) dNil))) (dCons (dOp pIx (dCons (dLoc 0) (dCons (dCon (.int 1)) dNil))) dNil))) dNil))) (dCons (dOp pMul (dCons (dOp pIx (dCons (dLoc 0) (dCons (dCon (.int 1)) dNil))) (dCons (dOp pIx (dCons (dLoc 1) (dCons (dCon (.int 1)) dNil))) dNil))) dNil))))
  sSkip)
def F_plus : List D → Option R := runF 2 2 d_plus
theorem sc_plus : FnScope ["one", "other"] ["one", "other"] (defScope s_plus) := ⟨rfl, rfl, rfl, by decide +kernel, rfl, by decide +kernel, by decide +kernel⟩
theorem g_plus {P : Program} {w : World} {K : PySem.W.Frag} {mg : Str → Option Value} {base : Heap} (V : Env K mg) : CalP P w K mg base 5 "plus" s_plus ["one", "other"] F_plus := by
  have C_ratio : CalP P w K mg base 4 "ratio" _ _ _ := (g_ratio V).up (by decide)
  refine cal_p V.r_plus sc_plus (fun _ _ _ _ _ _ us hl => match us, hl with | [_, _], _ => rfl) fun f cdv A outer s H E hr hG => ?_
  have ND := sc_plus.nd
  exact (dss_cons (ds_ret (de_p C_ratio hr hG rfl (da_cons (de_bin o_add (de_bin o_mul (de_ix o_ix (de_loc (i := 0) rfl (vis_of rfl) rfl rfl) de_int (fun _ _ => rfl)) (de_ix o_ix (de_loc (i := 1) rfl (vis_of rfl) rfl rfl) de_int (fun _ _ => rfl))) (de_bin o_mul (de_ix o_ix (de_loc (i := 1) rfl (vis_of rfl) rfl rfl) de_int (fun _ _ => rfl)) (de_ix o_ix (de_loc (i := 0) rfl (vis_of rfl) rfl rfl) de_int (fun _ _ => rfl)))) (da_cons (de_bin o_mul (de_ix o_ix (de_loc (i := 0) rfl (vis_of rfl) rfl rfl) de_int (fun _ _ => rfl)) (de_ix o_ix (de_loc (i := 1) rfl (vis_of rfl) rfl rfl) de_int (fun _ _ => rfl))) da_nil rfl) rfl) rfl rfl rfl))
  dss_nil)
def d_row_sum : TSD := (sSeq2 (sRet (dOp pTuple (dCons (dComp [2, 3] (sZip (dLoc 0) (dLoc 1)) (gTupD 2 (gsCons (tName 2) (gsCons (tName 3) gsNil))) bYes (dCall F_plus (dCons (dLoc 2) (dCons (dLoc 3) dNil)))) dNil)))
  sSkip)
def F_row_sum : List D → Option R := runF 2 4 d_row_sum
theorem sc_row_sum : FnScope ["one", "two", "here", "there"] ["one", "two"] (defScope s_row_sum) := ⟨rfl, rfl, rfl, by decide +kernel, rfl, by decide +kernel, by decide +kernel⟩
theorem g_row_sum {P : Program} {w : World} {K : PySem.W.Frag} {mg : Str → Option Value} {base : Heap} (V : Env K mg) : CalP P w K mg base 6 "row_sum" s_row_sum ["one", "two"] F_row_sum := by
  have C_plus : CalP P w K mg base 5 "plus" _ _ _ := (g_plus V).up (by decide)
  refine cal_p V.r_row_sum sc_row_sum (fun _ _ _ _ _ _ us hl => match us, hl with | [_, _], _ => rfl) fun f cdv A outer s H E hr hG => ?_
  have ND := sc_row_sum.nd
  exact (dss_cons (ds_ret (de_callTy c_tuple rfl V.z_tuple bt_tuple (da_cons (de_comp rfl (own := [("here", 2), ("there", 3)]) ND (di_zip rfl V.z_zip (de_loc (i := 0) rfl (vis_of rfl) rfl rfl) (de_loc (i := 1) rfl (vis_of rfl) rfl rfl) rfl rfl rfl) (blkOk_by rfl) (fun _ _ _ _ _ => (dg_tup rfl (dgs_cons (dg_name (i := 2) ND rfl (loc_of rfl) (lfn_of rfl)) (dgs_cons (dg_name (i := 3) ND rfl (loc_of rfl) (lfn_of rfl)) dgs_nil rfl) rfl) rfl rfl)) (fun _ _ _ _ _ => pts_yes) (fun _ _ _ _ _ => (de_p C_plus hr hG rfl (da_cons (de_loc (i := 2) rfl (vis_of rfl) rfl rfl) (da_cons (de_loc (i := 3) rfl (vis_of rfl) rfl rfl) da_nil rfl) rfl) rfl rfl rfl)) (fun _ => rfl) (by decide)) da_nil rfl) (by decide) rfl rfl rfl))
  dss_nil)
def d_minus : TSD := (sSeq2 (sRet (dCall F_ratio (dCons (dOp pSub (dCons (dOp pMul (dCons (dOp pIx (dCons (dLoc 0) (dCons (dCon (.int 0)) dNil))) (dCons (dOp pIx (dCons (dLoc 1) (dCons (dCon (.int 1)) dNil))) dNil))) (dCons (dOp pMul (dCons (dOp pIx (dCons (dLoc 1) (dCons (dCon (.int 0)) dNil))) (dCons (dOp pIx (dCons (dLoc 0) (dCons (dCon (.int 1)) dNil))) dNil))) dNil))) (dCons (dOp pMul (dCons (dOp pIx (dCons (dLoc 0) (dCons (dCon (.int 1)) dNil))) (dCons (dOp pIx (dCons (dLoc 1) (dCons (dCon (.int 1)) dNil))) dNil))) dNil))))
  sSkip)
def F_minus : List D → Option R := runF 2 2 d_minus
theorem sc_minus : FnScope ["one", "other"] ["one", "other"] (defScope s_minus) := ⟨rfl, rfl, rfl, by decide +kernel, rfl, by decide +kernel, by decide +kernel⟩
theorem g_minus {P : Program} {w : World} {K : PySem.W.Frag} {mg : Str → Option Value} {base : Heap} (V : Env K mg) : CalP P w K mg base 5 "minus" s_minus ["one", "other"] F_minus := by
  have C_ratio : CalP P w K mg base 4 "ratio" _ _ _ := (g_ratio V).up (by decide)
  refine cal_p V.r_minus sc_minus (fun _ _ _ _ _ _ us hl => match us, hl with | [_, _], _ => rfl) fun f cdv A outer s H E hr hG => ?_
  have ND := sc_minus.nd
  exact (dss_cons (ds_ret (de_p C_ratio hr hG rfl (da_cons (de_bin o_sub (de_bin o_mul (de_ix o_ix (de_loc (i := 0) rfl (vis_of rfl) rfl rfl) de_int (fun _ _ => rfl)) (de_ix o_ix (de_loc (i := 1) rfl (vis_of rfl) rfl rfl) de_int (fun _ _ => rfl))) (de_bin o_mul (de_ix o_ix (de_loc (i := 1) rfl (vis_of rfl) rfl rfl) de_int (fun _ _ => rfl)) (de_ix o_ix (de_loc (i := 0) rfl (vis_of rfl) rfl rfl) de_int (fun _ _ => rfl)))) (da_cons (de_bin o_mul (de_ix o_ix (de_loc (i := 0) rfl (vis_of rfl) rfl rfl) de_int (fun _ _ => rfl)) (de_ix o_ix (de_loc (i := 1) rfl (vis_of rfl) rfl rfl) de_int (fun _ _ => rfl))) da_nil rfl) rfl) rfl rfl rfl))
  dss_nil)
def d_total : TSD := (sSeq2 (sAsg (dCon (.tuple [(.int 0), (.int 1)])) (tName 1))
  (sSeq2 (sFor (sSeq (dLoc 0)) (tName 2) (sSeq2 (sAsg (dCall F_plus (dCons (dLoc 1) (dCons (dLoc 2) dNil))) (tName 1))
  sSkip))
  (sSeq2 (sRet (dLoc 1))
  sSkip)))
def F_total : List D → Option R := runF 1 3 d_total
theorem sc_total : FnScope ["parts", "found", "part"] ["parts"] (defScope s_total) := ⟨rfl, rfl, rfl, by decide +kernel, rfl, by decide +kernel, by decide +kernel⟩
theorem g_total {P : Program} {w : World} {K : PySem.W.Frag} {mg : Str → Option Value} {base : Heap} (V : Env K mg) : CalP P w K mg base 6 "total" s_total ["parts"] F_total := by
  have C_plus : CalP P w K mg base 5 "plus" _ _ _ := (g_plus V).up (by decide)
  refine cal_p V.r_total sc_total (fun _ _ _ _ _ _ us hl => match us, hl with | [_], _ => rfl) fun f cdv A outer s H E hr hG => ?_
  have ND := sc_total.nd
  exact (dss_cons (ds_asg (de_gl V.c_NOUGHT rfl rfl) (dg_name (i := 1) ND rfl (loc_of rfl) (lfn_of rfl)) rfl rfl rfl)
  (dss_cons (ds_for PassesOwn.never rfl (di_seq (de_loc (i := 0) rfl (vis_of rfl) rfl rfl)) (dg_name (i := 2) ND rfl (loc_of rfl) (lfn_of rfl)) (dss_cons (ds_asg (de_p C_plus hr hG rfl (da_cons (de_loc (i := 1) rfl (vis_of rfl) rfl rfl) (da_cons (de_loc (i := 2) rfl (vis_of rfl) rfl rfl) da_nil rfl) rfl) rfl rfl rfl) (dg_name (i := 1) ND rfl (loc_of rfl) (lfn_of rfl)) rfl rfl rfl)
  dss_nil) (fun _ => rfl))
  (dss_cons (ds_ret (de_loc (i := 1) rfl (vis_of rfl) rfl rfl))
  dss_nil)))
def d_times : TSD := (sSeq2 (sRet (dCall F_ratio (dCons (dOp pMul (dCons (dOp pIx (dCons (dLoc 0) (dCons (dCon (.int 0)) dNil))) (dCons (dOp pIx (dCons (dLoc 1) (dCons (dCon (.int 0)) dNil))) dNil))) (dCons (dOp pMul (dCons (dOp pIx (dCons (dLoc 0) (dCons (dCon (.int 1)) dNil))) (dCons (dOp pIx (dCons (dLoc 1) (dCons (dCon (.int 1)) dNil))) dNil))) dNil))))
  sSkip)
def F_times : List D → Option R := runF 2 2 d_times
theorem sc_times : FnScope ["one", "other"] ["one", "other"] (defScope s_times) := ⟨rfl, rfl, rfl, by decide +kernel, rfl, by decide +kernel, by decide +kernel⟩
theorem g_times {P : Program} {w : World} {K : PySem.W.Frag} {mg : Str → Option Value} {base : Heap} (V : Env K mg) : CalP P w K mg base 5 "times" s_times ["one", "other"] F_times := by
  have C_ratio : CalP P w K mg base 4 "ratio" _ _ _ := (g_ratio V).up (by decide)
  refine cal_p V.r_times sc_times (fun _ _ _ _ _ _ us hl => match us, hl with | [_, _], _ => rfl) fun f cdv A outer s H E hr hG => ?_
  have ND := sc_times.nd
  exact (dss_cons (ds_ret (de_p C_ratio hr hG rfl (da_cons (de_bin o_mul (de_ix o_ix (de_loc (i := 0) rfl (vis_of rfl) rfl rfl) de_int (fun _ _ => rfl)) (de_ix o_ix (de_loc (i := 1) rfl (vis_of rfl) rfl rfl) de_int (fun _ _ => rfl))) (da_cons (de_bin o_mul (de_ix o_ix (de_loc (i := 0) rfl (vis_of rfl) rfl rfl) de_int (fun _ _ => rfl)) (de_ix o_ix (de_loc (i := 1) rfl (vis_of rfl) rfl rfl) de_int (fun _ _ => rfl))) da_nil rfl) rfl) rfl rfl rfl))
  dss_nil)
def d_dot : TSD := (sSeq2 (sRet (dCall F_total (dCons (dComp [2, 3] (sZip (dLoc 0) (dLoc 1)) (gTupD 2 (gsCons (tName 2) (gsCons (tName 3) gsNil))) bYes (dCall F_times (dCons (dLoc 2) (dCons (dLoc 3) dNil)))) dNil)))
  sSkip)
def F_dot : List D → Option R := runF 2 4 d_dot
theorem sc_dot : FnScope ["one", "two", "here", "there"] ["one", "two"] (defScope s_dot) := ⟨rfl, rfl, rfl, by decide +kernel, rfl, by decide +kernel, by decide +kernel⟩
theorem g_dot {P : Program} {w : World} {K : PySem.W.Frag} {mg : Str → Option Value} {base : Heap} (V : Env K mg) : CalP P w K mg base 7 "dot" s_dot ["one", "two"] F_dot := by
  have C_times : CalP P w K mg base 6 "times" _ _ _ := (g_times V).up (by decide)
  have C_total : CalP P w K mg base 6 "total" _ _ _ := (g_total V).up (by decide)
  refine cal_p V.r_dot sc_dot (fun _ _ _ _ _ _ us hl => match us, hl with | [_, _], _ => rfl) fun f cdv A outer s H E hr hG => ?_
  have ND := sc_dot.nd
  exact (dss_cons (ds_ret (de_p C_total hr hG rfl (da_cons (de_comp rfl (own := [("here", 2), ("there", 3)]) ND (di_zip rfl V.z_zip (de_loc (i := 0) rfl (vis_of rfl) rfl rfl) (de_loc (i := 1) rfl (vis_of rfl) rfl rfl) rfl rfl rfl) (blkOk_by rfl) (fun _ _ _ _ _ => (dg_tup rfl (dgs_cons (dg_name (i := 2) ND rfl (loc_of rfl) (lfn_of rfl)) (dgs_cons (dg_name (i := 3) ND rfl (loc_of rfl) (lfn_of rfl)) dgs_nil rfl) rfl) rfl rfl)) (fun _ _ _ _ _ => pts_yes) (fun _ _ _ _ _ => (de_p C_times hr hG rfl (da_cons (de_loc (i := 2) rfl (vis_of rfl) rfl rfl) (da_cons (de_loc (i := 3) rfl (vis_of rfl) rfl rfl) da_nil rfl) rfl) rfl rfl rfl)) (fun _ => rfl) (by decide)) da_nil rfl) rfl rfl rfl))
  dss_nil)
def d_row_scaled : TSD := (sSeq2 (sRet (dOp pTuple (dCons (dComp [2] (sSeq (dLoc 0)) (tName 2) bYes (dCall F_times (dCons (dLoc 2) (dCons (dLoc 1) dNil)))) dNil)))
  sSkip)
def F_row_scaled : List D → Option R := runF 2 3 d_row_scaled
theorem sc_row_scaled : FnScope ["row", "number", "each"] ["row", "number"] (defScope s_row_scaled) := ⟨rfl, rfl, rfl, by decide +kernel, rfl, by decide +kernel, by decide +kernel⟩
theorem g_row_scaled {P : Program} {w : World} {K : PySem.W.Frag} {mg : Str → Option Value} {base : Heap} (V : Env K mg) : CalP P w K mg base 6 "row_scaled" s_row_scaled ["row", "number"] F_row_scaled := by
  have C_times : CalP P w K mg base 5 "times" _ _ _ := (g_times V).up (by decide)
  refine cal_p V.r_row_scaled sc_row_scaled (fun _ _ _ _ _ _ us hl => match us, hl with | [_, _], _ => rfl) fun f cdv A outer s H E hr hG => ?_
  have ND := sc_row_scaled.nd
  exact (dss_cons (ds_ret (de_callTy c_tuple rfl V.z_tuple bt_tuple (da_cons (de_comp rfl (own := [("each", 2)]) ND (di_seq (de_loc (i := 0) rfl (vis_of rfl) rfl rfl)) (blkOk_by rfl) (fun _ _ _ _ _ => (dg_name (i := 2) ND rfl (loc_of rfl) (lfn_of rfl))) (fun _ _ _ _ _ => pts_yes) (fun _ _ _ _ _ => (de_p C_times hr hG rfl (da_cons (de_loc (i := 2) rfl (vis_of rfl) rfl rfl) (da_cons (de_loc (i := 1) rfl (vis_of rfl) rfl rfl) da_nil rfl) rfl) rfl rfl rfl)) (fun _ => rfl) (by decide)) da_nil rfl) (by decide) rfl rfl rfl))
  dss_nil)
def d_moved : TSD := (sSeq2 (sAsg (dLoc 0) (gTupD 2 (gsCons (tName 4) (gsCons (tName 5) gsNil))))
  (sSeq2 (sAsg (dCall F_divided (dCons (dCall F_minus (dCons (dLoc 5) (dCons (dCall F_dot (dCons (dLoc 4) (dCons (dLoc 2) dNil))) dNil))) (dCons (dCall F_dot (dCons (dLoc 4) (dCons (dLoc 4) dNil))) dNil))) (tName 3))
  (sSeq2 (sRet (dCall F_row_sum (dCons (dLoc 2) (dCons (dCall F_row_scaled (dCons (dLoc 4) (dCons (dCall F_times (dCons (dLoc 1) (dCons (dLoc 3) dNil))) dNil))) dNil))))
  sSkip)))
def F_moved : List D → Option R := runF 3 6 d_moved
theorem sc_moved : FnScope ["wall", "share", "point", "gap", "row", "right"] ["wall", "share", "point"] (defScope s_moved) := ⟨rfl, rfl, rfl, by decide +kernel, rfl, by decide +kernel, by decide +kernel⟩
theorem g_moved {P : Program} {w : World} {K : PySem.W.Frag} {mg : Str → Option Value} {base : Heap} (V : Env K mg) : CalP P w K mg base 8 "moved" s_moved ["wall", "share", "point"] F_moved := by
  have C_divided : CalP P w K mg base 7 "divided" _ _ _ := (g_divided V).up (by decide)
  have C_dot : CalP P w K mg base 7 "dot" _ _ _ := (g_dot V).up (by decide)
  have C_minus : CalP P w K mg base 7 "minus" _ _ _ := (g_minus V).up (by decide)
  have C_row_scaled : CalP P w K mg base 7 "row_scaled" _ _ _ := (g_row_scaled V).up (by decide)
  have C_row_sum : CalP P w K mg base 7 "row_sum" _ _ _ := (g_row_sum V).up (by decide)
  have C_times : CalP P w K mg base 7 "times" _ _ _ := (g_times V).up (by decide)
  refine cal_p V.r_moved sc_moved (fun _ _ _ _ _ _ us hl => match us, hl with | [_, _, _], _ => rfl) fun f cdv A outer s H E hr hG => ?_
  have ND := sc_moved.nd
  exact (dss_cons (ds_asg (de_loc (i := 0) rfl (vis_of rfl) rfl rfl) (dg_tup rfl (dgs_cons (dg_name (i := 4) ND rfl (loc_of rfl) (lfn_of rfl)) (dgs_cons (dg_name (i := 5) ND rfl (loc_of rfl) (lfn_of rfl)) dgs_nil rfl) rfl) rfl rfl) rfl rfl rfl)
  (dss_cons (ds_asg (de_p C_divided hr hG rfl (da_cons (de_p C_minus hr hG rfl (da_cons (de_loc (i := 5) rfl (vis_of rfl) rfl rfl) (da_cons (de_p C_dot hr hG rfl (da_cons (de_loc (i := 4) rfl (vis_of rfl) rfl rfl) (da_cons (de_loc (i := 2) rfl (vis_of rfl) rfl rfl) da_nil rfl) rfl) rfl rfl rfl) da_nil rfl) rfl) rfl rfl rfl) (da_cons (de_p C_dot hr hG rfl (da_cons (de_loc (i := 4) rfl (vis_of rfl) rfl rfl) (da_cons (de_loc (i := 4) rfl (vis_of rfl) rfl rfl) da_nil rfl) rfl) rfl rfl rfl) da_nil rfl) rfl) rfl rfl rfl) (dg_name (i := 3) ND rfl (loc_of rfl) (lfn_of rfl)) rfl rfl rfl)
  (dss_cons (ds_ret (de_p C_row_sum hr hG rfl (da_cons (de_loc (i := 2) rfl (vis_of rfl) rfl rfl) (da_cons (de_p C_row_scaled hr hG rfl (da_cons (de_loc (i := 4) rfl (vis_of rfl) rfl rfl) (da_cons (de_p C_times hr hG rfl (da_cons (de_loc (i := 1) rfl (vis_of rfl) rfl rfl) (da_cons (de_loc (i := 3) rfl (vis_of rfl) rfl rfl) da_nil rfl) rfl) rfl rfl rfl) da_nil rfl) rfl) rfl rfl rfl) da_nil rfl) rfl) rfl rfl rfl))
  dss_nil)))
def d_is_between : TSD := (sSeq2 (sRet (dAnd (dCall F_is_whole (dCons (dLoc 0) dNil)) (dAnd (dOp pLe (dCons (dLoc 1) (dCons (dLoc 0) dNil))) (dOp pLe (dCons (dLoc 0) (dCons (dLoc 2) dNil))))))
  sSkip)
def F_is_between : List D → Option R := runF 3 3 d_is_between
theorem sc_is_between : FnScope ["value", "low", "high"] ["value", "low", "high"] (defScope s_is_between) := ⟨rfl, rfl, rfl, by decide +kernel, rfl, by decide +kernel, by decide +kernel⟩
theorem g_is_between {P : Program} {w : World} {K : PySem.W.Frag} {mg : Str → Option Value} {base : Heap} (V : Env K mg) : CalP P w K mg base 2 "is_between" s_is_between ["value", "low", "high"] F_is_between := by
  have C_is_whole : CalP P w K mg base 1 "is_whole" _ _ _ := (g_is_whole V).up (by decide)
  refine cal_p V.r_is_between sc_is_between (fun _ _ _ _ _ _ us hl => match us, hl with | [_, _, _], _ => rfl) fun f cdv A outer s H E hr hG => ?_
  have ND := sc_is_between.nd
  exact (dss_cons (ds_ret (de_and (de_p C_is_whole hr hG rfl (da_cons (de_loc (i := 0) rfl (vis_of rfl) rfl rfl) da_nil rfl) rfl rfl rfl) (de_and (de_cmp o_le (de_loc (i := 1) rfl (vis_of rfl) rfl rfl) (de_loc (i := 0) rfl (vis_of rfl) rfl rfl) (nomark _)) (de_one (de_cmp o_le (de_loc (i := 0) rfl (vis_of rfl) rfl rfl) (de_loc (i := 2) rfl (vis_of rfl) rfl rfl) (nomark _))))))
  dss_nil)
def d_unknowns : TSD := (sSeq2 (sRet (dOp pLen (dCons (dOp pIx (dCons (dOp pIx (dCons (dLoc 0) (dCons (dCon (.int 0)) dNil))) (dCons (dCon (.int 0)) dNil))) dNil)))
  sSkip)
def F_unknowns : List D → Option R := runF 1 1 d_unknowns
theorem sc_unknowns : FnScope ["walls"] ["walls"] (defScope s_unknowns) := ⟨rfl, rfl, rfl, by decide +kernel, rfl, by decide +kernel, by decide +kernel⟩
theorem g_unknowns {P : Program} {w : World} {K : PySem.W.Frag} {mg : Str → Option Value} {base : Heap} (V : Env K mg) : CalP P w K mg base 1 "unknowns" s_unknowns ["walls"] F_unknowns := by
  refine cal_p V.r_unknowns sc_unknowns (fun _ _ _ _ _ _ us hl => match us, hl with | [_], _ => rfl) fun f cdv A outer s H E hr hG => ?_
  have ND := sc_unknowns.nd
  exact (dss_cons (ds_ret (de_callB c_len rfl V.z_len bt_len (da_cons (de_ix o_ix (de_ix o_ix (de_loc (i := 0) rfl (vis_of rfl) rfl rfl) de_int (fun _ _ => rfl)) de_int (fun _ _ => rfl)) da_nil rfl) (by decide) rfl rfl rfl))
  dss_nil)
def d_wall_step : TSD := (sSeq2 (sExp (dCall F_check_walls (dCons (dLoc 0) dNil)))
  (sSeq2 (sIf (bNot (bTru (dCall F_is_between (dCons (dLoc 1) (dCons (dCon (.int 0)) (dCons (dOp pSub (dCons (dOp pLen (dCons (dLoc 0) dNil)) (dCons (dCon (.int 1)) dNil))) dNil)))))) (sSeq2 sNone
  sSkip) sSkip)
  (sSeq2 (sExp (dCall F_check_share (dCons (dLoc 2) dNil)))
  (sSeq2 (sExp (dCall F_check_row (dCons (dCall F_unknowns (dCons (dLoc 0) dNil)) (dCons (dLoc 3) dNil))))
  (sSeq2 (sRet (dCall F_moved (dCons (dOp pIx (dCons (dLoc 0) (dCons (dLoc 1) dNil))) (dCons (dLoc 2) (dCons (dLoc 3) dNil)))))
  sSkip)))))
def F_wall_step : List D → Option R := runF 4 4 d_wall_step
theorem sc_wall_step : FnScope ["walls", "index", "share", "guess"] ["walls", "index", "share", "guess"] (defScope s_wall_step) := ⟨rfl, rfl, rfl, by decide +kernel, rfl, by decide +kernel, by decide +kernel⟩
theorem g_wall_step {P : Program} {w : World} {K : PySem.W.Frag} {mg : Str → Option Value} {base : Heap} (V : Env K mg) : CalP P w K mg base 9 "wall_step" s_wall_step ["walls", "index", "share", "guess"] F_wall_step := by
  have C_check_row : CalP P w K mg base 8 "check_row" _ _ _ := (g_check_row V).up (by decide)
  have C_check_share : CalP P w K mg base 8 "check_share" _ _ _ := (g_check_share V).up (by decide)
  have C_check_walls : CalP P w K mg base 8 "check_walls" _ _ _ := (g_check_walls V).up (by decide)
  have C_is_between : CalP P w K mg base 8 "is_between" _ _ _ := (g_is_between V).up (by decide)
  have C_moved : CalP P w K mg base 8 "moved" _ _ _ := (g_moved V).up (by decide)
  have C_unknowns : CalP P w K mg base 8 "unknowns" _ _ _ := (g_unknowns V).up (by decide)
  refine cal_p V.r_wall_step sc_wall_step (fun _ _ _ _ _ _ us hl => match us, hl with | [_, _, _, _], _ => rfl) fun f cdv A outer s H E hr hG => ?_
  have ND := sc_wall_step.nd
  exact (dss_cons (ds_exp (de_p C_check_walls hr hG rfl (da_cons (de_loc (i := 0) rfl (vis_of rfl) rfl rfl) da_nil rfl) rfl rfl rfl) rfl)
  (dss_cons (ds_if (dt_not (dt_tru (de_p C_is_between hr hG rfl (da_cons (de_loc (i := 1) rfl (vis_of rfl) rfl rfl) (da_cons de_int (da_cons (de_bin o_sub (de_callB c_len rfl V.z_len bt_len (da_cons (de_loc (i := 0) rfl (vis_of rfl) rfl rfl) da_nil rfl) (by decide) rfl rfl rfl) de_int) da_nil rfl) rfl) rfl) rfl rfl rfl) (fun _ => rfl))) (dss_cons ds_no
  dss_nil) dss_nil)
  (dss_cons (ds_exp (de_p C_check_share hr hG rfl (da_cons (de_loc (i := 2) rfl (vis_of rfl) rfl rfl) da_nil rfl) rfl rfl rfl) rfl)
  (dss_cons (ds_exp (de_p C_check_row hr hG rfl (da_cons (de_p C_unknowns hr hG rfl (da_cons (de_loc (i := 0) rfl (vis_of rfl) rfl rfl) da_nil rfl) rfl rfl rfl) (da_cons (de_loc (i := 3) rfl (vis_of rfl) rfl rfl) da_nil rfl) rfl) rfl rfl rfl) rfl)
  (dss_cons (ds_ret (de_p C_moved hr hG rfl (da_cons (de_ix o_ix (de_loc (i := 0) rfl (vis_of rfl) rfl rfl) (de_loc (i := 1) rfl (vis_of rfl) rfl rfl) (fun _ _ => rfl)) (da_cons (de_loc (i := 2) rfl (vis_of rfl) rfl rfl) (da_cons (de_loc (i := 3) rfl (vis_of rfl) rfl rfl) da_nil rfl) rfl) rfl) rfl rfl rfl))
  dss_nil)))))
def d__law_share : TSD := (sSeq2 (sRet (dCallV F__law_pick (dCons (dLoc 0) (dCons (dTup (dCons (dTup (dCons (dCon (.int 1)) (dCons (dCon (.int 1)) dNil))) (dCons (dTup (dCons (dCon (.int 1)) (dCons (dCon (.int 1)) dNil))) (dCons (dTup (dCons (dCon (.int 1)) (dCons (dCon (.int 2)) dNil))) (dCons (dTup (dCons (dCon (.int 3)) (dCons (dCon (.int 2)) dNil))) (dCons (dTup (dCons (dCon (.int 1)) (dCons (dCon (.int 3)) dNil))) (dCons (dTup (dCons (dCon (.int 19)) (dCons (dCon (.int 10)) dNil))) dNil))))))) dNil))))
  sSkip)
def F__law_share : List D → List D → Option (R × List D) := runW 1 1 d__law_share
theorem sc__law_share : FnScope ["pool"] ["pool"] (defScope s__law_share) := ⟨rfl, rfl, rfl, by decide +kernel, rfl, by decide +kernel, by decide +kernel⟩
theorem g__law_share {P : Program} {w : World} {K : PySem.W.Frag} {mg : Str → Option Value} {base : Heap} (V : Env K mg) : CalV P w K mg base 3 "_law_share" s__law_share ["pool"] F__law_share := by
  have C__law_pick : CalV P w K mg base 2 "_law_pick" _ _ _ := (g__law_pick V).up (by decide)
  refine cal_v V.r__law_share sc__law_share (fun _ _ _ _ _ _ us hl => match us, hl with | [_], _ => rfl) fun f cdv A outer s H E hr hG => ?_
  have ND := sc__law_share.nd
  exact (dss_cons (ds_ret (de_v C__law_pick hr hG rfl (da_cons (de_loc (i := 0) rfl (vis_of rfl) rfl rfl) (da_cons (de_tup (da_cons (de_tup (da_cons de_int (da_cons de_int da_nil rfl) rfl)) (da_cons (de_tup (da_cons de_int (da_cons de_int da_nil rfl) rfl)) (da_cons (de_tup (da_cons de_int (da_cons de_int da_nil rfl) rfl)) (da_cons (de_tup (da_cons de_int (da_cons de_int da_nil rfl) rfl)) (da_cons (de_tup (da_cons de_int (da_cons de_int da_nil rfl) rfl)) (da_cons (de_tup (da_cons de_int (da_cons de_int da_nil rfl) rfl)) da_nil rfl) rfl) rfl) rfl) rfl) rfl)) da_nil rfl) rfl) rfl rfl rfl))
  dss_nil)
def d__law_below : TSD := (sSeq2 (sRet (dOp pLt (dCons (dOp pMul (dCons (dOp pIx (dCons (dLoc 0) (dCons (dCon (.int 0)) dNil))) (dCons (dOp pIx (dCons (dLoc 1) (dCons (dCon (.int 1)) dNil))) dNil))) (dCons (dOp pMul (dCons (dOp pIx (dCons (dLoc 1) (dCons (dCon (.int 0)) dNil))) (dCons (dOp pIx (dCons (dLoc 0) (dCons (dCon (.int 1)) dNil))) dNil))) dNil))))
  sSkip)
def F__law_below : List D → Option R := runF 2 2 d__law_below
theorem sc__law_below : FnScope ["one", "two"] ["one", "two"] (defScope s__law_below) := ⟨rfl, rfl, rfl, by decide +kernel, rfl, by decide +kernel, by decide +kernel⟩
theorem g__law_below {P : Program} {w : World} {K : PySem.W.Frag} {mg : Str → Option Value} {base : Heap} (V : Env K mg) : CalP P w K mg base 1 "_law_below" s__law_below ["one", "two"] F__law_below := by
  refine cal_p V.r__law_below sc__law_below (fun _ _ _ _ _ _ us hl => match us, hl with | [_, _], _ => rfl) fun f cdv A outer s H E hr hG => ?_
  have ND := sc__law_below.nd
  exact (dss_cons (ds_ret (de_cmp o_lt (de_bin o_mul (de_ix o_ix (de_loc (i := 0) rfl (vis_of rfl) rfl rfl) de_int (fun _ _ => rfl)) (de_ix o_ix (de_loc (i := 1) rfl (vis_of rfl) rfl rfl) de_int (fun _ _ => rfl))) (de_bin o_mul (de_ix o_ix (de_loc (i := 1) rfl (vis_of rfl) rfl rfl) de_int (fun _ _ => rfl)) (de_ix o_ix (de_loc (i := 0) rfl (vis_of rfl) rfl rfl) de_int (fun _ _ => rfl))) (nomark _)))
  dss_nil)
def d__law_apart : TSD := (sSeq2 (sAsg (dCall F__law_added (dCons (dLoc 0) (dCons (dTup (dCons (dOp pNeg (dCons (dCon (.int 1)) dNil)) (dCons (dCon (.int 1)) dNil))) (dCons (dLoc 1) dNil)))) (tName 2))
  (sSeq2 (sRet (dCall F__law_dot (dCons (dLoc 2) (dCons (dLoc 2) dNil))))
  sSkip))
def F__law_apart : List D → Option R := runF 2 3 d__law_apart
theorem sc__law_apart : FnScope ["one", "two", "gap"] ["one", "two"] (defScope s__law_apart) := ⟨rfl, rfl, rfl, by decide +kernel, rfl, by decide +kernel, by decide +kernel⟩
theorem g__law_apart {P : Program} {w : World} {K : PySem.W.Frag} {mg : Str → Option Value} {base : Heap} (V : Env K mg) : CalP P w K mg base 4 "_law_apart" s__law_apart ["one", "two"] F__law_apart := by
  have C__law_added : CalP P w K mg base 3 "_law_added" _ _ _ := (g__law_added V).up (by decide)
  have C__law_dot : CalP P w K mg base 3 "_law_dot" _ _ _ := (g__law_dot V).up (by decide)
  refine cal_p V.r__law_apart sc__law_apart (fun _ _ _ _ _ _ us hl => match us, hl with | [_, _], _ => rfl) fun f cdv A outer s H E hr hG => ?_
  have ND := sc__law_apart.nd
  exact (dss_cons (ds_asg (de_p C__law_added hr hG rfl (da_cons (de_loc (i := 0) rfl (vis_of rfl) rfl rfl) (da_cons (de_tup (da_cons (de_un o_neg de_int) (da_cons de_int da_nil rfl) rfl)) (da_cons (de_loc (i := 1) rfl (vis_of rfl) rfl rfl) da_nil rfl) rfl) rfl) rfl rfl rfl) (dg_name (i := 2) ND rfl (loc_of rfl) (lfn_of rfl)) rfl rfl rfl)
  (dss_cons (ds_ret (de_p C__law_dot hr hG rfl (da_cons (de_loc (i := 2) rfl (vis_of rfl) rfl rfl) (da_cons (de_loc (i := 2) rfl (vis_of rfl) rfl rfl) da_nil rfl) rfl) rfl rfl rfl))
  dss_nil))
def d__law_right : TSD := (sSeq2 (sAsgT (dCons (dCallV F__law_pick (dCons (dLoc 0) (dCons (dTup (dCons (dCon (.int 1)) (dCons (dCon (.int 2)) (dCons (dCon (.int 2)) (dCons (dCon (.int 3)) (dCons (dCon (.int 3)) (dCons (dCon (.int 4)) (dCons (dCon (.int 5)) dNil)))))))) dNil))) (dCons (dCallV F__law_pick (dCons (dLoc 0) (dCons (dTup (dCons (dCon (.int 1)) (dCons (dCon (.int 2)) (dCons (dCon (.int 3)) (dCons (dCon (.int 4)) (dCons (dCon (.int 6)) dNil)))))) dNil))) dNil)) 2 (gsCons (tName 2) (gsCons (tName 3) gsNil)))
  (sSeq2 (sAsgT (dCons (dCallV F__law_fence (dCons (dLoc 0) (dCons (dLoc 2) (dCons (dLoc 3) dNil)))) (dCons (dCallV F__law_row (dCons (dLoc 0) (dCons (dLoc 2) dNil))) dNil)) 2 (gsCons (tName 4) (gsCons (tName 5) gsNil)))
  (sSeq2 (sIf (bNot (bTru (dCallV F__law_is_known (dCons (dLoc 0) (dCons (dLoc 2) (dCons (dLoc 4) dNil)))))) (sSeq2 (sRet (dCon (.bool false)))
  sSkip) sSkip)
  (sSeq2 (sFor (sRg1 (dCon (.int 3))) (tName 1) (sSeq2 (sAsgT (dCons (dCallV F__law_draw (dCons (dLoc 0) (dCons (dLoc 3) dNil))) (dCons (dCallV F__law_share (dCons (dLoc 0) dNil)) dNil)) 2 (gsCons (tName 9) (gsCons (tName 10) gsNil)))
  (sSeq2 (sAsg (dOp pIx (dCons (dLoc 4) (dCons (dLoc 9) dNil))) (gTupD 2 (gsCons (tName 11) (gsCons (tName 12) gsNil))))
  (sSeq2 (sAsg (dCall F__law_stepped (dCons (dOp pIx (dCons (dLoc 4) (dCons (dLoc 9) dNil))) (dCons (dLoc 10) (dCons (dLoc 5) dNil)))) (tName 6))
  (sSeq2 (sIf (bVal (dOp pNe (dCons (dOp pRepr (dCons (dCall F_wall_step (dCons (dLoc 4) (dCons (dLoc 9) (dCons (dLoc 10) (dCons (dLoc 5) dNil))))) dNil)) (dCons (dOp pRepr (dCons (dLoc 6) dNil)) dNil)))) (sSeq2 (sRet (dCon (.bool false)))
  sSkip) sSkip)
  (sSeq2 (sAsg (dCallK F_wall_step 4 [3, 2, 1, 0] (dCons (dLoc 5) (dCons (dTup (dCons (dCon (.int 1)) (dCons (dCon (.int 1)) dNil))) (dCons (dLoc 9) (dCons (dLoc 4) dNil))))) (tName 7))
  (sSeq2 (sIf (bOr (bNot (bTru (dOp (pIsi "tuple") (dCons (dLoc 7) dNil)))) (bOr (bVal (dOp pNe (dCons (dOp pLen (dCons (dLoc 7) dNil)) (dCons (dLoc 2) dNil)))) (bVal (dOp pNe (dCons (dCall F__law_dot (dCons (dLoc 11) (dCons (dLoc 7) dNil))) (dCons (dLoc 12) dNil)))))) (sSeq2 (sRet (dCon (.bool false)))
  sSkip) sSkip)
  (sSeq2 (sAsgT (dCons (dCall F__law_stepped (dCons (dOp pIx (dCons (dLoc 4) (dCons (dLoc 9) dNil))) (dCons (dTup (dCons (dCon (.int 1)) (dCons (dCon (.int 1)) dNil))) (dCons (dCallV F__law_row (dCons (dLoc 0) (dCons (dLoc 2) dNil))) dNil)))) (dCons (dCall F__law_minus (dCons (dLoc 12) (dCons (dCall F__law_dot (dCons (dLoc 11) (dCons (dLoc 5) dNil))) dNil))) dNil)) 2 (gsCons (tName 13) (gsCons (tName 14) gsNil)))
  (sSeq2 (sAsg (dCall F__law_by (dCons (dCall F__law_by (dCons (dLoc 10) (dCons (dCall F__law_minus (dCons (dTup (dCons (dCon (.int 2)) (dCons (dCon (.int 1)) dNil))) (dCons (dLoc 10) dNil))) dNil))) (dCons (dCall F__law_over (dCons (dCall F__law_by (dCons (dLoc 14) (dCons (dLoc 14) dNil))) (dCons (dCall F__law_dot (dCons (dLoc 11) (dCons (dLoc 11) dNil))) dNil))) dNil))) (tName 8))
  (sSeq2 (sIf (bOr (bVal (dOp pNe (dCons (dCall F__law_minus (dCons (dCall F__law_apart (dCons (dLoc 5) (dCons (dLoc 13) dNil))) (dCons (dCall F__law_apart (dCons (dLoc 6) (dCons (dLoc 13) dNil))) dNil))) (dCons (dLoc 8) dNil)))) (bTru (dCall F__law_below (dCons (dLoc 8) (dCons (dTup (dCons (dCon (.int 0)) (dCons (dCon (.int 1)) dNil))) dNil))))) (sSeq2 (sRet (dCon (.bool false)))
  sSkip) sSkip)
  (sSeq2 (sIf (bOr (bTru (dCall F__law_below (dCons (dCall F__law_apart (dCons (dLoc 5) (dCons (dLoc 13) dNil))) (dCons (dCall F__law_apart (dCons (dLoc 5) (dCons (dLoc 7) dNil))) dNil)))) (bAnd (bVal (dOp pEq (dCons (dOp pIx (dCons (dLoc 14) (dCons (dCon (.int 0)) dNil))) (dCons (dCon (.int 0)) dNil)))) (bVal (dOp pNe (dCons (dLoc 6) (dCons (dLoc 5) dNil)))))) (sSeq2 (sRet (dCon (.bool false)))
  sSkip) sSkip)
  (sSeq2 (sAsg (dIf (bVal (dOp pEq (dCons (dCallV F__law_draw (dCons (dLoc 0) (dCons (dCon (.int 2)) dNil))) (dCons (dCon (.int 0)) dNil)))) (dLoc 6) (dLoc 7)) (tName 5))
  sSkip))))))))))))
  (sSeq2 (sRet (dCon (.bool true)))
  sSkip)))))
def F__law_right : List D → List D → Option (R × List D) := runW 1 15 d__law_right
theorem sc__law_right : FnScope ["pool", "lap", "n", "many", "some", "guess", "due", "onto", "drop", "at", "share", "row", "right", "other", "gap"] ["pool"] (defScope s__law_right) := ⟨rfl, rfl, rfl, by decide +kernel, rfl, by decide +kernel, by decide +kernel⟩
theorem g__law_right {P : Program} {w : World} {K : PySem.W.Frag} {mg : Str → Option Value} {base : Heap} (V : Env K mg) : CalV P w K mg base 18 "_law_right" s__law_right ["pool"] F__law_right := by
  have C__law_apart : CalP P w K mg base 17 "_law_apart" _ _ _ := (g__law_apart V).up (by decide)
  have C__law_below : CalP P w K mg base 17 "_law_below" _ _ _ := (g__law_below V).up (by decide)
  have C__law_by : CalP P w K mg base 17 "_law_by" _ _ _ := (g__law_by V).up (by decide)
  have C__law_dot : CalP P w K mg base 17 "_law_dot" _ _ _ := (g__law_dot V).up (by decide)
  have C__law_draw : CalV P w K mg base 17 "_law_draw" _ _ _ := (g__law_draw V).up (by decide)
  have C__law_fence : CalV P w K mg base 17 "_law_fence" _ _ _ := (g__law_fence V).up (by decide)
  have C__law_is_known : CalV P w K mg base 17 "_law_is_known" _ _ _ := (g__law_is_known V).up (by decide)
  have C__law_minus : CalP P w K mg base 17 "_law_minus" _ _ _ := (g__law_minus V).up (by decide)
  have C__law_over : CalP P w K mg base 17 "_law_over" _ _ _ := (g__law_over V).up (by decide)
  have C__law_pick : CalV P w K mg base 17 "_law_pick" _ _ _ := (g__law_pick V).up (by decide)
  have C__law_row : CalV P w K mg base 17 "_law_row" _ _ _ := (g__law_row V).up (by decide)
  have C__law_share : CalV P w K mg base 17 "_law_share" _ _ _ := (g__law_share V).up (by decide)
  have C__law_stepped : CalP P w K mg base 17 "_law_stepped" _ _ _ := (g__law_stepped V).up (by decide)
  have C_wall_step : CalP P w K mg base 17 "wall_step" _ _ _ := (g_wall_step V).up (by decide)
  refine cal_v V.r__law_right sc__law_right (fun _ _ _ _ _ _ us hl => match us, hl with | [_], _ => rfl) fun f cdv A outer s H E hr hG => ?_
  have ND := sc__law_right.nd
  exact (dss_cons (ds_par (i := 2) (j := 3) rfl ND rfl rfl (by decide) rfl rfl (da_cons (de_v C__law_pick hr hG rfl (da_cons (de_loc (i := 0) rfl (vis_of rfl) rfl rfl) (da_cons (de_tup (da_cons de_int (da_cons de_int (da_cons de_int (da_cons de_int (da_cons de_int (da_cons de_int (da_cons de_int da_nil rfl) rfl) rfl) rfl) rfl) rfl) rfl)) da_nil rfl) rfl) rfl rfl rfl) (da_cons (de_v C__law_pick hr hG rfl (da_cons (de_loc (i := 0) rfl (vis_of rfl) rfl rfl) (da_cons (de_tup (da_cons de_int (da_cons de_int (da_cons de_int (da_cons de_int (da_cons de_int da_nil rfl) rfl) rfl) rfl) rfl)) da_nil rfl) rfl) rfl rfl rfl) da_nil rfl) rfl) rfl rfl)
  (dss_cons (ds_par (i := 4) (j := 5) rfl ND rfl rfl (by decide) rfl rfl (da_cons (de_v C__law_fence hr hG rfl (da_cons (de_loc (i := 0) rfl (vis_of rfl) rfl rfl) (da_cons (de_loc (i := 2) rfl (vis_of rfl) rfl rfl) (da_cons (de_loc (i := 3) rfl (vis_of rfl) rfl rfl) da_nil rfl) rfl) rfl) rfl rfl rfl) (da_cons (de_v C__law_row hr hG rfl (da_cons (de_loc (i := 0) rfl (vis_of rfl) rfl rfl) (da_cons (de_loc (i := 2) rfl (vis_of rfl) rfl rfl) da_nil rfl) rfl) rfl rfl rfl) da_nil rfl) rfl) rfl rfl)
  (dss_cons (ds_if (dt_not (dt_tru (de_v C__law_is_known hr hG rfl (da_cons (de_loc (i := 0) rfl (vis_of rfl) rfl rfl) (da_cons (de_loc (i := 2) rfl (vis_of rfl) rfl rfl) (da_cons (de_loc (i := 4) rfl (vis_of rfl) rfl rfl) da_nil rfl) rfl) rfl) rfl rfl rfl) (fun _ => rfl))) (dss_cons (ds_ret de_bl)
  dss_nil) dss_nil)
  (dss_cons (ds_for PassesOwn.never rfl (di_rg1 rfl V.z_range de_int rfl) (dg_name (i := 1) ND rfl (loc_of rfl) (lfn_of rfl)) (dss_cons (ds_par (i := 9) (j := 10) rfl ND rfl rfl (by decide) rfl rfl (da_cons (de_v C__law_draw hr hG rfl (da_cons (de_loc (i := 0) rfl (vis_of rfl) rfl rfl) (da_cons (de_loc (i := 3) rfl (vis_of rfl) rfl rfl) da_nil rfl) rfl) rfl rfl rfl) (da_cons (de_v C__law_share hr hG rfl (da_cons (de_loc (i := 0) rfl (vis_of rfl) rfl rfl) da_nil rfl) rfl rfl rfl) da_nil rfl) rfl) rfl rfl)
  (dss_cons (ds_asg (de_ix o_ix (de_loc (i := 4) rfl (vis_of rfl) rfl rfl) (de_loc (i := 9) rfl (vis_of rfl) rfl rfl) (fun _ _ => rfl)) (dg_tup rfl (dgs_cons (dg_name (i := 11) ND rfl (loc_of rfl) (lfn_of rfl)) (dgs_cons (dg_name (i := 12) ND rfl (loc_of rfl) (lfn_of rfl)) dgs_nil rfl) rfl) rfl rfl) rfl rfl rfl)
  (dss_cons (ds_asg (de_p C__law_stepped hr hG rfl (da_cons (de_ix o_ix (de_loc (i := 4) rfl (vis_of rfl) rfl rfl) (de_loc (i := 9) rfl (vis_of rfl) rfl rfl) (fun _ _ => rfl)) (da_cons (de_loc (i := 10) rfl (vis_of rfl) rfl rfl) (da_cons (de_loc (i := 5) rfl (vis_of rfl) rfl rfl) da_nil rfl) rfl) rfl) rfl rfl rfl) (dg_name (i := 6) ND rfl (loc_of rfl) (lfn_of rfl)) rfl rfl rfl)
  (dss_cons (ds_if (dt_cmp (o_ne (huo hr)) (de_callB (c_repr hG (hur hr)) rfl V.z_repr bt_repr (da_cons (de_p C_wall_step hr hG rfl (da_cons (de_loc (i := 4) rfl (vis_of rfl) rfl rfl) (da_cons (de_loc (i := 9) rfl (vis_of rfl) rfl rfl) (da_cons (de_loc (i := 10) rfl (vis_of rfl) rfl rfl) (da_cons (de_loc (i := 5) rfl (vis_of rfl) rfl rfl) da_nil rfl) rfl) rfl) rfl) rfl rfl rfl) da_nil rfl) (by decide) rfl rfl rfl) (de_callB (c_repr hG (hur hr)) rfl V.z_repr bt_repr (da_cons (de_loc (i := 6) rfl (vis_of rfl) rfl rfl) da_nil rfl) (by decide) rfl rfl rfl) (nomark _)) (dss_cons (ds_ret de_bl)
  dss_nil) dss_nil)
  (dss_cons (ds_asg (de_k (ks := ["guess", "share", "index", "walls"]) (ix := [3, 2, 1, 0]) C_wall_step (fun _ _ _ _ _ _ us hl => match us, hl with | [_, _, _, _], _ => rfl) hr hG rfl (dk_cons (de_loc (i := 5) rfl (vis_of rfl) rfl rfl) (dk_cons (de_tup (da_cons de_int (da_cons de_int da_nil rfl) rfl)) (dk_cons (de_loc (i := 9) rfl (vis_of rfl) rfl rfl) (dk_cons (de_loc (i := 4) rfl (vis_of rfl) rfl rfl) dk_nil)))) rfl rfl rfl rfl) (dg_name (i := 7) ND rfl (loc_of rfl) (lfn_of rfl)) rfl rfl rfl)
  (dss_cons (ds_if (DW.dt (dw_or (dt_not (dt_tru (de_isi (T := "tuple") (by decide) rfl V.z_isinstance rfl V.z_tuple bt_tuple (by decide) rfl (de_loc (i := 7) rfl (vis_of rfl) rfl rfl) rfl) (fun _ => rfl))) (dw_or (dt_cmp (o_ne (huo hr)) (de_callB c_len rfl V.z_len bt_len (da_cons (de_loc (i := 7) rfl (vis_of rfl) rfl rfl) da_nil rfl) (by decide) rfl rfl rfl) (de_loc (i := 2) rfl (vis_of rfl) rfl rfl) (nomark _)) (dw_or1 (dt_cmp (o_ne (huo hr)) (de_p C__law_dot hr hG rfl (da_cons (de_loc (i := 11) rfl (vis_of rfl) rfl rfl) (da_cons (de_loc (i := 7) rfl (vis_of rfl) rfl rfl) da_nil rfl) rfl) rfl rfl rfl) (de_loc (i := 12) rfl (vis_of rfl) rfl rfl) (nomark _)))))) (dss_cons (ds_ret de_bl)
  dss_nil) dss_nil)
  (dss_cons (ds_par (i := 13) (j := 14) rfl ND rfl rfl (by decide) rfl rfl (da_cons (de_p C__law_stepped hr hG rfl (da_cons (de_ix o_ix (de_loc (i := 4) rfl (vis_of rfl) rfl rfl) (de_loc (i := 9) rfl (vis_of rfl) rfl rfl) (fun _ _ => rfl)) (da_cons (de_tup (da_cons de_int (da_cons de_int da_nil rfl) rfl)) (da_cons (de_v C__law_row hr hG rfl (da_cons (de_loc (i := 0) rfl (vis_of rfl) rfl rfl) (da_cons (de_loc (i := 2) rfl (vis_of rfl) rfl rfl) da_nil rfl) rfl) rfl rfl rfl) da_nil rfl) rfl) rfl) rfl rfl rfl) (da_cons (de_p C__law_minus hr hG rfl (da_cons (de_loc (i := 12) rfl (vis_of rfl) rfl rfl) (da_cons (de_p C__law_dot hr hG rfl (da_cons (de_loc (i := 11) rfl (vis_of rfl) rfl rfl) (da_cons (de_loc (i := 5) rfl (vis_of rfl) rfl rfl) da_nil rfl) rfl) rfl rfl rfl) da_nil rfl) rfl) rfl rfl rfl) da_nil rfl) rfl) rfl rfl)
  (dss_cons (ds_asg (de_p C__law_by hr hG rfl (da_cons (de_p C__law_by hr hG rfl (da_cons (de_loc (i := 10) rfl (vis_of rfl) rfl rfl) (da_cons (de_p C__law_minus hr hG rfl (da_cons (de_tup (da_cons de_int (da_cons de_int da_nil rfl) rfl)) (da_cons (de_loc (i := 10) rfl (vis_of rfl) rfl rfl) da_nil rfl) rfl) rfl rfl rfl) da_nil rfl) rfl) rfl rfl rfl) (da_cons (de_p C__law_over hr hG rfl (da_cons (de_p C__law_by hr hG rfl (da_cons (de_loc (i := 14) rfl (vis_of rfl) rfl rfl) (da_cons (de_loc (i := 14) rfl (vis_of rfl) rfl rfl) da_nil rfl) rfl) rfl rfl rfl) (da_cons (de_p C__law_dot hr hG rfl (da_cons (de_loc (i := 11) rfl (vis_of rfl) rfl rfl) (da_cons (de_loc (i := 11) rfl (vis_of rfl) rfl rfl) da_nil rfl) rfl) rfl rfl rfl) da_nil rfl) rfl) rfl rfl rfl) da_nil rfl) rfl) rfl rfl rfl) (dg_name (i := 8) ND rfl (loc_of rfl) (lfn_of rfl)) rfl rfl rfl)
  (dss_cons (ds_if (DW.dt (dw_or (dt_cmp (o_ne (huo hr)) (de_p C__law_minus hr hG rfl (da_cons (de_p C__law_apart hr hG rfl (da_cons (de_loc (i := 5) rfl (vis_of rfl) rfl rfl) (da_cons (de_loc (i := 13) rfl (vis_of rfl) rfl rfl) da_nil rfl) rfl) rfl rfl rfl) (da_cons (de_p C__law_apart hr hG rfl (da_cons (de_loc (i := 6) rfl (vis_of rfl) rfl rfl) (da_cons (de_loc (i := 13) rfl (vis_of rfl) rfl rfl) da_nil rfl) rfl) rfl rfl rfl) da_nil rfl) rfl) rfl rfl rfl) (de_loc (i := 8) rfl (vis_of rfl) rfl rfl) (nomark _)) (dw_or1 (dt_tru (de_p C__law_below hr hG rfl (da_cons (de_loc (i := 8) rfl (vis_of rfl) rfl rfl) (da_cons (de_tup (da_cons de_int (da_cons de_int da_nil rfl) rfl)) da_nil rfl) rfl) rfl rfl rfl) (fun _ => rfl))))) (dss_cons (ds_ret de_bl)
  dss_nil) dss_nil)
  (dss_cons (ds_if (DW.dt (dw_or (dt_tru (de_p C__law_below hr hG rfl (da_cons (de_p C__law_apart hr hG rfl (da_cons (de_loc (i := 5) rfl (vis_of rfl) rfl rfl) (da_cons (de_loc (i := 13) rfl (vis_of rfl) rfl rfl) da_nil rfl) rfl) rfl rfl rfl) (da_cons (de_p C__law_apart hr hG rfl (da_cons (de_loc (i := 5) rfl (vis_of rfl) rfl rfl) (da_cons (de_loc (i := 7) rfl (vis_of rfl) rfl rfl) da_nil rfl) rfl) rfl rfl rfl) da_nil rfl) rfl) rfl rfl rfl) (fun _ => rfl)) (dw_or1 (DW.dt (dw_and (dt_cmp (o_eq (huo hr)) (de_ix o_ix (de_loc (i := 14) rfl (vis_of rfl) rfl rfl) de_int (fun _ _ => rfl)) de_int (nomark _)) (dw_and1 (dt_cmp (o_ne (huo hr)) (de_loc (i := 6) rfl (vis_of rfl) rfl rfl) (de_loc (i := 5) rfl (vis_of rfl) rfl rfl) (nomark _)))))))) (dss_cons (ds_ret de_bl)
  dss_nil) dss_nil)
  (dss_cons (ds_asg (de_if (dt_cmp (o_eq (huo hr)) (de_v C__law_draw hr hG rfl (da_cons (de_loc (i := 0) rfl (vis_of rfl) rfl rfl) (da_cons de_int da_nil rfl) rfl) rfl rfl rfl) de_int (nomark _)) (de_loc (i := 6) rfl (vis_of rfl) rfl rfl) (de_loc (i := 7) rfl (vis_of rfl) rfl rfl)) (dg_name (i := 5) ND rfl (loc_of rfl) (lfn_of rfl)) rfl rfl rfl)
  dss_nil))))))))))) (fun _ => rfl))
  (dss_cons (ds_ret de_bl)
  dss_nil)))))
def d__law_pool : TSD := (sSeq2 (sAsg (dIf (bVal (dOp pLt (dCons (dLoc 1) (dCons (dOp pLen (dCons (dLoc 0) dNil)) dNil)))) (dOp pInt (dCons (dOp pIx (dCons (dLoc 0) (dCons (dLoc 1) dNil))) dNil)) (dOp pAdd (dCons (dOp pAdd (dCons (dOp pMul (dCons (dCon (.int 6689)) (dCons (dLoc 1) dNil))) (dCons (dCon (.int 311)) dNil))) (dCons (dOp pMod (dCons (dOp pInt (dCons (dOp pSum (dCons (dCut (dLoc 0) iNo (iOf (dCon (.int 6)))) dNil)) dNil)) (dCons (dCon (.int 999953)) dNil))) dNil)))) (tName 2))
  (sSeq2 (sAsg (dOp pAdd (dCons (dCon (.int 84307)) (dCons (dOp pMul (dCons (dCon (.int 2797)) (dCons (dLoc 1) dNil))) dNil))) (tName 3))
  (sSeq2 (sFor (sSeq (dOp pAdd (dCons (dCut (dLoc 0) iNo (iOf (dCon (.int 11)))) (dCons (dLst (dCons (dLoc 2) dNil)) dNil)))) (tName 4) (sSeq2 (sAsg (dOp pMod (dCons (dOp pInt (dCons (dOp pAdd (dCons (dOp pAdd (dCons (dOp pMul (dCons (dLoc 3) (dCons (dCon (.int 39373)) dNil))) (dCons (dOp pMod (dCons (dOp pInt (dCons (dLoc 4) dNil)) (dCons (dCon (.int 2147483579)) dNil))) dNil))) (dCons (dCon (.int 37)) dNil))) dNil)) (dCons (dCon (.int 2147483629)) dNil))) (tName 3))
  sSkip))
  (sSeq2 (sRet (dLst (dCons (dIf (bOr (bVal (dOp pLt (dCons (dLoc 2) (dCons (dCon (.int 0)) dNil)))) (bVal (dOp pGe (dCons (dLoc 2) (dCons (dOp pPow (dCons (dCon (.int 10)) (dCons (dCon (.int 18)) dNil))) dNil))))) (dOp pAbs (dCons (dLoc 2) dNil)) (dCon (.int 0))) (dCons (dLoc 3) (dCons (dCon (.int 0)) dNil)))))
  sSkip))))
def F__law_pool : List D → Option R := runF 2 5 d__law_pool
theorem sc__law_pool : FnScope ["script", "lap", "own", "stir", "each"] ["script", "lap"] (defScope s__law_pool) := ⟨rfl, rfl, rfl, by decide +kernel, rfl, by decide +kernel, by decide +kernel⟩
theorem g__law_pool {P : Program} {w : World} {K : PySem.W.Frag} {mg : Str → Option Value} {base : Heap} (V : Env K mg) : CalP P w K mg base 1 "_law_pool" s__law_pool ["script", "lap"] F__law_pool := by
  refine cal_p V.r__law_pool sc__law_pool (fun _ _ _ _ _ _ us hl => match us, hl with | [_, _], _ => rfl) fun f cdv A outer s H E hr hG => ?_
  have ND := sc__law_pool.nd
  exact (dss_cons (ds_asg (de_if (dt_cmp o_lt (de_loc (i := 1) rfl (vis_of rfl) rfl rfl) (de_callB c_len rfl V.z_len bt_len (da_cons (de_loc (i := 0) rfl (vis_of rfl) rfl rfl) da_nil rfl) (by decide) rfl rfl rfl) (nomark _)) (de_callTy c_int rfl V.z_int bt_int (da_cons (de_ix o_ix (de_loc (i := 0) rfl (vis_of rfl) rfl rfl) (de_loc (i := 1) rfl (vis_of rfl) rfl rfl) (fun _ _ => rfl)) da_nil rfl) (by decide) rfl rfl rfl) (de_bin o_add (de_bin o_add (de_bin o_mul de_int (de_loc (i := 1) rfl (vis_of rfl) rfl rfl)) de_int) (de_bin o_mod (de_callTy c_int rfl V.z_int bt_int (da_cons (de_callB (c_sum rfl) rfl V.z_sum bt_sum (da_cons (de_cut (de_loc (i := 0) rfl (vis_of rfl) rfl rfl) do_none (do_some de_int)) da_nil rfl) (by decide) rfl rfl rfl) da_nil rfl) (by decide) rfl rfl rfl) de_int))) (dg_name (i := 2) ND rfl (loc_of rfl) (lfn_of rfl)) rfl rfl rfl)
  (dss_cons (ds_asg (de_bin o_add de_int (de_bin o_mul de_int (de_loc (i := 1) rfl (vis_of rfl) rfl rfl))) (dg_name (i := 3) ND rfl (loc_of rfl) (lfn_of rfl)) rfl rfl rfl)
  (dss_cons (ds_for PassesOwn.never rfl (di_seq (de_bin o_add (de_cut (de_loc (i := 0) rfl (vis_of rfl) rfl rfl) do_none (do_some de_int)) (de_lst (da_cons (de_loc (i := 2) rfl (vis_of rfl) rfl rfl) da_nil rfl)))) (dg_name (i := 4) ND rfl (loc_of rfl) (lfn_of rfl)) (dss_cons (ds_asg (de_bin o_mod (de_callTy c_int rfl V.z_int bt_int (da_cons (de_bin o_add (de_bin o_add (de_bin o_mul (de_loc (i := 3) rfl (vis_of rfl) rfl rfl) de_int) (de_bin o_mod (de_callTy c_int rfl V.z_int bt_int (da_cons (de_loc (i := 4) rfl (vis_of rfl) rfl rfl) da_nil rfl) (by decide) rfl rfl rfl) de_int)) de_int) da_nil rfl) (by decide) rfl rfl rfl) de_int) (dg_name (i := 3) ND rfl (loc_of rfl) (lfn_of rfl)) rfl rfl rfl)
  dss_nil) (fun _ => rfl))
  (dss_cons (ds_ret (de_lst (da_cons (de_if (DW.dt (dw_or (dt_cmp o_lt (de_loc (i := 2) rfl (vis_of rfl) rfl rfl) de_int (nomark _)) (dw_or1 (dt_cmp o_ge (de_loc (i := 2) rfl (vis_of rfl) rfl rfl) (de_bin o_pow de_int de_int) (nomark _))))) (de_callB c_abs rfl V.z_abs bt_abs (da_cons (de_loc (i := 2) rfl (vis_of rfl) rfl rfl) da_nil rfl) (by decide) rfl rfl rfl) de_int) (da_cons (de_loc (i := 3) rfl (vis_of rfl) rfl rfl) (da_cons de_int da_nil rfl) rfl) rfl)))
  dss_nil))))
def d_law : TSD := (sSeq2 (sRet (dOp pAll (dCons (dComp [1] (sRg1 (dOp pMax (dCons (dCon (.int 2)) (dCons (dOp pMin (dCons (dOp pLen (dCons (dLoc 0) dNil)) (dCons (dCon (.int 4)) dNil))) dNil)))) (tName 1) bYes (dCallV F__law_right (dCons (dCall F__law_pool (dCons (dLoc 0) (dCons (dLoc 1) dNil))) dNil))) dNil)))
  sSkip)
def F_law : List D → Option R := runF 1 2 d_law
theorem sc_law : FnScope ["script", "lap"] ["script"] (defScope s_law) := ⟨rfl, rfl, rfl, by decide +kernel, rfl, by decide +kernel, by decide +kernel⟩
theorem g_law {P : Program} {w : World} {K : PySem.W.Frag} {mg : Str → Option Value} {base : Heap} (V : Env K mg) : CalP P w K mg base 19 "law" s_law ["script"] F_law := by
  have C__law_pool : CalP P w K mg base 18 "_law_pool" _ _ _ := (g__law_pool V).up (by decide)
  have C__law_right : CalV P w K mg base 18 "_law_right" _ _ _ := (g__law_right V).up (by decide)
  refine cal_p V.r_law sc_law (fun _ _ _ _ _ _ us hl => match us, hl with | [_], _ => rfl) fun f cdv A outer s H E hr hG => ?_
  have ND := sc_law.nd
  exact (dss_cons (ds_ret (de_callB (c_all rfl) rfl V.z_all bt_all (da_cons (de_comp rfl (own := [("lap", 1)]) ND (di_rg1 rfl V.z_range (de_callB (c_max rfl) rfl V.z_max bt_max (da_cons de_int (da_cons (de_callB (c_min rfl) rfl V.z_min bt_min (da_cons (de_callB c_len rfl V.z_len bt_len (da_cons (de_loc (i := 0) rfl (vis_of rfl) rfl rfl) da_nil rfl) (by decide) rfl rfl rfl) (da_cons de_int da_nil rfl) rfl) (by decide) rfl rfl rfl) da_nil rfl) rfl) (by decide) rfl rfl rfl) rfl) (blkOk_by rfl) (fun _ _ _ _ _ => (dg_name (i := 1) ND rfl (loc_of rfl) (lfn_of rfl))) (fun _ _ _ _ _ => pts_yes) (fun _ _ _ _ _ => (de_v C__law_right hr hG rfl (da_cons (de_p C__law_pool hr hG rfl (da_cons (de_loc (i := 0) rfl (vis_of rfl) rfl rfl) (da_cons (de_loc (i := 1) rfl (vis_of rfl) rfl rfl) da_nil rfl) rfl) rfl rfl rfl) da_nil rfl) rfl rfl rfl)) (fun _ => rfl) (by decide)) da_nil rfl) (by decide) rfl rfl rfl))
  dss_nil)
end
end K84

set_option Elab.async false
set_option linter.all false
set_option maxRecDepth 100000
set_option maxHeartbeats 4000000
namespace K84
open PySem PySem.Spec PyProof.Rows L2 Dn Pl Pq
def strangeL : List D := [.none, .bool true, .bool false, .int 0, .int 1, .int 2, .int (-1), .int 6, .int 201, .int 1000000000000000000000000, .str "", .str "each", .tuple [], .tuple [.int 1], .tuple [.int 1, .int 2], .tuple [.int 2, .int 4], .tuple [.int 0, .int 2], .tuple [.int 3, .int (-5)], .tuple [.bool true, .int 1], .list [.int 1, .int 2], .list [], .dict [], .dict [(.str "a", .int 1)], .tuple [.int 0, .int 1], .tuple [.int 1, .int 1], .tuple [.tuple [.int 1, .int 1]], .tuple [.tuple [.int 0, .int 1], .tuple [.int 1, .int 1]], .tuple [.tuple [.int 1, .int 1], .tuple [.int 1, .int 1], .tuple [.int 1, .int 1]], .tuple [.tuple [.tuple [.int 0, .int 1]]], .tuple [.tuple [.tuple [.int 1, .int 1]]], .tuple [.tuple [.tuple [.int 1, .int 1], .tuple [.int 0, .int 1]], .tuple [.tuple [.int 0, .int 1], .tuple [.int 1, .int 1]]], .tuple [.tuple [.tuple [.int 1, .int 1], .tuple [.int 0, .int 1]], .tuple [.tuple [.int 0, .int 1]]], .list [.tuple [.tuple [.int 1, .int 1], .tuple [.int 0, .int 1]], .tuple [.tuple [.int 0, .int 1], .tuple [.int 1, .int 1]]], .tuple [.tuple [.tuple [.int 1, .int 1], .tuple [.int 1, .int 1]], .tuple [.tuple [.int 1, .int 1], .tuple [.int 1, .int 1]]], .tuple [.tuple [.tuple [.tuple [.int 1, .int 1]]], .tuple [.tuple [.tuple [.int 1, .int 1]]]], .tuple [.tuple [.int 0, .tuple [.int 0]]], .tuple [.tuple [.int 0, .tuple [.int 0, .int 1]], .tuple [.int 1, .tuple [.int 2, .int 1]]], .tuple [.tuple [.tuple [.int 1, .int 1], .tuple [.int 0, .int 1]], .int 1]]
def okdB (n L : Nat) : Nat → D → Bool
  | _, .int i => decide (i.natAbs < 2 ^ n)
  | F + 1, .tuple ds => decide (ds.length ≤ L) && ds.all (okdB n L F)
  | 0, .tuple _ => false
  | _, _ => true
theorem okdB_ok {n L : Nat} : ∀ (F : Nat) (d : D), okdB n L F d = true → OKD n L F d
  | 0, .int i, h => by simpa [okdB, OKD, Bd] using h
  | F + 1, .int i, h => by simpa [okdB, OKD, Bd] using h
  | 0, .tuple ds, h => by simp [okdB] at h
  | F + 1, .tuple ds, h => by
    simp only [okdB, Bool.and_eq_true, decide_eq_true_eq, List.all_eq_true] at h
    exact ⟨h.1, fun d hd => okdB_ok F d (h.2 d hd)⟩
  | 0, .none, _ => trivial
  | F + 1, .none, _ => trivial
  | 0, .bool _, _ => trivial
  | F + 1, .bool _, _ => trivial
  | 0, .str _, _ => trivial
  | F + 1, .str _, _ => trivial
  | 0, .list _, _ => trivial
  | F + 1, .list _, _ => trivial
  | 0, .dict _, _ => trivial
  | F + 1, .dict _, _ => trivial
theorem okd_up {n m L M : Nat} (hn : n ≤ m) (hL : L ≤ M) : ∀ (F G : Nat) (d : D), F ≤ G → OKD n L F d → OKD m M G d
  | F, G, .int i, _, h => by
    have h := h.int
    cases G <;> exact Bd.up h hn
  | 0, G, .tuple ds, _, h => h.elim
  | F + 1, 0, .tuple ds, l, h => by omega
  | F + 1, G + 1, .tuple ds, l, h => ⟨Nat.le_trans h.1 hL, fun d hd => okd_up hn hL F G d (by omega) (h.2 d hd)⟩
  | F, G, .none, _, _ => by cases G <;> trivial
  | F, G, .bool _, _, _ => by cases G <;> trivial
  | F, G, .str _, _, _ => by cases G <;> trivial
  | F, G, .list _, _, _ => by cases G <;> trivial
  | F, G, .dict _, _, _ => by cases G <;> trivial
theorem cut_lo {α : Type} {l : List α} {i : Nat} (h : i ≤ l.length) : Dn.cutD l none (some (i : Int)) = l.take i := by
  unfold Dn.cutD
  rw [HT.sIx_none, HT.sIx_nat]
  simp [Nat.min_eq_left h]
theorem cut_hi {α : Type} {l : List α} {i : Nat} (h : i ≤ l.length) : Dn.cutD l (some (i : Int)) none = l.drop i := by
  unfold Dn.cutD
  rw [HT.sIx_none, HT.sIx_nat, Nat.min_eq_left h]
  exact List.take_of_length_le (by simp)
/-- a value, or a new list -/
def Val (n L F : Nat) (r : R) : Prop := (∃ d, r = .v d ∧ OKD n L F d) ∨ ∃ ds, r = .o ds
theorem okd_app {n L F : Nat} {as bs : List D} (ha : ∀ d ∈ as, OKD n L F d) (hb : ∀ d ∈ bs, OKD n L F d) (hl : as.length + bs.length ≤ L) : OKD n L (F + 1) (.tuple (as ++ bs)) :=
  ⟨by rw [List.length_append]; exact hl, fun d hd => (List.mem_append.mp hd).elim (ha d) (hb d)⟩
theorem cut_take {α : Type} (l : List α) (k : Nat) : Dn.cutD l none (some (k : Int)) = l.take k := by
  unfold Dn.cutD
  rw [HT.sIx_none, HT.sIx_nat, List.drop_zero, Nat.sub_zero, ← List.take_eq_take_min]
theorem x_draw : F__law_draw = Pq.F__law_draw := rfl
theorem x_pick : F__law_pick = Pq.F__law_pick := rfl
theorem x_ratio : F__law_ratio = Pq.F__law_ratio := rfl
theorem x_plus : F__law_plus = Pq.F__law_plus := rfl
theorem x_minus : F__law_minus = Pq.F__law_minus := rfl
theorem x_by : F__law_by = Pq.F__law_by := rfl
theorem x_over : F__law_over = Pq.F__law_over := rfl
theorem x_below : F__law_below = Pq.F__law_below := rfl
theorem x_dot : F__law_dot = Pq.F__law_dot := rfl
theorem x_added : F__law_added = Pq.F__law_added := rfl
theorem x_stepped : F__law_stepped = Pq.F__law_stepped := rfl
theorem x_are : F__law_are_fence = Pq.F__law_are_fence := rfl
theorem x_isf : F_is_fence = Pq.F_is_fence := rfl
theorem x_step : F_wall_step = Pq.F_wall_step := rfl
theorem p24 : pPow [.int 10, .int 24] = some (.v (.int 1000000000000000000000000)) := e_pow (by decide) (by decide) (by decide)
theorem strange_ok : ∀ d ∈ strangeL, OKD 81 6 4 d := fun d hd => okdB_ok 4 d (List.all_eq_true.mp (show strangeL.all (okdB 81 6 4) = true by decide +kernel) d hd)
theorem strange_spec {b : Nat} {xs : List D} (h : VQ (b + 1) xs) : ∃ d xs', F__law_strange xs [] = some (.v d, xs') ∧ OKD 81 6 4 d ∧ VQ b xs' := by
  obtain ⟨d, x1, e1, m1, v1⟩ := pick_L (b := b) (ds := strangeL) h (by simp [strangeL]) (by simp [strangeL])
  refine ⟨d, x1, ?_, strange_ok d m1, v1⟩
  unfold strangeL at e1
  simp [F__law_strange, d__law_strange, dLoc, dCon, dNil, dCons, dOp, dTup, dLst, looks, look, frz, dCall, dCallV, dCallK, reord, sSeq2, sSkip, sExp, sRet, sRetN, sIf, sAsg, sAsgT, bVal, bTru, bNot, bAnd, bOr, bYes, dAnd, dOr, dNot, dIf, tName, gsNil, gsCons, gTupD, Dn.tSub, Dn.valOf, asB, ownAt, asI, isPin, sl, dCut, iOf, iNo, fin, endV, runP, runF, runV, runW, startR, startV, dEmp, dChain, res, truR, Dn.tru, itemsOf, sNone, sSeq, sRg1, sRg2, sZip, sEnum, sFor, dApp, dPop, sBrk, sCnt, isNone, atI0, atI1, atI2, ixN3_0, ixN3_1, ixN3_2, ixN2_0, ixN2_1, noPins, e_add, e_addT, e_addL, e_sub, e_mul, e_mulL, e_mulT, e_div, e_mod, e_neg, e_eqI, e_neI, e_eqB, e_eqT, e_eqL, e_neT, e_neL, e_cmp, e_is, e_isnot, e_ixL, e_ixT, e_lenL, e_lenT, e_tupL, e_tupT, e_lstL, e_lstT, e_int, e_intB, e_abs, e_sum, e_divmod, e_gcd, e_max, e_min, e_isi, e_cutL, e_cutT, dDic, x_pick, p24, e1]
theorem cut_mid {α : Type} {l : List α} {i : Nat} {z : α} (h : l[i]? = some z) : Dn.cutD l (some (i : Int)) (some ((i : Int) + 1)) = [z] := by
  obtain ⟨hi, rfl⟩ := List.getElem?_eq_some_iff.mp h
  unfold Dn.cutD
  rw [show ((i : Int) + 1) = ((i + 1 : Nat) : Int) by omega, HT.sIx_nat, HT.sIx_nat, Nat.min_eq_left (by omega), Nat.min_eq_left (by omega), show i + 1 - i = 1 by omega, List.drop_eq_getElem_cons hi]
  rfl
theorem rev_t (ds : List D) : pRev [.tuple ds] = some (.v (.tuple ds.reverse)) := rfl
theorem bent_step {n L : Nat} (hn : 81 ≤ n) (hn2 : n ≤ 1000) (hL : 6 ≤ L) (hL2 : L ≤ 100) (F b : Nat) (xs : List D) (d : D) (R : List D → List D → Option (Dn.R × List D)) (hd : OKD n L F d) (hv : VQ (b + 3 * F + 3) xs)
    (ih : ∀ (G : Nat) (d' : D) (ys : List D), F = G + 1 → OKD n L G d' → VQ (b + 3 * G + 3) ys → ∃ r ys', R ys [d'] = some (r, ys') ∧ Val (n + 1) (L + 1) (G + 4) r ∧ VQ b ys') :
    ∃ r xs', runW 2 4 (d__law_bent R) xs [d] = some (r, xs') ∧ Val (n + 1) (L + 1) (F + 4) r ∧ VQ b xs' := by
  by_cases hi : ∃ i, d = .int i
  · obtain ⟨i, rfl⟩ := hi
    have hb := hd.int
    have hlog : i.natAbs.log2 < 1920 := by
      by_cases z : i.natAbs = 0
      · rw [z]; decide
      · exact Nat.lt_of_lt_of_le ((Nat.log2_lt z).mpr hb) (by omega)
    obtain ⟨t, es⟩ : ∃ t, pStr [.int i] = some (.v (.str t)) := ⟨_, if_pos hlog⟩
    have m2 : mulOk 2 i = true := mul_ok (n := 2) (Bd.nat (by decide) (by decide)) hb (by omega)
    obtain ⟨d, x1, e1, m1, v1⟩ := pick_T (b := b) (ds := [.int (i + 1), .int (i - 1), .int (-i), .int (2 * i), .bool (i == 1), .str t, .tuple [.int i, .int 1], .none]) (hv.less (by omega)) (by simp) (by simp)
    have b1 : Bd n (1 : Int) := by unfold Bd; have := Nat.pow_le_pow_right (n := 2) (by decide) hn; omega
    have bi : Bd (n + 1) i := hb.up (by omega)
    have b2 : Bd (n + 1) (2 * i) := by unfold Bd at *; rw [Nat.pow_succ]; omega
    have t1 : isTy "int" (.int i) = true := rfl
    have t2 : isTy "bool" (.int i) = false := rfl
    refine ⟨.v d, x1, ?_, .inl ⟨d, rfl, ?_⟩, v1⟩
    · simp [d__law_bent, dLoc, dCon, dNil, dCons, dOp, dTup, dLst, looks, look, frz, dCall, dCallV, dCallK, reord, sSeq2, sSkip, sExp, sRet, sRetN, sIf, sAsg, sAsgT, bVal, bTru, bNot, bAnd, bOr, bYes, dAnd, dOr, dNot, dIf, tName, gsNil, gsCons, gTupD, Dn.tSub, Dn.valOf, asB, ownAt, asI, isPin, sl, dCut, iOf, iNo, fin, endV, runP, runF, runV, runW, startR, startV, dEmp, dChain, res, truR, Dn.tru, itemsOf, sNone, sSeq, sRg1, sRg2, sZip, sEnum, sFor, dApp, dPop, sBrk, sCnt, isNone, atI0, atI1, atI2, ixN3_0, ixN3_1, ixN3_2, ixN2_0, ixN2_1, noPins, e_add, e_addT, e_addL, e_sub, e_mul, e_mulL, e_mulT, e_div, e_mod, e_neg, e_eqI, e_neI, e_eqB, e_eqT, e_eqL, e_neT, e_neL, e_cmp, e_is, e_isnot, e_ixL, e_ixT, e_lenL, e_lenT, e_tupL, e_tupT, e_lstL, e_lstT, e_int, e_intB, e_abs, e_sum, e_divmod, e_gcd, e_max, e_min, e_isi, e_cutL, e_cutT, t1, t2, x_pick, m2, es, e1]
    · simp only [List.mem_cons, List.not_mem_nil, or_false] at m1
      rcases m1 with rfl | rfl | rfl | rfl | rfl | rfl | rfl | rfl
      · exact hb.add b1
      · exact hb.sub b1
      · exact bi.neg
      · exact b2
      · trivial
      · trivial
      · refine ⟨by simp; omega, fun d hd => ?_⟩
        simp only [List.mem_cons, List.not_mem_nil, or_false] at hd
        rcases hd with rfl | rfl
        · exact bi
        · exact b1.up (by omega)
      · trivial
  have nI : (isTy "int" d && !isTy "bool" d) = false := by
    cases d with
    | int i => exact absurd ⟨i, rfl⟩ hi
    | _ => rfl
  have nJ : isTy "int" d = false ∨ isTy "bool" d = true := by
    cases h1 : isTy "int" d with
    | false => exact .inl rfl
    | true => cases h2 : isTy "bool" d with
      | true => exact .inr rfl
      | false => rw [h1, h2] at nI; cases nI
  rcases tup_or d with ⟨ds, rfl⟩ | ⟨h1, h2⟩
  · obtain ⟨hl, G, rfl, hs⟩ := hd.tup
    have ti : isTy "int" (.tuple ds) = false := rfl
    by_cases he : ds = []
    · subst he
      obtain ⟨d, x1, e1, o1, v1⟩ := strange_spec (b := b) (xs := xs) (hv.less (by omega))
      refine ⟨.v d, x1, ?_, .inl ⟨d, rfl, okd_up (by omega) (by omega) 4 _ d (by omega) o1⟩, v1⟩
      simp [d__law_bent, dLoc, dCon, dNil, dCons, dOp, dTup, dLst, looks, look, frz, dCall, dCallV, dCallK, reord, sSeq2, sSkip, sExp, sRet, sRetN, sIf, sAsg, sAsgT, bVal, bTru, bNot, bAnd, bOr, bYes, dAnd, dOr, dNot, dIf, tName, gsNil, gsCons, gTupD, Dn.tSub, Dn.valOf, asB, ownAt, asI, isPin, sl, dCut, iOf, iNo, fin, endV, runP, runF, runV, runW, startR, startV, dEmp, dChain, res, truR, Dn.tru, itemsOf, sNone, sSeq, sRg1, sRg2, sZip, sEnum, sFor, dApp, dPop, sBrk, sCnt, isNone, atI0, atI1, atI2, ixN3_0, ixN3_1, ixN3_2, ixN2_0, ixN2_1, noPins, e_add, e_addT, e_addL, e_sub, e_mul, e_mulL, e_mulT, e_div, e_mod, e_neg, e_eqI, e_neI, e_eqB, e_eqT, e_eqL, e_neT, e_neL, e_cmp, e_is, e_isnot, e_ixL, e_ixT, e_lenL, e_lenT, e_tupL, e_tupT, e_lstL, e_lstT, e_int, e_intB, e_abs, e_sum, e_divmod, e_gcd, e_max, e_min, e_isi, e_cutL, e_cutT, ti, isTy_tup, e1]
    · have lp : 0 < ds.length := List.length_pos_iff.mpr he
      obtain ⟨i, x1, e1, i0, i1, v1⟩ := draw_spec (b := b + 3 * G + 5) (m := (ds.length : Int)) (hv.less (by omega)) (by omega) (by omega)
      obtain ⟨w, x2, e2, w0, w1, v2⟩ := draw_spec (b := b + 3 * G + 4) (m := 9) v1 (by decide) (by decide)
      obtain ⟨j, rfl⟩ : ∃ j : Nat, i = (j : Int) := ⟨i.toNat, by omega⟩
      have hj : j < ds.length := by omega
      obtain ⟨z, ix, gz, zm⟩ : ∃ z, atI ds (j : Int) = some z ∧ ds[j]? = some z ∧ z ∈ ds := ⟨ds[j], by rw [atI_at rfl, List.getElem?_eq_getElem hj], List.getElem?_eq_getElem hj, List.getElem_mem _⟩
      have c1 : Dn.cutD ds none (some (j : Int)) = ds.take j := cut_lo (by omega)
      have c2 : Dn.cutD ds (some ((j : Int) + 1)) none = ds.drop (j + 1) := cut_hi (i := j + 1) (by omega)
      have c3 : Dn.cutD ds (some (j : Int)) none = ds.drop j := cut_hi (by omega)
      have c4 : Dn.cutD ds (some (j : Int)) (some ((j : Int) + 1)) = [z] := cut_mid gz
      have em : ds.isEmpty = false := by cases ds with
        | nil => exact absurd rfl he
        | cons _ _ => rfl
      have lt : (ds.take j).length = j := by rw [List.length_take]; omega
      have l1 : (ds.drop (j + 1)).length = ds.length - (j + 1) := List.length_drop ..
      have l3 : (ds.drop j).length = ds.length - j := List.length_drop ..
      have up : ∀ d ∈ ds, OKD (n + 1) (L + 1) (G + 4) d := fun d hd => okd_up (by omega) (by omega) G _ d (by omega) (hs d hd)
      have ut : ∀ d ∈ ds.take j, OKD (n + 1) (L + 1) (G + 4) d := fun d hd => up d (List.mem_of_mem_take hd)
      have u1 : ∀ d ∈ ds.drop (j + 1), OKD (n + 1) (L + 1) (G + 4) d := fun d hd => up d (List.mem_of_mem_drop hd)
      have u3 : ∀ d ∈ ds.drop j, OKD (n + 1) (L + 1) (G + 4) d := fun d hd => up d (List.mem_of_mem_drop hd)
      have one : ∀ x, OKD (n + 1) (L + 1) (G + 4) x → OKD (n + 1) (L + 1) (G + 5) (.tuple (ds.take j ++ x :: ds.drop (j + 1))) := fun x hx => okd_app ut (fun d hd => (List.mem_cons.mp hd).elim (fun e => e ▸ hx) (u1 d)) (by rw [List.length_cons]; omega)
      have a1 : ∀ x : D, pAdd [.tuple (ds.take j), .tuple [x]] = some (.v (.tuple (ds.take j ++ [x]))) := fun x => e_addT (by rw [lt, List.length_singleton]; omega)
      have a2 : ∀ x : D, pAdd [.tuple (ds.take j ++ [x]), .tuple (ds.drop (j + 1))] = some (.v (.tuple (ds.take j ++ x :: ds.drop (j + 1)))) := fun x => by
        rw [e_addT (by rw [List.length_append, lt, l1, List.length_singleton]; omega), List.append_assoc]; rfl
      have a3 : ∀ x : D, pAdd [.tuple (ds.take j ++ [x]), .tuple (ds.drop j)] = some (.v (.tuple (ds.take j ++ x :: ds.drop j))) := fun x => by
        rw [e_addT (by rw [List.length_append, lt, l3, List.length_singleton]; omega), List.append_assoc]; rfl
      have a4 : pAdd [.tuple (ds.take j), .tuple (ds.drop (j + 1))] = some (.v (.tuple (ds.take j ++ ds.drop (j + 1)))) := e_addT (by rw [lt, l1]; omega)
      by_cases q5 : w < 5
      · obtain ⟨r, x3, e3, v3, p3⟩ := ih G z x2 rfl (hs _ zm) (v2.less (by omega))
        rcases v3 with ⟨d', rfl, o3⟩ | ⟨es, rfl⟩
        · refine ⟨.v (.tuple (ds.take j ++ d' :: ds.drop (j + 1))), x3, ?_, .inl ⟨_, rfl, one d' o3⟩, p3⟩
          simp [d__law_bent, dLoc, dCon, dNil, dCons, dOp, dTup, dLst, looks, look, frz, dCall, dCallV, dCallK, reord, sSeq2, sSkip, sExp, sRet, sRetN, sIf, sAsg, sAsgT, bVal, bTru, bNot, bAnd, bOr, bYes, dAnd, dOr, dNot, dIf, tName, gsNil, gsCons, gTupD, Dn.tSub, Dn.valOf, asB, ownAt, asI, isPin, sl, dCut, iOf, iNo, fin, endV, runP, runF, runV, runW, startR, startV, dEmp, dChain, res, truR, Dn.tru, itemsOf, sNone, sSeq, sRg1, sRg2, sZip, sEnum, sFor, dApp, dPop, sBrk, sCnt, isNone, atI0, atI1, atI2, ixN3_0, ixN3_1, ixN3_2, ixN2_0, ixN2_1, noPins, e_add, e_addT, e_addL, e_sub, e_mul, e_mulL, e_mulT, e_div, e_mod, e_neg, e_eqI, e_neI, e_eqB, e_eqT, e_eqL, e_neT, e_neL, e_cmp, e_is, e_isnot, e_ixL, e_ixT, e_lenL, e_lenT, e_tupL, e_tupT, e_lstL, e_lstT, e_int, e_intB, e_abs, e_sum, e_divmod, e_gcd, e_max, e_min, e_isi, e_cutL, e_cutT, ti, isTy_tup, em, x_draw, e1, e2, q5, ix, e3, c1, c2, a1, a2, -e_addT]
        · refine ⟨.v (.tuple (ds.take j ++ .list es :: ds.drop (j + 1))), x3, ?_, .inl ⟨_, rfl, one (.list es) trivial⟩, p3⟩
          simp [d__law_bent, dLoc, dCon, dNil, dCons, dOp, dTup, dLst, looks, look, frz, dCall, dCallV, dCallK, reord, sSeq2, sSkip, sExp, sRet, sRetN, sIf, sAsg, sAsgT, bVal, bTru, bNot, bAnd, bOr, bYes, dAnd, dOr, dNot, dIf, tName, gsNil, gsCons, gTupD, Dn.tSub, Dn.valOf, asB, ownAt, asI, isPin, sl, dCut, iOf, iNo, fin, endV, runP, runF, runV, runW, startR, startV, dEmp, dChain, res, truR, Dn.tru, itemsOf, sNone, sSeq, sRg1, sRg2, sZip, sEnum, sFor, dApp, dPop, sBrk, sCnt, isNone, atI0, atI1, atI2, ixN3_0, ixN3_1, ixN3_2, ixN2_0, ixN2_1, noPins, e_add, e_addT, e_addL, e_sub, e_mul, e_mulL, e_mulT, e_div, e_mod, e_neg, e_eqI, e_neI, e_eqB, e_eqT, e_eqL, e_neT, e_neL, e_cmp, e_is, e_isnot, e_ixL, e_ixT, e_lenL, e_lenT, e_tupL, e_tupT, e_lstL, e_lstT, e_int, e_intB, e_abs, e_sum, e_divmod, e_gcd, e_max, e_min, e_isi, e_cutL, e_cutT, ti, isTy_tup, em, x_draw, e1, e2, q5, ix, e3, c1, c2, a1, a2, -e_addT]
      by_cases r5 : w = 5
      · subst r5
        refine ⟨.v (.tuple (ds.take j ++ ds.drop (j + 1))), x2, ?_, .inl ⟨_, rfl, okd_app (F := G + 4) ut u1 (by rw [lt, l1]; omega)⟩, v2.less (by omega)⟩
        simp [d__law_bent, dLoc, dCon, dNil, dCons, dOp, dTup, dLst, looks, look, frz, dCall, dCallV, dCallK, reord, sSeq2, sSkip, sExp, sRet, sRetN, sIf, sAsg, sAsgT, bVal, bTru, bNot, bAnd, bOr, bYes, dAnd, dOr, dNot, dIf, tName, gsNil, gsCons, gTupD, Dn.tSub, Dn.valOf, asB, ownAt, asI, isPin, sl, dCut, iOf, iNo, fin, endV, runP, runF, runV, runW, startR, startV, dEmp, dChain, res, truR, Dn.tru, itemsOf, sNone, sSeq, sRg1, sRg2, sZip, sEnum, sFor, dApp, dPop, sBrk, sCnt, isNone, atI0, atI1, atI2, ixN3_0, ixN3_1, ixN3_2, ixN2_0, ixN2_1, noPins, e_add, e_addT, e_addL, e_sub, e_mul, e_mulL, e_mulT, e_div, e_mod, e_neg, e_eqI, e_neI, e_eqB, e_eqT, e_eqL, e_neT, e_neL, e_cmp, e_is, e_isnot, e_ixL, e_ixT, e_lenL, e_lenT, e_tupL, e_tupT, e_lstL, e_lstT, e_int, e_intB, e_abs, e_sum, e_divmod, e_gcd, e_max, e_min, e_isi, e_cutL, e_cutT, ti, isTy_tup, em, x_draw, e1, e2, c1, c2, a4, -e_addT]
      by_cases r6 : w = 6
      · subst r6
        refine ⟨.v (.tuple (ds.take j ++ z :: ds.drop j)), x2, ?_, .inl ⟨_, rfl, okd_app (F := G + 4) ut (fun d hd => (List.mem_cons.mp hd).elim (fun e => e ▸ up _ zm) (u3 d)) (by rw [List.length_cons, lt, l3]; omega)⟩, v2.less (by omega)⟩
        simp [d__law_bent, dLoc, dCon, dNil, dCons, dOp, dTup, dLst, looks, look, frz, dCall, dCallV, dCallK, reord, sSeq2, sSkip, sExp, sRet, sRetN, sIf, sAsg, sAsgT, bVal, bTru, bNot, bAnd, bOr, bYes, dAnd, dOr, dNot, dIf, tName, gsNil, gsCons, gTupD, Dn.tSub, Dn.valOf, asB, ownAt, asI, isPin, sl, dCut, iOf, iNo, fin, endV, runP, runF, runV, runW, startR, startV, dEmp, dChain, res, truR, Dn.tru, itemsOf, sNone, sSeq, sRg1, sRg2, sZip, sEnum, sFor, dApp, dPop, sBrk, sCnt, isNone, atI0, atI1, atI2, ixN3_0, ixN3_1, ixN3_2, ixN2_0, ixN2_1, noPins, e_add, e_addT, e_addL, e_sub, e_mul, e_mulL, e_mulT, e_div, e_mod, e_neg, e_eqI, e_neI, e_eqB, e_eqT, e_eqL, e_neT, e_neL, e_cmp, e_is, e_isnot, e_ixL, e_ixT, e_lenL, e_lenT, e_tupL, e_tupT, e_lstL, e_lstT, e_int, e_intB, e_abs, e_sum, e_divmod, e_gcd, e_max, e_min, e_isi, e_cutL, e_cutT, ti, isTy_tup, em, x_draw, e1, e2, c1, c3, c4, a1, a3, -e_addT]
      by_cases r7 : w = 7
      · subst r7
        refine ⟨.v (.tuple ds.reverse), x2, ?_, .inl ⟨_, rfl, by rw [List.length_reverse]; omega, fun d hd => up d (List.mem_reverse.mp hd)⟩, v2.less (by omega)⟩
        simp [d__law_bent, dLoc, dCon, dNil, dCons, dOp, dTup, dLst, looks, look, frz, dCall, dCallV, dCallK, reord, sSeq2, sSkip, sExp, sRet, sRetN, sIf, sAsg, sAsgT, bVal, bTru, bNot, bAnd, bOr, bYes, dAnd, dOr, dNot, dIf, tName, gsNil, gsCons, gTupD, Dn.tSub, Dn.valOf, asB, ownAt, asI, isPin, sl, dCut, iOf, iNo, fin, endV, runP, runF, runV, runW, startR, startV, dEmp, dChain, res, truR, Dn.tru, itemsOf, sNone, sSeq, sRg1, sRg2, sZip, sEnum, sFor, dApp, dPop, sBrk, sCnt, isNone, atI0, atI1, atI2, ixN3_0, ixN3_1, ixN3_2, ixN2_0, ixN2_1, noPins, e_add, e_addT, e_addL, e_sub, e_mul, e_mulL, e_mulT, e_div, e_mod, e_neg, e_eqI, e_neI, e_eqB, e_eqT, e_eqL, e_neT, e_neL, e_cmp, e_is, e_isnot, e_ixL, e_ixT, e_lenL, e_lenT, e_tupL, e_tupT, e_lstL, e_lstT, e_int, e_intB, e_abs, e_sum, e_divmod, e_gcd, e_max, e_min, e_isi, e_cutL, e_cutT, ti, isTy_tup, em, x_draw, e1, e2, rev_t]
      · have k5 : (w == 5) = false := beq_eq_false_iff_ne.mpr r5
        have k6 : (w == 6) = false := beq_eq_false_iff_ne.mpr r6
        have k7 : (w == 7) = false := beq_eq_false_iff_ne.mpr r7
        refine ⟨.o ds, x2, ?_, .inr ⟨ds, rfl⟩, v2.less (by omega)⟩
        simp [d__law_bent, dLoc, dCon, dNil, dCons, dOp, dTup, dLst, looks, look, frz, dCall, dCallV, dCallK, reord, sSeq2, sSkip, sExp, sRet, sRetN, sIf, sAsg, sAsgT, bVal, bTru, bNot, bAnd, bOr, bYes, dAnd, dOr, dNot, dIf, tName, gsNil, gsCons, gTupD, Dn.tSub, Dn.valOf, asB, ownAt, asI, isPin, sl, dCut, iOf, iNo, fin, endV, runP, runF, runV, runW, startR, startV, dEmp, dChain, res, truR, Dn.tru, itemsOf, sNone, sSeq, sRg1, sRg2, sZip, sEnum, sFor, dApp, dPop, sBrk, sCnt, isNone, atI0, atI1, atI2, ixN3_0, ixN3_1, ixN3_2, ixN2_0, ixN2_1, noPins, e_add, e_addT, e_addL, e_sub, e_mul, e_mulL, e_mulT, e_div, e_mod, e_neg, e_eqI, e_neI, e_eqB, e_eqT, e_eqL, e_neT, e_neL, e_cmp, e_is, e_isnot, e_ixL, e_ixT, e_lenL, e_lenT, e_tupL, e_tupT, e_lstL, e_lstT, e_int, e_intB, e_abs, e_sum, e_divmod, e_gcd, e_max, e_min, e_isi, e_cutL, e_cutT, ti, isTy_tup, em, x_draw, e1, e2, q5, k5, k6, k7]
  · obtain ⟨d', x1, e1, o1, v1⟩ := strange_spec (b := b) (xs := xs) (hv.less (by omega))
    refine ⟨.v d', x1, ?_, .inl ⟨d', rfl, okd_up (by omega) (by omega) 4 _ d' (by omega) o1⟩, v1⟩
    rcases nJ with nJ | nJ
    · simp [d__law_bent, dLoc, dCon, dNil, dCons, dOp, dTup, dLst, looks, look, frz, dCall, dCallV, dCallK, reord, sSeq2, sSkip, sExp, sRet, sRetN, sIf, sAsg, sAsgT, bVal, bTru, bNot, bAnd, bOr, bYes, dAnd, dOr, dNot, dIf, tName, gsNil, gsCons, gTupD, Dn.tSub, Dn.valOf, asB, ownAt, asI, isPin, sl, dCut, iOf, iNo, fin, endV, runP, runF, runV, runW, startR, startV, dEmp, dChain, res, truR, Dn.tru, itemsOf, sNone, sSeq, sRg1, sRg2, sZip, sEnum, sFor, dApp, dPop, sBrk, sCnt, isNone, atI0, atI1, atI2, ixN3_0, ixN3_1, ixN3_2, ixN2_0, ixN2_1, noPins, e_add, e_addT, e_addL, e_sub, e_mul, e_mulL, e_mulT, e_div, e_mod, e_neg, e_eqI, e_neI, e_eqB, e_eqT, e_eqL, e_neT, e_neL, e_cmp, e_is, e_isnot, e_ixL, e_ixT, e_lenL, e_lenT, e_tupL, e_tupT, e_lstL, e_lstT, e_int, e_intB, e_abs, e_sum, e_divmod, e_gcd, e_max, e_min, e_isi, e_cutL, e_cutT, nJ, h2, e1]
    · cases ti : isTy "int" d <;> simp [d__law_bent, dLoc, dCon, dNil, dCons, dOp, dTup, dLst, looks, look, frz, dCall, dCallV, dCallK, reord, sSeq2, sSkip, sExp, sRet, sRetN, sIf, sAsg, sAsgT, bVal, bTru, bNot, bAnd, bOr, bYes, dAnd, dOr, dNot, dIf, tName, gsNil, gsCons, gTupD, Dn.tSub, Dn.valOf, asB, ownAt, asI, isPin, sl, dCut, iOf, iNo, fin, endV, runP, runF, runV, runW, startR, startV, dEmp, dChain, res, truR, Dn.tru, itemsOf, sNone, sSeq, sRg1, sRg2, sZip, sEnum, sFor, dApp, dPop, sBrk, sCnt, isNone, atI0, atI1, atI2, ixN3_0, ixN3_1, ixN3_2, ixN2_0, ixN2_1, noPins, e_add, e_addT, e_addL, e_sub, e_mul, e_mulL, e_mulT, e_div, e_mod, e_neg, e_eqI, e_neI, e_eqB, e_eqT, e_eqL, e_neT, e_neL, e_cmp, e_is, e_isnot, e_ixL, e_ixT, e_lenL, e_lenT, e_tupL, e_tupT, e_lstL, e_lstT, e_int, e_intB, e_abs, e_sum, e_divmod, e_gcd, e_max, e_min, e_isi, e_cutL, e_cutT, nJ, ti, h2, e1]
theorem bent_spec {n L : Nat} (hn : 81 ≤ n) (hn2 : n ≤ 1000) (hL : 6 ≤ L) (hL2 : L ≤ 100) : ∀ (F b : Nat) (xs : List D) (d : D) (k : Nat), F < k → OKD n L F d → VQ (b + 3 * F + 3) xs → ∃ r xs', F__law_bent k xs [d] = some (r, xs') ∧ Val (n + 1) (L + 1) (F + 4) r ∧ VQ b xs'
  | F, b, xs, d, 0, hk, _, _ => by omega
  | F, b, xs, d, k + 1, hk, hd, hv => bent_step hn hn2 hL hL2 F b xs d (F__law_bent k) hd hv fun G d' ys e h v => bent_spec hn hn2 hL hL2 G b ys d' k (by omega) h v
theorem small_spec {b : Nat} {xs : List D} (h : VQ (b + 2) xs) : ∃ r xs', F__law_small xs [] = some (.v (enc r), xs') ∧ Cb 30 7 r ∧ VQ b xs' := by
  obtain ⟨i, x1, e1, i0, i1, v1⟩ := draw_spec (b := b + 1) (m := 9) h (by decide) (by decide)
  obtain ⟨d, x2, e2, m2, v2⟩ := pick_T (b := b) (ds := [.int 1, .int 1, .int 2, .int 2, .int 3, .int 5]) v1 (by simp) (by simp)
  obtain ⟨s, k, rfl, s1, s2, hk⟩ : ∃ s k : Int, d = .int s ∧ 1 ≤ s ∧ s ≤ 5 ∧ s * k = 30 := by
    simp only [List.mem_cons, List.not_mem_nil, or_false] at m2
    rcases m2 with rfl | rfl | rfl | rfl | rfl | rfl
    · exact ⟨1, 30, rfl, by decide, by decide, by decide⟩
    · exact ⟨1, 30, rfl, by decide, by decide, by decide⟩
    · exact ⟨2, 15, rfl, by decide, by decide, by decide⟩
    · exact ⟨2, 15, rfl, by decide, by decide, by decide⟩
    · exact ⟨3, 10, rfl, by decide, by decide, by decide⟩
    · exact ⟨5, 6, rfl, by decide, by decide, by decide⟩
  have bs : Bd 3 s := Bd.nat (by omega) (by omega)
  have f := ratio_q (a := i - 4) (b := s) (by omega) bs (by decide)
  have k0 : k ≠ 0 := fun z => by rw [z] at hk; omega
  have kp : 0 ≤ k ∧ k ≤ 30 := by
    have e : s = 1 ∨ s = 2 ∨ s = 3 ∨ s = 4 ∨ s = 5 := by omega
    rcases e with rfl | rfl | rfl | rfl | rfl <;> omega
  refine ⟨Rat.divInt (i - 4) s, x2, ?_, ⟨(i - 4) * k, by rw [← hk, Rat.divInt_mul_right k0], ?_⟩, v2⟩
  · simp [F__law_small, d__law_small, dLoc, dCon, dNil, dCons, dOp, dTup, dLst, looks, look, frz, dCall, dCallV, dCallK, reord, sSeq2, sSkip, sExp, sRet, sRetN, sIf, sAsg, sAsgT, bVal, bTru, bNot, bAnd, bOr, bYes, dAnd, dOr, dNot, dIf, tName, gsNil, gsCons, gTupD, Dn.tSub, Dn.valOf, asB, ownAt, asI, isPin, sl, dCut, iOf, iNo, fin, endV, runP, runF, runV, runW, startR, startV, dEmp, dChain, res, truR, Dn.tru, itemsOf, sNone, sSeq, sRg1, sRg2, sZip, sEnum, sFor, dApp, dPop, sBrk, sCnt, isNone, atI0, atI1, atI2, ixN3_0, ixN3_1, ixN3_2, ixN2_0, ixN2_1, noPins, e_add, e_addT, e_addL, e_sub, e_mul, e_mulL, e_mulT, e_div, e_mod, e_neg, e_eqI, e_neI, e_eqB, e_eqT, e_eqL, e_neT, e_neL, e_cmp, e_is, e_isnot, e_ixL, e_ixT, e_lenL, e_lenT, e_tupL, e_tupT, e_lstL, e_lstT, e_int, e_intB, e_abs, e_sum, e_divmod, e_gcd, e_max, e_min, e_isi, e_cutL, e_cutT, x_draw, x_pick, x_ratio, e1, e2, f]
  · have e : k = 30 ∨ k = 15 ∨ k = 10 ∨ k = 6 := by
      have e : s = 1 ∨ s = 2 ∨ s = 3 ∨ s = 4 ∨ s = 5 := by omega
      rcases e with rfl | rfl | rfl | rfl | rfl <;> omega
    unfold Bd
    rcases e with rfl | rfl | rfl | rfl <;> omega
theorem row_spec {b n : Nat} {xs : List D} (h : VQ (b + 2 * n) xs) (hn : n ≤ 1000) : ∃ l xs', F__law_row xs [.int (n : Int)] = some (.v (row l), xs') ∧ l.length = n ∧ (∀ x ∈ l, Cb 30 7 x) ∧ VQ b xs' := by
  obtain ⟨ρ', e, xs', l, k', e2, e3, e4, e5⟩ := loopF_inv (tgt := tName 3) (body := sSeq2 (sExp (dApp 2 (dCallV F__law_small (dCons (dLoc 0) dNil)))) sSkip) (ds := (List.range n).map fun (i : Nat) => PyData.int (i : Int))
      (Inv := fun ds ρ => ∃ (xs' : List D) (l : List Rat) (k' : Option D), ρ = [some (.own true xs'), some (.val (.int (n : Int))), some (.own false (List.map enc l)), Option.map Slot.val k'] ∧ l.length + ds.length = n ∧ (∀ x ∈ l, Cb 30 7 x) ∧ VQ (b + 2 * ds.length) xs')
      (ρ := [some (.own true xs), some (.val (.int (n : Int))), some (.own false []), none]) (fun d ds ρ i => by
        obtain ⟨x1, l, k1, rfl, h1, h2, h3⟩ := i
        obtain ⟨r, x2, e1, hr, v2⟩ := small_spec (b := b + 2 * ds.length) (xs := x1) (by rw [List.length_cons] at h3; exact h3.less (by omega))
        have hz : l.length < 1000000 := by rw [List.length_cons] at h1; omega
        refine ⟨[some (.own true x1), some (.val (.int (n : Int))), some (.own false (List.map enc l)), some (.val d)], [some (.own true x2), some (.val (.int (n : Int))), some (.own false (List.map enc (l ++ [r]))), some (.val d)], by cases k1 <;> simp [dLoc, dCon, dNil, dCons, dOp, dTup, dLst, looks, look, frz, dCall, dCallV, dCallK, reord, sSeq2, sSkip, sExp, sRet, sRetN, sIf, sAsg, sAsgT, bVal, bTru, bNot, bAnd, bOr, bYes, dAnd, dOr, dNot, dIf, tName, gsNil, gsCons, gTupD, Dn.tSub, Dn.valOf, asB, ownAt, asI, isPin, sl, dCut, iOf, iNo, fin, endV, runP, runF, runV, runW, startR, startV, dEmp, dChain, res, truR, Dn.tru, itemsOf, sNone, sSeq, sRg1, sRg2, sZip, sEnum, sFor, dApp, dPop, sBrk, sCnt, isNone, atI0, atI1, atI2, ixN3_0, ixN3_1, ixN3_2, ixN2_0, ixN2_1, noPins, e_add, e_addT, e_addL, e_sub, e_mul, e_mulL, e_mulT, e_div, e_mod, e_neg, e_eqI, e_neI, e_eqB, e_eqT, e_eqL, e_neT, e_neL, e_cmp, e_is, e_isnot, e_ixL, e_ixT, e_lenL, e_lenT, e_tupL, e_tupT, e_lstL, e_lstT, e_int, e_intB, e_abs, e_sum, e_divmod, e_gcd, e_max, e_min, e_isi, e_cutL, e_cutT], by simp [dLoc, dCon, dNil, dCons, dOp, dTup, dLst, looks, look, frz, dCall, dCallV, dCallK, reord, sSeq2, sSkip, sExp, sRet, sRetN, sIf, sAsg, sAsgT, bVal, bTru, bNot, bAnd, bOr, bYes, dAnd, dOr, dNot, dIf, tName, gsNil, gsCons, gTupD, Dn.tSub, Dn.valOf, asB, ownAt, asI, isPin, sl, dCut, iOf, iNo, fin, endV, runP, runF, runV, runW, startR, startV, dEmp, dChain, res, truR, Dn.tru, itemsOf, sNone, sSeq, sRg1, sRg2, sZip, sEnum, sFor, dApp, dPop, sBrk, sCnt, isNone, atI0, atI1, atI2, ixN3_0, ixN3_1, ixN3_2, ixN2_0, ixN2_1, noPins, e_add, e_addT, e_addL, e_sub, e_mul, e_mulL, e_mulT, e_div, e_mod, e_neg, e_eqI, e_neI, e_eqB, e_eqT, e_eqL, e_neT, e_neL, e_cmp, e_is, e_isnot, e_ixL, e_ixT, e_lenL, e_lenT, e_tupL, e_tupT, e_lstL, e_lstT, e_int, e_intB, e_abs, e_sum, e_divmod, e_gcd, e_max, e_min, e_isi, e_cutL, e_cutT, e1, hz], x2, l ++ [r], some d, rfl, by rw [List.length_cons] at h1; simp; omega, fun x hx => ?_, v2⟩
        rcases List.mem_append.mp hx with hx | hx
        · exact h2 x hx
        · rw [List.mem_singleton.mp hx]; exact hr) ⟨xs, [], none, rfl, by simp, fun _ hx => (nomatch hx), by simpa using h⟩
  subst e2
  refine ⟨l, xs', ?_, by simpa using e3, e4, by simpa using e5⟩
  simp [F__law_row, d__law_row, dLoc, dCon, dNil, dCons, dOp, dTup, dLst, looks, look, frz, dCall, dCallV, dCallK, reord, sSeq2, sSkip, sExp, sRet, sRetN, sIf, sAsg, sAsgT, bVal, bTru, bNot, bAnd, bOr, bYes, dAnd, dOr, dNot, dIf, tName, gsNil, gsCons, gTupD, Dn.tSub, Dn.valOf, asB, ownAt, asI, isPin, sl, dCut, iOf, iNo, fin, endV, runP, runF, runV, runW, startR, startV, dEmp, dChain, res, truR, Dn.tru, itemsOf, sNone, sSeq, sRg1, sRg2, sZip, sEnum, sFor, dApp, dPop, sBrk, sCnt, isNone, atI0, atI1, atI2, ixN3_0, ixN3_1, ixN3_2, ixN2_0, ixN2_1, noPins, e_add, e_addT, e_addL, e_sub, e_mul, e_mulL, e_mulT, e_div, e_mod, e_neg, e_eqI, e_neI, e_eqB, e_eqT, e_eqL, e_neT, e_neL, e_cmp, e_is, e_isnot, e_ixL, e_ixT, e_lenL, e_lenT, e_tupL, e_tupT, e_lstL, e_lstT, e_int, e_intB, e_abs, e_sum, e_divmod, e_gcd, e_max, e_min, e_isi, e_cutL, e_cutT, rg_ok hn, rg_map, e]
  rfl
theorem share_spec {b : Nat} {xs : List D} (h : VQ (b + 1) xs) : ∃ s xs', F__law_share xs [] = some (.v (enc s), xs') ∧ Cb 30 6 s ∧ 0 < s ∧ s < 2 ∧ VQ b xs' := by
  obtain ⟨d, x1, e1, m1, v1⟩ := pick_T (b := b) (ds := [.tuple [.int 1, .int 1], .tuple [.int 1, .int 1], .tuple [.int 1, .int 2], .tuple [.int 3, .int 2], .tuple [.int 1, .int 3], .tuple [.int 19, .int 10]]) h (by simp) (by simp)
  obtain ⟨s, rfl, s1, s2, s3⟩ : ∃ s : Rat, d = enc s ∧ Cb 30 6 s ∧ 0 < s ∧ s < 2 := by
    simp only [List.mem_cons, List.not_mem_nil, or_false] at m1
    rcases m1 with rfl | rfl | rfl | rfl | rfl | rfl
    · exact ⟨1, rfl, ⟨30, by decide +kernel, by unfold Bd; decide⟩, by decide +kernel, by decide +kernel⟩
    · exact ⟨1, rfl, ⟨30, by decide +kernel, by unfold Bd; decide⟩, by decide +kernel, by decide +kernel⟩
    · exact ⟨Rat.divInt 1 2, rfl, ⟨15, by decide +kernel, by unfold Bd; decide⟩, by decide +kernel, by decide +kernel⟩
    · exact ⟨Rat.divInt 3 2, rfl, ⟨45, by decide +kernel, by unfold Bd; decide⟩, by decide +kernel, by decide +kernel⟩
    · exact ⟨Rat.divInt 1 3, rfl, ⟨10, by decide +kernel, by unfold Bd; decide⟩, by decide +kernel, by decide +kernel⟩
    · exact ⟨Rat.divInt 19 10, rfl, ⟨57, by decide +kernel, by unfold Bd; decide⟩, by decide +kernel, by decide +kernel⟩
  exact ⟨s, x1, by simp [F__law_share, d__law_share, dLoc, dCon, dNil, dCons, dOp, dTup, dLst, looks, look, frz, dCall, dCallV, dCallK, reord, sSeq2, sSkip, sExp, sRet, sRetN, sIf, sAsg, sAsgT, bVal, bTru, bNot, bAnd, bOr, bYes, dAnd, dOr, dNot, dIf, tName, gsNil, gsCons, gTupD, Dn.tSub, Dn.valOf, asB, ownAt, asI, isPin, sl, dCut, iOf, iNo, fin, endV, runP, runF, runV, runW, startR, startV, dEmp, dChain, res, truR, Dn.tru, itemsOf, sNone, sSeq, sRg1, sRg2, sZip, sEnum, sFor, dApp, dPop, sBrk, sCnt, isNone, atI0, atI1, atI2, ixN3_0, ixN3_1, ixN3_2, ixN2_0, ixN2_1, noPins, e_add, e_addT, e_addL, e_sub, e_mul, e_mulL, e_mulT, e_div, e_mod, e_neg, e_eqI, e_neI, e_eqB, e_eqT, e_eqL, e_neT, e_neL, e_cmp, e_is, e_isnot, e_ixL, e_ixT, e_lenL, e_lenT, e_tupL, e_tupT, e_lstL, e_lstT, e_int, e_intB, e_abs, e_sum, e_divmod, e_gcd, e_max, e_min, e_isi, e_cutL, e_cutT, x_pick, e1], s1, s2, s3, v1⟩
end K84

set_option Elab.async false
set_option linter.all false
set_option maxRecDepth 100000
set_option maxHeartbeats 4000000
namespace K84
open PySem PySem.Spec PyProof.Rows L2 Dn Pl Pq
/-! ### fences of walls -/
def wD (w : List Rat × Rat) : D := wallD w.1 w.2
def fD (ws : List (List Rat × Rat)) : D := .tuple (ws.map wD)
theorem okd_enc {n m F : Nat} {r : Rat} (h : RB n m r) (hn : n ≤ 81) (hm : m ≤ 81) : OKD 81 6 (F + 1) (enc r) := by
  refine ⟨by simp, fun d hd => ?_⟩
  simp only [List.mem_cons, List.not_mem_nil, or_false] at hd
  rcases hd with rfl | rfl
  · have := h.num.up hn
    cases F <;> exact this
  · have := h.den.up hm
    cases F <;> exact this
theorem okd_wall {n : Nat} {a : List Rat} {b : Rat} (W : Wl n a b) : OKD 81 6 3 (wallD a b) := by
  have n5 := W.n5
  have la := W.len
  refine ⟨by simp, fun d hd => ?_⟩
  simp only [List.mem_cons, List.not_mem_nil, or_false] at hd
  rcases hd with rfl | rfl
  · refine ⟨by rw [List.length_map]; omega, fun d hd => ?_⟩
    obtain ⟨x, hx, rfl⟩ := List.mem_map.mp hd
    exact okd_enc ((W.ca x hx).rb (by decide) b90) (by decide) (by decide)
  · exact okd_enc (W.cb.rb (by decide) b5400) (by decide) (by decide)
theorem okd_fence {n : Nat} {ws : List (List Rat × Rat)} (hl : ws.length ≤ 6) (hw : ∀ w ∈ ws, Wl n w.1 w.2) : OKD 81 6 4 (fD ws) := by
  refine ⟨by rw [List.length_map]; exact hl, fun d hd => ?_⟩
  obtain ⟨w, h, rfl⟩ := List.mem_map.mp hd
  exact okd_wall (hw w h)
theorem isNo_enc (r : Rat) : isNo (enc r) = (r.num == 0) := rfl
theorem isWall_w {n : Nat} {a : List Rat} {b : Rat} (W : Wl n a b) : isWall (wallD a b) = true := by
  have n5 := W.n5
  have n1 := W.n1
  have la := W.len
  obtain ⟨r, hr, r0⟩ := W.nz
  have h1 : (a.map enc).all isFr = true := List.all_eq_true.mpr fun d hd => by
    obtain ⟨x, _, rfl⟩ := List.mem_map.mp hd
    exact isFr_enc x
  have h2 : (a.map enc).all isNo = false := by
    cases q : (a.map enc).all isNo with
    | false => rfl
    | true =>
      have := List.all_eq_true.mp q (enc r) (List.mem_map_of_mem hr)
      rw [isNo_enc, beq_iff_eq, zero_num] at this
      exact absurd this r0
  show (decide (1 ≤ (a.map enc).length) && decide ((a.map enc).length ≤ 5) && (a.map enc).all isFr && !((a.map enc).all isNo) && isFr (enc b)) = true
  rw [h1, h2, isFr_enc, List.length_map]
  simp; omega
theorem isFence_w {n : Nat} {ws : List (List Rat × Rat)} (h0 : 1 ≤ ws.length) (hl : ws.length ≤ 6) (hw : ∀ w ∈ ws, Wl n w.1 w.2) : isFence (fD ws) = true := by
  have wl : ∀ w ∈ ws, wallLen (wD w) = n := fun w h => by
    show (w.1.map enc).length = n
    rw [List.length_map, (hw w h).len]
  have h1 : (ws.map wD).all isWall = true := List.all_eq_true.mpr fun d hd => by
    obtain ⟨w, h, rfl⟩ := List.mem_map.mp hd
    exact isWall_w (hw w h)
  have hd : wallLen ((ws.map wD).headD .none) = n := by
    cases ws with
    | nil => simp at h0
    | cons w ws => exact wl w List.mem_cons_self
  have h2 : (ws.map wD).all (fun d => wallLen d == wallLen ((ws.map wD).headD .none)) = true := List.all_eq_true.mpr fun d hd' => by
    obtain ⟨w, h, rfl⟩ := List.mem_map.mp hd'
    rw [hd, wl w h, beq_self_eq_true]
  show (decide (1 ≤ (ws.map wD).length) && decide ((ws.map wD).length ≤ 6) && (ws.map wD).all isWall && (ws.map wD).all (fun d => wallLen d == wallLen ((ws.map wD).headD .none))) = true
  rw [h1, h2, List.length_map]
  simp; omega
theorem check_walls_p {n : Nat} {ws : List (List Rat × Rat)} (h0 : 1 ≤ ws.length) (hl : ws.length ≤ 6) (hw : ∀ w ∈ ws, Wl n w.1 w.2) : F_check_walls [fD ws] = some (.v .none) := by
  obtain ⟨r, e, q⟩ := are_walls_p (okd_fence hl hw) (by decide)
  rw [isFence_w h0 hl hw] at q
  have e' : F_are_walls [fD ws] = some (.v r) := e
  obtain rfl : r = .none := by cases r <;> simp [isNone] at q ⊢
  simp [F_check_walls, d_check_walls, dLoc, dCon, dNil, dCons, dOp, dTup, dLst, looks, look, frz, dCall, dCallV, dCallK, reord, sSeq2, sSkip, sExp, sRet, sRetN, sIf, sAsg, sAsgT, bVal, bTru, bNot, bAnd, bOr, bYes, dAnd, dOr, dNot, dIf, tName, gsNil, gsCons, gTupD, Dn.tSub, Dn.valOf, asB, ownAt, asI, isPin, sl, dCut, iOf, iNo, fin, endV, runP, runF, runV, runW, startR, startV, dEmp, dChain, res, truR, Dn.tru, itemsOf, sNone, sSeq, sRg1, sRg2, sZip, sEnum, sFor, dApp, dPop, sBrk, sCnt, isNone, atI0, atI1, atI2, ixN3_0, ixN3_1, ixN3_2, ixN2_0, ixN2_1, noPins, e_add, e_addT, e_addL, e_sub, e_mul, e_mulL, e_mulT, e_div, e_mod, e_neg, e_eqI, e_neI, e_eqB, e_eqT, e_eqL, e_neT, e_neL, e_cmp, e_is, e_isnot, e_ixL, e_ixT, e_lenL, e_lenT, e_tupL, e_tupT, e_lstL, e_lstT, e_int, e_intB, e_abs, e_sum, e_divmod, e_gcd, e_max, e_min, e_isi, e_cutL, e_cutT, e']
theorem is_between_p {i m : Int} (h1 : 0 ≤ i) (h2 : i ≤ m) : F_is_between [.int i, .int 0, .int m] = some (.v (.bool true)) := by
  have y1 : decide ((0 : Int) ≤ i) = true := decide_eq_true h1
  have y2 : decide (i ≤ m) = true := decide_eq_true h2
  have w : F_is_whole [.int i] = some (.v (.bool true)) := is_whole_spec (.int i)
  simp [F_is_between, d_is_between, dLoc, dCon, dNil, dCons, dOp, dTup, dLst, looks, look, frz, dCall, dCallV, dCallK, reord, sSeq2, sSkip, sExp, sRet, sRetN, sIf, sAsg, sAsgT, bVal, bTru, bNot, bAnd, bOr, bYes, dAnd, dOr, dNot, dIf, tName, gsNil, gsCons, gTupD, Dn.tSub, Dn.valOf, asB, ownAt, asI, isPin, sl, dCut, iOf, iNo, fin, endV, runP, runF, runV, runW, startR, startV, dEmp, dChain, res, truR, Dn.tru, itemsOf, sNone, sSeq, sRg1, sRg2, sZip, sEnum, sFor, dApp, dPop, sBrk, sCnt, isNone, atI0, atI1, atI2, ixN3_0, ixN3_1, ixN3_2, ixN2_0, ixN2_1, noPins, e_add, e_addT, e_addL, e_sub, e_mul, e_mulL, e_mulT, e_div, e_mod, e_neg, e_eqI, e_neI, e_eqB, e_eqT, e_eqL, e_neT, e_neL, e_cmp, e_is, e_isnot, e_ixL, e_ixT, e_lenL, e_lenT, e_tupL, e_tupT, e_lstL, e_lstT, e_int, e_intB, e_abs, e_sum, e_divmod, e_gcd, e_max, e_min, e_isi, e_cutL, e_cutT, w, h1, h2]
theorem check_share_p {s : Rat} (hs : Cb 30 6 s) (s0 : 0 < s) (s2 : s < 2) : F_check_share [enc s] = some (.v .none) := by
  have f : F_is_fraction [enc s] = some (.v (.bool true)) := by
    have := is_fraction_spec (d := enc s) (fun ds e => by cases e; simp)
    rw [isFr_enc] at this
    exact this
  have rb : RB 6 5 s := hs.rb (by decide) b30
  have n0 : 0 < s.num := by
    have := (Rat.lt_iff 0 s).mp s0
    have e1 : (0 : Rat).num = 0 := rfl
    have e2 : (0 : Rat).den = 1 := rfl
    rw [e1, e2] at this
    omega
  have n2 : s.num < 2 * (s.den : Int) := by
    have := (Rat.lt_iff s 2).mp s2
    have e1 : (2 : Rat).num = 2 := rfl
    have e2 : (2 : Rat).den = 1 := rfl
    rw [e1, e2] at this
    omega
  have g1 : decide (0 < s.num) = true := decide_eq_true n0
  have am : F_is_amount [enc s] = some (.v (.bool true)) := by
    have f' := f
    unfold enc at f' ⊢
    simp [F_is_amount, d_is_amount, dLoc, dCon, dNil, dCons, dOp, dTup, dLst, looks, look, frz, dCall, dCallV, dCallK, reord, sSeq2, sSkip, sExp, sRet, sRetN, sIf, sAsg, sAsgT, bVal, bTru, bNot, bAnd, bOr, bYes, dAnd, dOr, dNot, dIf, tName, gsNil, gsCons, gTupD, Dn.tSub, Dn.valOf, asB, ownAt, asI, isPin, sl, dCut, iOf, iNo, fin, endV, runP, runF, runV, runW, startR, startV, dEmp, dChain, res, truR, Dn.tru, itemsOf, sNone, sSeq, sRg1, sRg2, sZip, sEnum, sFor, dApp, dPop, sBrk, sCnt, isNone, atI0, atI1, atI2, ixN3_0, ixN3_1, ixN3_2, ixN2_0, ixN2_1, noPins, e_add, e_addT, e_addL, e_sub, e_mul, e_mulL, e_mulT, e_div, e_mod, e_neg, e_eqI, e_neI, e_eqB, e_eqT, e_eqL, e_neT, e_neL, e_cmp, e_is, e_isnot, e_ixL, e_ixT, e_lenL, e_lenT, e_tupL, e_tupT, e_lstL, e_lstT, e_int, e_intB, e_abs, e_sum, e_divmod, e_gcd, e_max, e_min, e_isi, e_cutL, e_cutT, f', n0]
  have m : mulOk 2 (s.den : Int) = true := mul_ok (n := 2) (m := 5) (Bd.nat (by decide) (by decide)) rb.den (by decide)
  have g2 : ¬ (2 * (s.den : Int) ≤ s.num) := by omega
  unfold enc at am ⊢
  simp [F_check_share, d_check_share, dLoc, dCon, dNil, dCons, dOp, dTup, dLst, looks, look, frz, dCall, dCallV, dCallK, reord, sSeq2, sSkip, sExp, sRet, sRetN, sIf, sAsg, sAsgT, bVal, bTru, bNot, bAnd, bOr, bYes, dAnd, dOr, dNot, dIf, tName, gsNil, gsCons, gTupD, Dn.tSub, Dn.valOf, asB, ownAt, asI, isPin, sl, dCut, iOf, iNo, fin, endV, runP, runF, runV, runW, startR, startV, dEmp, dChain, res, truR, Dn.tru, itemsOf, sNone, sSeq, sRg1, sRg2, sZip, sEnum, sFor, dApp, dPop, sBrk, sCnt, isNone, atI0, atI1, atI2, ixN3_0, ixN3_1, ixN3_2, ixN2_0, ixN2_1, noPins, e_add, e_addT, e_addL, e_sub, e_mul, e_mulL, e_mulT, e_div, e_mod, e_neg, e_eqI, e_neI, e_eqB, e_eqT, e_eqL, e_neT, e_neL, e_cmp, e_is, e_isnot, e_ixL, e_ixT, e_lenL, e_lenT, e_tupL, e_tupT, e_lstL, e_lstT, e_int, e_intB, e_abs, e_sum, e_divmod, e_gcd, e_max, e_min, e_isi, e_cutL, e_cutT, am, m, g2]
theorem check_row_p {g : List Rat} {n : Nat} (hg : g.length = n) (hn : n ≤ 1000) : F_check_row [.int (n : Int), row g] = some (.v .none) := by
  have f : ∀ r : Rat, F_is_fraction [enc r] = some (.v (.bool true)) := fun r => by
    have := is_fraction_spec (d := enc r) (fun ds e => by cases e; simp)
    rw [isFr_enc] at this
    exact this
  have lp : ∀ (l : List Rat) (k : Nat) (i1 i2 : Option D), ∃ j1 j2, loopF (gTupD 2 (gsCons (tName 2) (gsCons (tName 3) gsNil))) (sSeq2 (sIf (bNot (bTru (dCall F_is_fraction (dCons (dLoc 3) dNil)))) (sSeq2 sNone sSkip) sSkip) sSkip) (enumD k (l.map enc)) [some (.val (.int (n : Int))), some (.val (row g)), i1.map Slot.val, i2.map Slot.val]
      = some (.nx [some (.val (.int (n : Int))), some (.val (row g)), Option.map Slot.val j1, Option.map Slot.val j2]) := by
    intro l
    induction l with
    | nil => exact fun k i1 i2 => ⟨i1, i2, rfl⟩
    | cons r l ih =>
      intro k i1 i2
      obtain ⟨j1, j2, e⟩ := ih (k + 1) (some (.int (k : Nat))) (some (enc r))
      refine ⟨j1, j2, ?_⟩
      rw [← e, List.map_cons, enumD, loopF]
      cases i1 <;> cases i2 <;> simp [dLoc, dCon, dNil, dCons, dOp, dTup, dLst, looks, look, frz, dCall, dCallV, dCallK, reord, sSeq2, sSkip, sExp, sRet, sRetN, sIf, sAsg, sAsgT, bVal, bTru, bNot, bAnd, bOr, bYes, dAnd, dOr, dNot, dIf, tName, gsNil, gsCons, gTupD, Dn.tSub, Dn.valOf, asB, ownAt, asI, isPin, sl, dCut, iOf, iNo, fin, endV, runP, runF, runV, runW, startR, startV, dEmp, dChain, res, truR, Dn.tru, itemsOf, sNone, sSeq, sRg1, sRg2, sZip, sEnum, sFor, dApp, dPop, sBrk, sCnt, isNone, atI0, atI1, atI2, ixN3_0, ixN3_1, ixN3_2, ixN2_0, ixN2_1, noPins, e_add, e_addT, e_addL, e_sub, e_mul, e_mulL, e_mulT, e_div, e_mod, e_neg, e_eqI, e_neI, e_eqB, e_eqT, e_eqL, e_neT, e_neL, e_cmp, e_is, e_isnot, e_ixL, e_ixT, e_lenL, e_lenT, e_tupL, e_tupT, e_lstL, e_lstT, e_int, e_intB, e_abs, e_sum, e_divmod, e_gcd, e_max, e_min, e_isi, e_cutL, e_cutT, f]
  obtain ⟨j1, j2, e⟩ := lp g 0 none none
  have ne : (g.length : Int) = (n : Int) := by rw [hg]
  simp only [Option.map_none] at e
  unfold row at e ⊢
  simp [F_check_row, d_check_row, dLoc, dCon, dNil, dCons, dOp, dTup, dLst, looks, look, frz, dCall, dCallV, dCallK, reord, sSeq2, sSkip, sExp, sRet, sRetN, sIf, sAsg, sAsgT, bVal, bTru, bNot, bAnd, bOr, bYes, dAnd, dOr, dNot, dIf, tName, gsNil, gsCons, gTupD, Dn.tSub, Dn.valOf, asB, ownAt, asI, isPin, sl, dCut, iOf, iNo, fin, endV, runP, runF, runV, runW, startR, startV, dEmp, dChain, res, truR, Dn.tru, itemsOf, sNone, sSeq, sRg1, sRg2, sZip, sEnum, sFor, dApp, dPop, sBrk, sCnt, isNone, atI0, atI1, atI2, ixN3_0, ixN3_1, ixN3_2, ixN2_0, ixN2_1, noPins, e_add, e_addT, e_addL, e_sub, e_mul, e_mulL, e_mulT, e_div, e_mod, e_neg, e_eqI, e_neI, e_eqB, e_eqT, e_eqL, e_neT, e_neL, e_cmp, e_is, e_isnot, e_ixL, e_ixT, e_lenL, e_lenT, e_tupL, e_tupT, e_lstL, e_lstT, e_int, e_intB, e_abs, e_sum, e_divmod, e_gcd, e_max, e_min, e_isi, e_cutL, e_cutT, sEnumA, isTy_tup, ne, e]
theorem wall_step_p {n t i : Nat} {ws : List (List Rat × Rat)} {a g : List Rat} {b s : Rat} (h0 : 1 ≤ ws.length) (hl : ws.length ≤ 6) (hw : ∀ w ∈ ws, Wl n w.1 w.2) (hi : ws[i]? = some (a, b)) (hg : g.length = n) (G : GI t g) (ht : t ≤ 400) (hs : Cb 30 6 s) (s0 : 0 < s) (s2 : s < 2) :
    F_wall_step [fD ws, .int (i : Int), enc s, row g] = some (.v (row (stepQ a b s g))) := by
  obtain ⟨hi', e⟩ := List.getElem?_eq_some_iff.mp hi
  have W : Wl n a b := by have := hw _ (List.getElem_mem hi'); rw [e] at this; exact this
  have c1 := check_walls_p h0 hl hw
  have c2 := is_between_p (i := (i : Int)) (m := (ws.length : Int) - 1) (by omega) (by omega)
  have c3 := check_share_p hs s0 s2
  have n5 := W.n5
  have c4 := check_row_p hg (by omega)
  have c5 := moved_p W hg G ht hs
  have c5 : F_moved [wallD a b, enc s, row g] = some (.v (row (stepQ a b s g))) := c5
  have ix : atI (ws.map wD) (i : Int) = some (wallD a b) := by rw [atI_at rfl, List.getElem?_map, hi]; rfl
  have un : F_unknowns [fD ws] = some (.v (.int (n : Int))) := by
    cases ws with
    | nil => simp at h0
    | cons w ws =>
      have lw : (w.1.length : Int) = (n : Int) := by rw [(hw w List.mem_cons_self).len]
      simp [F_unknowns, d_unknowns, dLoc, dCon, dNil, dCons, dOp, dTup, dLst, looks, look, frz, dCall, dCallV, dCallK, reord, sSeq2, sSkip, sExp, sRet, sRetN, sIf, sAsg, sAsgT, bVal, bTru, bNot, bAnd, bOr, bYes, dAnd, dOr, dNot, dIf, tName, gsNil, gsCons, gTupD, Dn.tSub, Dn.valOf, asB, ownAt, asI, isPin, sl, dCut, iOf, iNo, fin, endV, runP, runF, runV, runW, startR, startV, dEmp, dChain, res, truR, Dn.tru, itemsOf, sNone, sSeq, sRg1, sRg2, sZip, sEnum, sFor, dApp, dPop, sBrk, sCnt, isNone, atI0, atI1, atI2, ixN3_0, ixN3_1, ixN3_2, ixN2_0, ixN2_1, noPins, e_add, e_addT, e_addL, e_sub, e_mul, e_mulL, e_mulT, e_div, e_mod, e_neg, e_eqI, e_neI, e_eqB, e_eqT, e_eqL, e_neT, e_neL, e_cmp, e_is, e_isnot, e_ixL, e_ixT, e_lenL, e_lenT, e_tupL, e_tupT, e_lstL, e_lstT, e_int, e_intB, e_abs, e_sum, e_divmod, e_gcd, e_max, e_min, e_isi, e_cutL, e_cutT, fD, wD, wallD, row, lw]
  unfold fD at *
  simp [F_wall_step, d_wall_step, dLoc, dCon, dNil, dCons, dOp, dTup, dLst, looks, look, frz, dCall, dCallV, dCallK, reord, sSeq2, sSkip, sExp, sRet, sRetN, sIf, sAsg, sAsgT, bVal, bTru, bNot, bAnd, bOr, bYes, dAnd, dOr, dNot, dIf, tName, gsNil, gsCons, gTupD, Dn.tSub, Dn.valOf, asB, ownAt, asI, isPin, sl, dCut, iOf, iNo, fin, endV, runP, runF, runV, runW, startR, startV, dEmp, dChain, res, truR, Dn.tru, itemsOf, sNone, sSeq, sRg1, sRg2, sZip, sEnum, sFor, dApp, dPop, sBrk, sCnt, isNone, atI0, atI1, atI2, ixN3_0, ixN3_1, ixN3_2, ixN2_0, ixN2_1, noPins, e_add, e_addT, e_addL, e_sub, e_mul, e_mulL, e_mulT, e_div, e_mod, e_neg, e_eqI, e_neI, e_eqB, e_eqT, e_eqL, e_neT, e_neL, e_cmp, e_is, e_isnot, e_ixL, e_ixT, e_lenL, e_lenT, e_tupL, e_tupT, e_lstL, e_lstT, e_int, e_intB, e_abs, e_sum, e_divmod, e_gcd, e_max, e_min, e_isi, e_cutL, e_cutT, c1, c2, c3, c4, c5, ix, un]
end K84

set_option Elab.async false
set_option linter.all false
set_option maxRecDepth 100000
set_option maxHeartbeats 4000000
namespace K84
open PySem PySem.Spec PyProof.Rows L2 Dn Pl Pq
/-! ### the draw of a fence -/
noncomputable section
def fr (xs : List D) (n many : Nat) (k : Option D) (pt : List Rat) (fs : List D) (off : Bool) (r bt : Option D) : Rho :=
  [some (.own true xs), some (.val (.int (n : Int))), some (.val (.int (many : Int))), k.map Slot.val, some (.val (row pt)), some (.own false fs), some (.val (.bool off)), none, r.map Slot.val, bt.map Slot.val, none, none]
def bA : TSD := (sAsgT (dCons (dCallV F__law_row (dCons (dLoc 0) (dCons (dLoc 1) dNil))) (dCons (dCallV F__law_pick (dCons (dLoc 0) (dCons (dTup (dCons (dTup (dCons (dCon (.int 2)) (dCons (dCon (.int 1)) dNil))) (dCons (dTup (dCons (dOp pNeg (dCons (dCon (.int 1)) dNil)) (dCons (dCon (.int 1)) dNil))) (dCons (dTup (dCons (dCon (.int 1)) (dCons (dCon (.int 3)) dNil))) (dCons (dTup (dCons (dCon (.int 1)) (dCons (dCon (.int 1)) dNil))) dNil))))) dNil))) dNil)) 2 (gsCons (tName 8) (gsCons (tName 9) gsNil)))
def bB : TSD := (sIf (bAnd (bVal (dOp pGt (dCons (dLoc 3) (dCons (dCon (.int 0)) dNil)))) (bVal (dOp pEq (dCons (dCallV F__law_draw (dCons (dLoc 0) (dCons (dCon (.int 4)) dNil))) (dCons (dCon (.int 0)) dNil))))) (sSeq2 (sAsg (dOp pTuple (dCons (dComp [10] (sSeq (dOp pIx (dCons (dOp pIx (dCons (dLoc 5) (dCons (dCon (.int 0)) dNil))) (dCons (dCon (.int 0)) dNil)))) (tName 10) bYes (dCall F__law_by (dCons (dLoc 9) (dCons (dLoc 10) dNil)))) dNil)) (tName 8))
  sSkip) sSkip)
def bC : TSD := (sIf (bVal (dOp pEq (dCons (dComp [10] (sSeq (dLoc 8)) (tName 10) (bVal (dOp pNe (dCons (dOp pIx (dCons (dLoc 10) (dCons (dCon (.int 0)) dNil))) (dCons (dCon (.int 0)) dNil)))) (dLoc 10)) (dCons (dLst dNil) dNil)))) (sSeq2 (sAsg (dOp pTuple (dCons (dComp [11] (sRg1 (dLoc 1)) (tName 11) bYes (dTup (dCons (dOp pInt (dCons (dOp pEq (dCons (dLoc 11) (dCons (dOp pMod (dCons (dOp pInt (dCons (dLoc 3) dNil)) (dCons (dLoc 1) dNil))) dNil))) dNil)) (dCons (dCon (.int 1)) dNil)))) dNil)) (tName 8))
  sSkip) sSkip)
def bD : TSD := (sExp (dApp 5 (dTup (dCons (dLoc 8) (dCons (dCall F__law_dot (dCons (dLoc 8) (dCons (dLoc 4) dNil))) dNil)))))
end
theorem lA {b n many : Nat} {xs fs : List D} {k r bt : Option D} {pt : List Rat} {off : Bool} (h : VQ (b + 2 * n + 1) xs) (hn : n ≤ 1000) :
    ∃ l β xs', bA (fr xs n many k pt fs off r bt) = some (.nx (fr xs' n many k pt fs off (some (row l)) (some (enc β)))) ∧ l.length = n ∧ (∀ x ∈ l, Cb 30 7 x) ∧ Cb 3 3 β ∧ VQ b xs' := by
  obtain ⟨l, x1, e1, l1, c1, v1⟩ := row_spec (b := b + 1) (n := n) (xs := xs) (h.less (by omega)) hn
  obtain ⟨d, x2, e2, m2, v2⟩ := pick_T (b := b) (ds := [.tuple [.int 2, .int 1], .tuple [.int (-1), .int 1], .tuple [.int 1, .int 3], .tuple [.int 1, .int 1]]) v1 (by simp) (by simp)
  obtain ⟨β, rfl, cβ⟩ : ∃ β : Rat, d = enc β ∧ Cb 3 3 β := by
    simp only [List.mem_cons, List.not_mem_nil, or_false] at m2
    rcases m2 with rfl | rfl | rfl | rfl
    · exact ⟨2, rfl, ⟨6, by decide +kernel, by unfold Bd; decide⟩⟩
    · exact ⟨-1, rfl, ⟨-3, by decide +kernel, by unfold Bd; decide⟩⟩
    · exact ⟨Rat.divInt 1 3, rfl, ⟨1, by decide +kernel, by unfold Bd; decide⟩⟩
    · exact ⟨1, rfl, ⟨3, by decide +kernel, by unfold Bd; decide⟩⟩
  rw [← x_pick] at e2
  refine ⟨l, β, x2, ?_, l1, c1, cβ, v2⟩
  cases r <;> cases bt <;> simp [bA, fr, dLoc, dCon, dNil, dCons, dOp, dTup, dLst, looks, look, frz, dCall, dCallV, dCallK, reord, sSeq2, sSkip, sExp, sRet, sRetN, sIf, sAsg, sAsgT, bVal, bTru, bNot, bAnd, bOr, bYes, dAnd, dOr, dNot, dIf, tName, gsNil, gsCons, gTupD, Dn.tSub, Dn.valOf, asB, ownAt, asI, isPin, sl, dCut, iOf, iNo, fin, endV, runP, runF, runV, runW, startR, startV, dEmp, dChain, res, truR, Dn.tru, itemsOf, sNone, sSeq, sRg1, sRg2, sZip, sEnum, sFor, dApp, dPop, sBrk, sCnt, isNone, atI0, atI1, atI2, ixN3_0, ixN3_1, ixN3_2, ixN2_0, ixN2_1, noPins, e_add, e_addT, e_addL, e_sub, e_mul, e_mulL, e_mulT, e_div, e_mod, e_neg, e_eqI, e_neI, e_eqB, e_eqT, e_eqL, e_neT, e_neL, e_cmp, e_is, e_isnot, e_ixL, e_ixT, e_lenL, e_lenT, e_tupL, e_tupT, e_lstL, e_lstT, e_int, e_intB, e_abs, e_sum, e_divmod, e_gcd, e_max, e_min, e_isi, e_cutL, e_cutT, e1, e2]
theorem lB {b n k many : Nat} {xs : List D} {ws : List (List Rat × Rat)} {l pt : List Rat} {β : Rat} {off : Bool} (h : VQ (b + 1) xs) (hn : n ≤ 1000) (hl : l.length = n) (cl : ∀ x ∈ l, Cb 30 7 x) (cβ : Cb 3 3 β)
    (h0 : 0 < k → ∃ a c t, ws = (a, c) :: t ∧ a.length = n ∧ ∀ x ∈ a, Cb 30 7 x) :
    ∃ l' xs', bB (fr xs n many (some (.int (k : Int))) pt (ws.map wD) off (some (row l)) (some (enc β))) = some (.nx (fr xs' n many (some (.int (k : Int))) pt (ws.map wD) off (some (row l')) (some (enc β)))) ∧ l'.length = n ∧ (∀ x ∈ l', Cb 90 10 x) ∧ (k = 0 → l' = l) ∧ VQ b xs' := by
  have up : ∀ {x : Rat}, Cb 30 7 x → Cb 90 10 x := fun c => by
    have := c.scale (e := 3) (k := 2) (by unfold Bd; decide) (by decide)
    exact this.up (by decide)
  by_cases z : k = 0
  · subst z
    exact ⟨l, xs, by simp [bB, fr, dLoc, dCon, dNil, dCons, dOp, dTup, dLst, looks, look, frz, dCall, dCallV, dCallK, reord, sSeq2, sSkip, sExp, sRet, sRetN, sIf, sAsg, sAsgT, bVal, bTru, bNot, bAnd, bOr, bYes, dAnd, dOr, dNot, dIf, tName, gsNil, gsCons, gTupD, Dn.tSub, Dn.valOf, asB, ownAt, asI, isPin, sl, dCut, iOf, iNo, fin, endV, runP, runF, runV, runW, startR, startV, dEmp, dChain, res, truR, Dn.tru, itemsOf, sNone, sSeq, sRg1, sRg2, sZip, sEnum, sFor, dApp, dPop, sBrk, sCnt, isNone, atI0, atI1, atI2, ixN3_0, ixN3_1, ixN3_2, ixN2_0, ixN2_1, noPins, e_add, e_addT, e_addL, e_sub, e_mul, e_mulL, e_mulT, e_div, e_mod, e_neg, e_eqI, e_neI, e_eqB, e_eqT, e_eqL, e_neT, e_neL, e_cmp, e_is, e_isnot, e_ixL, e_ixT, e_lenL, e_lenT, e_tupL, e_tupT, e_lstL, e_lstT, e_int, e_intB, e_abs, e_sum, e_divmod, e_gcd, e_max, e_min, e_isi, e_cutL, e_cutT], hl, fun x hx => up (cl x hx), fun _ => rfl, h.less (by omega)⟩
  · obtain ⟨a, c, t, rfl, la, ca⟩ := h0 (by omega)
    have k1 : (0 : Int) < (k : Int) := by omega
    have k2 : 0 < k := by omega
    obtain ⟨i, x1, e1, i0, i1, v1⟩ := draw_spec (b := b) (m := 4) h (by decide) (by decide)
    rw [← x_draw] at e1
    by_cases zi : i = 0
    · subst zi
      refine ⟨a.map (fun x => β * x), x1, ?_, by rw [List.length_map]; exact la, fun x hx => ?_, fun q => absurd q z, v1⟩
      · have cc := dComp_map (vs := [10]) (src := sSeq (dOp pIx (dCons (dOp pIx (dCons (dLoc 5) (dCons (dCon (.int 0)) dNil))) (dCons (dCon (.int 0)) dNil)))) (tgt := tName 10) (cond := bYes) (elt := dCall F__law_by (dCons (dLoc 9) (dCons (dLoc 10) dNil)))
          (ρ := fr x1 n many (some (.int (k : Int))) pt (((a, c) :: t).map wD) off (some (row l)) (some (enc β))) (ρ1 := fr x1 n many (some (.int (k : Int))) pt (((a, c) :: t).map wD) off (some (row l)) (some (enc β))) (l := a) (f := enc) (g := fun q => some (enc (β * q)))
          (by simp [fr, dLoc, dCon, dNil, dCons, dOp, dTup, dLst, looks, look, frz, dCall, dCallV, dCallK, reord, sSeq2, sSkip, sExp, sRet, sRetN, sIf, sAsg, sAsgT, bVal, bTru, bNot, bAnd, bOr, bYes, dAnd, dOr, dNot, dIf, tName, gsNil, gsCons, gTupD, Dn.tSub, Dn.valOf, asB, ownAt, asI, isPin, sl, dCut, iOf, iNo, fin, endV, runP, runF, runV, runW, startR, startV, dEmp, dChain, res, truR, Dn.tru, itemsOf, sNone, sSeq, sRg1, sRg2, sZip, sEnum, sFor, dApp, dPop, sBrk, sCnt, isNone, atI0, atI1, atI2, ixN3_0, ixN3_1, ixN3_2, ixN2_0, ixN2_1, noPins, e_add, e_addT, e_addL, e_sub, e_mul, e_mulL, e_mulT, e_div, e_mod, e_neg, e_eqI, e_neI, e_eqB, e_eqT, e_eqL, e_neT, e_neL, e_cmp, e_is, e_isnot, e_ixL, e_ixT, e_lenL, e_lenT, e_tupL, e_tupT, e_lstL, e_lstT, e_int, e_intB, e_abs, e_sum, e_divmod, e_gcd, e_max, e_min, e_isi, e_cutL, e_cutT, row, wD, wallD]) (by simp [fr, dLoc, dCon, dNil, dCons, dOp, dTup, dLst, looks, look, frz, dCall, dCallV, dCallK, reord, sSeq2, sSkip, sExp, sRet, sRetN, sIf, sAsg, sAsgT, bVal, bTru, bNot, bAnd, bOr, bYes, dAnd, dOr, dNot, dIf, tName, gsNil, gsCons, gTupD, Dn.tSub, Dn.valOf, asB, ownAt, asI, isPin, sl, dCut, iOf, iNo, fin, endV, runP, runF, runV, runW, startR, startV, dEmp, dChain, res, truR, Dn.tru, itemsOf, sNone, sSeq, sRg1, sRg2, sZip, sEnum, sFor, dApp, dPop, sBrk, sCnt, isNone, atI0, atI1, atI2, ixN3_0, ixN3_1, ixN3_2, ixN2_0, ixN2_1, noPins, e_add, e_addT, e_addL, e_sub, e_mul, e_mulL, e_mulT, e_div, e_mod, e_neg, e_eqI, e_neI, e_eqB, e_eqT, e_eqL, e_neT, e_neL, e_cmp, e_is, e_isnot, e_ixL, e_ixT, e_lenL, e_lenT, e_tupL, e_tupT, e_lstL, e_lstT, e_int, e_intB, e_abs, e_sum, e_divmod, e_gcd, e_max, e_min, e_isi, e_cutL, e_cutT]) (by omega) (fun q hq => by
            have q1 := by_q (cβ.rb (m := 2) (by decide) (by unfold Bd; decide)) ((ca q hq).rb (by decide) b30) (by decide) (by decide)
            rw [← x_by] at q1
            simp [fr, stepC, dLoc, dCon, dNil, dCons, dOp, dTup, dLst, looks, look, frz, dCall, dCallV, dCallK, reord, sSeq2, sSkip, sExp, sRet, sRetN, sIf, sAsg, sAsgT, bVal, bTru, bNot, bAnd, bOr, bYes, dAnd, dOr, dNot, dIf, tName, gsNil, gsCons, gTupD, Dn.tSub, Dn.valOf, asB, ownAt, asI, isPin, sl, dCut, iOf, iNo, fin, endV, runP, runF, runV, runW, startR, startV, dEmp, dChain, res, truR, Dn.tru, itemsOf, sNone, sSeq, sRg1, sRg2, sZip, sEnum, sFor, dApp, dPop, sBrk, sCnt, isNone, atI0, atI1, atI2, ixN3_0, ixN3_1, ixN3_2, ixN2_0, ixN2_1, noPins, e_add, e_addT, e_addL, e_sub, e_mul, e_mulL, e_mulT, e_div, e_mod, e_neg, e_eqI, e_neI, e_eqB, e_eqT, e_eqL, e_neT, e_neL, e_cmp, e_is, e_isnot, e_ixL, e_ixT, e_lenL, e_lenT, e_tupL, e_tupT, e_lstL, e_lstT, e_int, e_intB, e_abs, e_sum, e_divmod, e_gcd, e_max, e_min, e_isi, e_cutL, e_cutT, wipeR, q1])
        have e3 : a.filterMap (fun q => some (enc (β * q))) = (a.map (fun x => β * x)).map enc := by
          rw [filterMap_some, List.map_map]
          rfl
        rw [e3] at cc
        unfold fr at cc ⊢
        simp only [Option.map_some] at cc ⊢
        simp [bB, dLoc, dCon, dNil, dCons, dOp, dTup, dLst, looks, look, frz, dCall, dCallV, dCallK, reord, sSeq2, sSkip, sExp, sRet, sRetN, sIf, sAsg, sAsgT, bVal, bTru, bNot, bAnd, bOr, bYes, dAnd, dOr, dNot, dIf, tName, gsNil, gsCons, gTupD, Dn.tSub, Dn.valOf, asB, ownAt, asI, isPin, sl, dCut, iOf, iNo, fin, endV, runP, runF, runV, runW, startR, startV, dEmp, dChain, res, truR, Dn.tru, itemsOf, sNone, sSeq, sRg1, sRg2, sZip, sEnum, sFor, dApp, dPop, sBrk, sCnt, isNone, atI0, atI1, atI2, ixN3_0, ixN3_1, ixN3_2, ixN2_0, ixN2_1, noPins, e_add, e_addT, e_addL, e_sub, e_mul, e_mulL, e_mulT, e_div, e_mod, e_neg, e_eqI, e_neI, e_eqB, e_eqT, e_eqL, e_neT, e_neL, e_cmp, e_is, e_isnot, e_ixL, e_ixT, e_lenL, e_lenT, e_tupL, e_tupT, e_lstL, e_lstT, e_int, e_intB, e_abs, e_sum, e_divmod, e_gcd, e_max, e_min, e_isi, e_cutL, e_cutT, e1, k1, k2, cc, wipeR, -List.map_map, -List.map_cons]
        rfl
      · obtain ⟨y, hy, rfl⟩ := List.mem_map.mp hx
        have := cβ.mul (ca y hy)
        exact this.up (by decide)
    · have zi' : (i == 0) = false := beq_eq_false_iff_ne.mpr zi
      exact ⟨l, x1, by simp [bB, fr, dLoc, dCon, dNil, dCons, dOp, dTup, dLst, looks, look, frz, dCall, dCallV, dCallK, reord, sSeq2, sSkip, sExp, sRet, sRetN, sIf, sAsg, sAsgT, bVal, bTru, bNot, bAnd, bOr, bYes, dAnd, dOr, dNot, dIf, tName, gsNil, gsCons, gTupD, Dn.tSub, Dn.valOf, asB, ownAt, asI, isPin, sl, dCut, iOf, iNo, fin, endV, runP, runF, runV, runW, startR, startV, dEmp, dChain, res, truR, Dn.tru, itemsOf, sNone, sSeq, sRg1, sRg2, sZip, sEnum, sFor, dApp, dPop, sBrk, sCnt, isNone, atI0, atI1, atI2, ixN3_0, ixN3_1, ixN3_2, ixN2_0, ixN2_1, noPins, e_add, e_addT, e_addL, e_sub, e_mul, e_mulL, e_mulT, e_div, e_mod, e_neg, e_eqI, e_neI, e_eqB, e_eqT, e_eqL, e_neT, e_neL, e_cmp, e_is, e_isnot, e_ixL, e_ixT, e_lenL, e_lenT, e_tupL, e_tupT, e_lstL, e_lstT, e_int, e_intB, e_abs, e_sum, e_divmod, e_gcd, e_max, e_min, e_isi, e_cutL, e_cutT, e1, k1, k2, zi', zi], hl, fun x hx => up (cl x hx), fun q => absurd q z, v1⟩
theorem lC {n k many : Nat} {xs fs : List D} {l pt : List Rat} {off : Bool} {bt : Option D} (h1 : 1 ≤ n) (hn : n ≤ 5) (hk : k ≤ 1000) (hl : l.length = n) :
    ∃ l', bC (fr xs n many (some (.int (k : Int))) pt fs off (some (row l)) bt) = some (.nx (fr xs n many (some (.int (k : Int))) pt fs off (some (row l')) bt)) ∧ l'.length = n ∧ (∃ r ∈ l', r ≠ 0) ∧ (l' = l ∨ ∀ x ∈ l', x = 0 ∨ x = 1) := by
  have cc := dComp_map (vs := [10]) (src := sSeq (dLoc 8)) (tgt := tName 10) (cond := bVal (dOp pNe (dCons (dOp pIx (dCons (dLoc 10) (dCons (dCon (.int 0)) dNil))) (dCons (dCon (.int 0)) dNil)))) (elt := dLoc 10)
    (ρ := fr xs n many (some (.int (k : Int))) pt fs off (some (row l)) bt) (ρ1 := fr xs n many (some (.int (k : Int))) pt fs off (some (row l)) bt) (l := l.map enc) (f := id) (g := fun d => if !isNo d then some d else none)
    (by simp [fr, dLoc, dCon, dNil, dCons, dOp, dTup, dLst, looks, look, frz, dCall, dCallV, dCallK, reord, sSeq2, sSkip, sExp, sRet, sRetN, sIf, sAsg, sAsgT, bVal, bTru, bNot, bAnd, bOr, bYes, dAnd, dOr, dNot, dIf, tName, gsNil, gsCons, gTupD, Dn.tSub, Dn.valOf, asB, ownAt, asI, isPin, sl, dCut, iOf, iNo, fin, endV, runP, runF, runV, runW, startR, startV, dEmp, dChain, res, truR, Dn.tru, itemsOf, sNone, sSeq, sRg1, sRg2, sZip, sEnum, sFor, dApp, dPop, sBrk, sCnt, isNone, atI0, atI1, atI2, ixN3_0, ixN3_1, ixN3_2, ixN2_0, ixN2_1, noPins, e_add, e_addT, e_addL, e_sub, e_mul, e_mulL, e_mulT, e_div, e_mod, e_neg, e_eqI, e_neI, e_eqB, e_eqT, e_eqL, e_neT, e_neL, e_cmp, e_is, e_isnot, e_ixL, e_ixT, e_lenL, e_lenT, e_tupL, e_tupT, e_lstL, e_lstT, e_int, e_intB, e_abs, e_sum, e_divmod, e_gcd, e_max, e_min, e_isi, e_cutL, e_cutT, row]) (by simp [fr, dLoc, dCon, dNil, dCons, dOp, dTup, dLst, looks, look, frz, dCall, dCallV, dCallK, reord, sSeq2, sSkip, sExp, sRet, sRetN, sIf, sAsg, sAsgT, bVal, bTru, bNot, bAnd, bOr, bYes, dAnd, dOr, dNot, dIf, tName, gsNil, gsCons, gTupD, Dn.tSub, Dn.valOf, asB, ownAt, asI, isPin, sl, dCut, iOf, iNo, fin, endV, runP, runF, runV, runW, startR, startV, dEmp, dChain, res, truR, Dn.tru, itemsOf, sNone, sSeq, sRg1, sRg2, sZip, sEnum, sFor, dApp, dPop, sBrk, sCnt, isNone, atI0, atI1, atI2, ixN3_0, ixN3_1, ixN3_2, ixN2_0, ixN2_1, noPins, e_add, e_addT, e_addL, e_sub, e_mul, e_mulL, e_mulT, e_div, e_mod, e_neg, e_eqI, e_neI, e_eqB, e_eqT, e_eqL, e_neT, e_neL, e_cmp, e_is, e_isnot, e_ixL, e_ixT, e_lenL, e_lenT, e_tupL, e_tupT, e_lstL, e_lstT, e_int, e_intB, e_abs, e_sum, e_divmod, e_gcd, e_max, e_min, e_isi, e_cutL, e_cutT]) (by simp; omega) (fun d hd => by
      obtain ⟨q, _, rfl⟩ := List.mem_map.mp hd
      rw [isNo_enc]
      cases z : (q.num == 0) <;> simp [fr, stepC, dLoc, dCon, dNil, dCons, dOp, dTup, dLst, looks, look, frz, dCall, dCallV, dCallK, reord, sSeq2, sSkip, sExp, sRet, sRetN, sIf, sAsg, sAsgT, bVal, bTru, bNot, bAnd, bOr, bYes, dAnd, dOr, dNot, dIf, tName, gsNil, gsCons, gTupD, Dn.tSub, Dn.valOf, asB, ownAt, asI, isPin, sl, dCut, iOf, iNo, fin, endV, runP, runF, runV, runW, startR, startV, dEmp, dChain, res, truR, Dn.tru, itemsOf, sNone, sSeq, sRg1, sRg2, sZip, sEnum, sFor, dApp, dPop, sBrk, sCnt, isNone, atI0, atI1, atI2, ixN3_0, ixN3_1, ixN3_2, ixN2_0, ixN2_1, noPins, e_add, e_addT, e_addL, e_sub, e_mul, e_mulL, e_mulT, e_div, e_mod, e_neg, e_eqI, e_neI, e_eqB, e_eqT, e_eqL, e_neT, e_neL, e_cmp, e_is, e_isnot, e_ixL, e_ixT, e_lenL, e_lenT, e_tupL, e_tupT, e_lstL, e_lstT, e_int, e_intB, e_abs, e_sum, e_divmod, e_gcd, e_max, e_min, e_isi, e_cutL, e_cutT, enc, wipeR, z])
  rw [filterMap_if] at cc
  have fe := filter_empty (p := isNo) (l.map enc)
  cases q : (l.map enc).all isNo with
  | false =>
    refine ⟨l, ?_, hl, ?_, .inl rfl⟩
    · rw [q] at fe
      unfold fr at cc ⊢
      simp only [Option.map_some] at cc ⊢
      simp [bC, dLoc, dCon, dNil, dCons, dOp, dTup, dLst, looks, look, frz, dCall, dCallV, dCallK, reord, sSeq2, sSkip, sExp, sRet, sRetN, sIf, sAsg, sAsgT, bVal, bTru, bNot, bAnd, bOr, bYes, dAnd, dOr, dNot, dIf, tName, gsNil, gsCons, gTupD, Dn.tSub, Dn.valOf, asB, ownAt, asI, isPin, sl, dCut, iOf, iNo, fin, endV, runP, runF, runV, runW, startR, startV, dEmp, dChain, res, truR, Dn.tru, itemsOf, sNone, sSeq, sRg1, sRg2, sZip, sEnum, sFor, dApp, dPop, sBrk, sCnt, isNone, atI0, atI1, atI2, ixN3_0, ixN3_1, ixN3_2, ixN2_0, ixN2_1, noPins, e_add, e_addT, e_addL, e_sub, e_mul, e_mulL, e_mulT, e_div, e_mod, e_neg, e_eqI, e_neI, e_eqB, e_eqT, e_eqL, e_neT, e_neL, e_cmp, e_is, e_isnot, e_ixL, e_ixT, e_lenL, e_lenT, e_tupL, e_tupT, e_lstL, e_lstT, e_int, e_intB, e_abs, e_sum, e_divmod, e_gcd, e_max, e_min, e_isi, e_cutL, e_cutT, cc, fe, wipeR, -List.map_map]
    · refine Classical.byContradiction fun no => ?_
      have : (l.map enc).all isNo = true := List.all_eq_true.mpr fun d hd => by
        obtain ⟨x, hx, rfl⟩ := List.mem_map.mp hd
        rw [isNo_enc, beq_iff_eq, zero_num]
        exact Classical.byContradiction fun x0 => no ⟨x, hx, x0⟩
      rw [this] at q
      cases q
  | true =>
    rw [q] at fe
    have hm : k % n < n := Nat.mod_lt _ (by omega)
    refine ⟨(List.range n).map fun i => if i = k % n then (1 : Rat) else 0, ?_, by simp, ⟨1, List.mem_map.mpr ⟨k % n, List.mem_range.mpr hm, by simp⟩, by decide⟩, .inr fun x hx => ?_⟩
    · have mo : pMod [.int (k : Int), .int (n : Int)] = some (.v (.int ((k % n : Nat) : Int))) := by
        have : pMod [.int (k : Int), .int (n : Int)] = some (.v (.int ((k : Int).fmod (n : Int)))) := e_mod (by omega)
        rw [this, Int.fmod_eq_emod_of_nonneg _ (by omega)]
        rfl
      have c2 := dComp_map (vs := [11]) (src := sRg1 (dLoc 1)) (tgt := tName 11) (cond := bYes) (elt := dTup (dCons (dOp pInt (dCons (dOp pEq (dCons (dLoc 11) (dCons (dOp pMod (dCons (dOp pInt (dCons (dLoc 3) dNil)) (dCons (dLoc 1) dNil))) dNil))) dNil)) (dCons (dCon (.int 1)) dNil)))
        (ρ := fr xs n many (some (.int (k : Int))) pt fs off (some (row l)) bt) (ρ1 := fr xs n many (some (.int (k : Int))) pt fs off (some (row l)) bt) (l := List.range n) (f := fun (i : Nat) => .int (i : Int)) (g := fun (i : Nat) => some (enc (if i = k % n then (1 : Rat) else 0)))
        (by simp [fr, dLoc, dCon, dNil, dCons, dOp, dTup, dLst, looks, look, frz, dCall, dCallV, dCallK, reord, sSeq2, sSkip, sExp, sRet, sRetN, sIf, sAsg, sAsgT, bVal, bTru, bNot, bAnd, bOr, bYes, dAnd, dOr, dNot, dIf, tName, gsNil, gsCons, gTupD, Dn.tSub, Dn.valOf, asB, ownAt, asI, isPin, sl, dCut, iOf, iNo, fin, endV, runP, runF, runV, runW, startR, startV, dEmp, dChain, res, truR, Dn.tru, itemsOf, sNone, sSeq, sRg1, sRg2, sZip, sEnum, sFor, dApp, dPop, sBrk, sCnt, isNone, atI0, atI1, atI2, ixN3_0, ixN3_1, ixN3_2, ixN2_0, ixN2_1, noPins, e_add, e_addT, e_addL, e_sub, e_mul, e_mulL, e_mulT, e_div, e_mod, e_neg, e_eqI, e_neI, e_eqB, e_eqT, e_eqL, e_neT, e_neL, e_cmp, e_is, e_isnot, e_ixL, e_ixT, e_lenL, e_lenT, e_tupL, e_tupT, e_lstL, e_lstT, e_int, e_intB, e_abs, e_sum, e_divmod, e_gcd, e_max, e_min, e_isi, e_cutL, e_cutT, rg_ok (n := n) (by omega), rg_map]) (by simp [fr, dLoc, dCon, dNil, dCons, dOp, dTup, dLst, looks, look, frz, dCall, dCallV, dCallK, reord, sSeq2, sSkip, sExp, sRet, sRetN, sIf, sAsg, sAsgT, bVal, bTru, bNot, bAnd, bOr, bYes, dAnd, dOr, dNot, dIf, tName, gsNil, gsCons, gTupD, Dn.tSub, Dn.valOf, asB, ownAt, asI, isPin, sl, dCut, iOf, iNo, fin, endV, runP, runF, runV, runW, startR, startV, dEmp, dChain, res, truR, Dn.tru, itemsOf, sNone, sSeq, sRg1, sRg2, sZip, sEnum, sFor, dApp, dPop, sBrk, sCnt, isNone, atI0, atI1, atI2, ixN3_0, ixN3_1, ixN3_2, ixN2_0, ixN2_1, noPins, e_add, e_addT, e_addL, e_sub, e_mul, e_mulL, e_mulT, e_div, e_mod, e_neg, e_eqI, e_neI, e_eqB, e_eqT, e_eqL, e_neT, e_neL, e_cmp, e_is, e_isnot, e_ixL, e_ixT, e_lenL, e_lenT, e_tupL, e_tupT, e_lstL, e_lstT, e_int, e_intB, e_abs, e_sum, e_divmod, e_gcd, e_max, e_min, e_isi, e_cutL, e_cutT]) (by simp; omega) (fun i hi => by
          by_cases z : i = k % n
          · have e : ((i : Int) == ((k % n : Nat) : Int)) = true := beq_iff_eq.mpr (by rw [z])
            unfold fr
            simp [stepC, dLoc, dCon, dNil, dCons, dOp, dTup, dLst, looks, look, frz, dCall, dCallV, dCallK, reord, sSeq2, sSkip, sExp, sRet, sRetN, sIf, sAsg, sAsgT, bVal, bTru, bNot, bAnd, bOr, bYes, dAnd, dOr, dNot, dIf, tName, gsNil, gsCons, gTupD, Dn.tSub, Dn.valOf, asB, ownAt, asI, isPin, sl, dCut, iOf, iNo, fin, endV, runP, runF, runV, runW, startR, startV, dEmp, dChain, res, truR, Dn.tru, itemsOf, sNone, sSeq, sRg1, sRg2, sZip, sEnum, sFor, dApp, dPop, sBrk, sCnt, isNone, atI0, atI1, atI2, ixN3_0, ixN3_1, ixN3_2, ixN2_0, ixN2_1, noPins, e_add, e_addT, e_addL, e_sub, e_mul, e_mulL, e_mulT, e_div, e_mod, e_neg, e_eqI, e_neI, e_eqB, e_eqT, e_eqL, e_neT, e_neL, e_cmp, e_is, e_isnot, e_ixL, e_ixT, e_lenL, e_lenT, e_tupL, e_tupT, e_lstL, e_lstT, e_int, e_intB, e_abs, e_sum, e_divmod, e_gcd, e_max, e_min, e_isi, e_cutL, e_cutT, mo, wipeR, e, z, -e_mod, -Int.natCast_emod]; rfl
          · have e : ((i : Int) == ((k % n : Nat) : Int)) = false := beq_eq_false_iff_ne.mpr fun q => z (by exact_mod_cast q)
            unfold fr
            simp [stepC, dLoc, dCon, dNil, dCons, dOp, dTup, dLst, looks, look, frz, dCall, dCallV, dCallK, reord, sSeq2, sSkip, sExp, sRet, sRetN, sIf, sAsg, sAsgT, bVal, bTru, bNot, bAnd, bOr, bYes, dAnd, dOr, dNot, dIf, tName, gsNil, gsCons, gTupD, Dn.tSub, Dn.valOf, asB, ownAt, asI, isPin, sl, dCut, iOf, iNo, fin, endV, runP, runF, runV, runW, startR, startV, dEmp, dChain, res, truR, Dn.tru, itemsOf, sNone, sSeq, sRg1, sRg2, sZip, sEnum, sFor, dApp, dPop, sBrk, sCnt, isNone, atI0, atI1, atI2, ixN3_0, ixN3_1, ixN3_2, ixN2_0, ixN2_1, noPins, e_add, e_addT, e_addL, e_sub, e_mul, e_mulL, e_mulT, e_div, e_mod, e_neg, e_eqI, e_neI, e_eqB, e_eqT, e_eqL, e_neT, e_neL, e_cmp, e_is, e_isnot, e_ixL, e_ixT, e_lenL, e_lenT, e_tupL, e_tupT, e_lstL, e_lstT, e_int, e_intB, e_abs, e_sum, e_divmod, e_gcd, e_max, e_min, e_isi, e_cutL, e_cutT, mo, wipeR, e, z, -e_mod, -Int.natCast_emod]; rfl)
      have e3 : (List.range n).filterMap (fun (i : Nat) => some (enc (if i = k % n then (1 : Rat) else 0))) = ((List.range n).map fun i => if i = k % n then (1 : Rat) else 0).map enc := by
        rw [filterMap_some, List.map_map]
        rfl
      rw [e3] at c2
      unfold fr at cc c2 ⊢
      simp only [Option.map_some] at cc c2 ⊢
      simp [bC, dLoc, dCon, dNil, dCons, dOp, dTup, dLst, looks, look, frz, dCall, dCallV, dCallK, reord, sSeq2, sSkip, sExp, sRet, sRetN, sIf, sAsg, sAsgT, bVal, bTru, bNot, bAnd, bOr, bYes, dAnd, dOr, dNot, dIf, tName, gsNil, gsCons, gTupD, Dn.tSub, Dn.valOf, asB, ownAt, asI, isPin, sl, dCut, iOf, iNo, fin, endV, runP, runF, runV, runW, startR, startV, dEmp, dChain, res, truR, Dn.tru, itemsOf, sNone, sSeq, sRg1, sRg2, sZip, sEnum, sFor, dApp, dPop, sBrk, sCnt, isNone, atI0, atI1, atI2, ixN3_0, ixN3_1, ixN3_2, ixN2_0, ixN2_1, noPins, e_add, e_addT, e_addL, e_sub, e_mul, e_mulL, e_mulT, e_div, e_mod, e_neg, e_eqI, e_neI, e_eqB, e_eqT, e_eqL, e_neT, e_neL, e_cmp, e_is, e_isnot, e_ixL, e_ixT, e_lenL, e_lenT, e_tupL, e_tupT, e_lstL, e_lstT, e_int, e_intB, e_abs, e_sum, e_divmod, e_gcd, e_max, e_min, e_isi, e_cutL, e_cutT, cc, fe, c2, wipeR, -List.map_map]
      rfl
    · obtain ⟨i, _, rfl⟩ := List.mem_map.mp hx
      by_cases z : i = k % n <;> simp [z]
theorem lD {n many : Nat} {xs : List D} {ws : List (List Rat × Rat)} {l pt : List Rat} {k bt : Option D} {off : Bool} (hn : n ≤ 5) (hw : ws.length ≤ 1000) (hl : l.length = n) (cl : ∀ x ∈ l, Cb 90 10 x) (hp : pt.length = n) (cp : ∀ x ∈ pt, Cb 30 7 x) :
    bD (fr xs n many k pt (ws.map wD) off (some (row l)) bt) = some (.nx (fr xs n many k pt ((ws ++ [(l, dotQ l pt)]).map wD) off (some (row l)) bt)) ∧ Cb 2700 23 (dotQ l pt) := by
  have d1 := law_dot_c (D := 90) (E := 30) (by decide) (by decide) b90 b30 cl cp (by omega) (by omega) (by omega) (by omega)
  have d2 := dot_c (D := 90) (E := 30) (by decide) (by decide) b90 b30 cl cp (by omega) (by omega) (by omega) (by omega)
  have d1 : F__law_dot [row l, row pt] = some (.v (enc (dotQ l pt))) := d1
  refine ⟨?_, d2.2.up (by omega)⟩
  have hz : ws.length < 1000000 := by omega
  simp [bD, fr, dLoc, dCon, dNil, dCons, dOp, dTup, dLst, looks, look, frz, dCall, dCallV, dCallK, reord, sSeq2, sSkip, sExp, sRet, sRetN, sIf, sAsg, sAsgT, bVal, bTru, bNot, bAnd, bOr, bYes, dAnd, dOr, dNot, dIf, tName, gsNil, gsCons, gTupD, Dn.tSub, Dn.valOf, asB, ownAt, asI, isPin, sl, dCut, iOf, iNo, fin, endV, runP, runF, runV, runW, startR, startV, dEmp, dChain, res, truR, Dn.tru, itemsOf, sNone, sSeq, sRg1, sRg2, sZip, sEnum, sFor, dApp, dPop, sBrk, sCnt, isNone, atI0, atI1, atI2, ixN3_0, ixN3_1, ixN3_2, ixN2_0, ixN2_1, noPins, e_add, e_addT, e_addL, e_sub, e_mul, e_mulL, e_mulT, e_div, e_mod, e_neg, e_eqI, e_neI, e_eqB, e_eqT, e_eqL, e_neT, e_neL, e_cmp, e_is, e_isnot, e_ixL, e_ixT, e_lenL, e_lenT, e_tupL, e_tupT, e_lstL, e_lstT, e_int, e_intB, e_abs, e_sum, e_divmod, e_gcd, e_max, e_min, e_isi, e_cutL, e_cutT, d1, hz, wD, wallD]

noncomputable def bBody : TSD := sSeq2 bA (sSeq2 bB (sSeq2 bC (sSeq2 bD sSkip)))
theorem seq_nx {s t : TSD} {ρ ρ' : Rho} (h : s ρ = some (.nx ρ')) : sSeq2 s t ρ = t ρ' := by
  unfold sSeq2
  rw [h]
/-- the walls drawn so far: the first has numbers of the first draw -/
structure Ws (n : Nat) (pt : List Rat) (ws : List (List Rat × Rat)) : Prop where
  all : ∀ w ∈ ws, w.1.length = n ∧ (∃ r ∈ w.1, r ≠ 0) ∧ (∀ x ∈ w.1, Cb 90 10 x) ∧ Cb 2700 23 w.2
  one : ∀ a c t, ws = (a, c) :: t → ∀ x ∈ a, Cb 30 7 x
theorem lBody {b n many : Nat} {xs : List D} {ws : List (List Rat × Rat)} {pt : List Rat} {r bt : Option D} {off : Bool} (h : VQ (b + (2 * n + 2)) xs) (h1 : 1 ≤ n) (hn : n ≤ 5) (hw : ws.length ≤ 1000) (hp : pt.length = n) (cp : ∀ x ∈ pt, Cb 30 7 x) (H : Ws n pt ws) :
    ∃ w xs' r' bt', bBody (fr xs n many (some (.int (ws.length : Int))) pt (ws.map wD) off r bt) = some (.nx (fr xs' n many (some (.int (ws.length : Int))) pt ((ws ++ [w]).map wD) off (some r') (some bt'))) ∧ Ws n pt (ws ++ [w]) ∧ VQ b xs' := by
  obtain ⟨l, β, x1, e1, l1, c1, cβ, v1⟩ := lA (b := b + 1) (many := many) (fs := ws.map wD) (k := some (.int (ws.length : Int))) (r := r) (bt := bt) (pt := pt) (off := off) (h.less (by omega)) (n := n) (by omega)
  obtain ⟨l', x2, e2, l2, c2, k2, v2⟩ := lB (b := b) (k := ws.length) (many := many) (pt := pt) (off := off) (ws := ws) v1 (by omega) l1 c1 cβ (fun q => by
    match ws, H, q with
    | (a, c) :: t, H, _ => exact ⟨a, c, t, rfl, (H.all (a, c) List.mem_cons_self).1, H.one a c t rfl⟩)
  obtain ⟨l3, e3, h3, nz, o3⟩ := lC (k := ws.length) (many := many) (xs := x2) (fs := ws.map wD) (pt := pt) (off := off) (bt := some (enc β)) h1 hn hw l2
  have c3 : ∀ x ∈ l3, Cb 90 10 x := by
    rcases o3 with rfl | o3
    · exact c2
    · intro x hx
      rcases o3 x hx with rfl | rfl
      · exact ⟨0, by decide +kernel, by unfold Bd; decide⟩
      · exact ⟨90, by decide +kernel, by unfold Bd; decide⟩
  obtain ⟨e4, c4⟩ := lD (xs := x2) (many := many) (ws := ws) (k := some (.int (ws.length : Int))) (bt := some (enc β)) (off := off) hn hw h3 c3 hp cp
  refine ⟨(l3, dotQ l3 pt), x2, row l3, enc β, ?_, ⟨fun w hw => ?_, fun a c t q => ?_⟩, v2⟩
  · rw [bBody, seq_nx e1, seq_nx e2, seq_nx e3, seq_nx e4]
    rfl
  · rcases List.mem_append.mp hw with hw | hw
    · exact H.all w hw
    · rw [List.mem_singleton.mp hw]
      exact ⟨h3, nz, c3, c4⟩
  · match ws, H, k2, q with
    | [], _, k2, q =>
      cases q
      have := k2 rfl
      subst this
      rcases o3 with rfl | o3
      · exact c1
      · intro x hx
        rcases o3 x hx with rfl | rfl
        · exact ⟨0, by decide +kernel, by unfold Bd; decide⟩
        · exact ⟨30, by decide +kernel, by unfold Bd; decide⟩
    | (a', c') :: t', H, _, q =>
      cases q
      exact H.one _ _ _ rfl
theorem fence_eq : d__law_fence = (sSeq2 (sAsgT (dCons (dCallV F__law_row (dCons (dLoc 0) (dCons (dLoc 1) dNil))) (dCons (dLst dNil) (dCons (dOp pEq (dCons (dCallV F__law_draw (dCons (dLoc 0) (dCons (dCon (.int 3)) dNil))) (dCons (dCon (.int 0)) dNil))) dNil))) 3 (gsCons (tName 4) (gsCons (tName 5) (gsCons (tName 6) gsNil))))
  (sSeq2 (sFor (sRg1 (dLoc 2)) (tName 3) bBody)
  (sSeq2 (sIf (bTru (dLoc 6)) (sSeq2 (sAsg (dCallV F__law_draw (dCons (dLoc 0) (dCons (dLoc 2) dNil))) (tName 7))
  (sSeq2 (sAsg (dTup (dCons (dOp pIx (dCons (dOp pIx (dCons (dLoc 5) (dCons (dLoc 7) dNil))) (dCons (dCon (.int 0)) dNil))) (dCons (dCall F__law_plus (dCons (dOp pIx (dCons (dOp pIx (dCons (dLoc 5) (dCons (dLoc 7) dNil))) (dCons (dCon (.int 1)) dNil))) (dCons (dCallV F__law_pick (dCons (dLoc 0) (dCons (dTup (dCons (dTup (dCons (dCon (.int 1)) (dCons (dCon (.int 1)) dNil))) (dCons (dTup (dCons (dOp pNeg (dCons (dCon (.int 1)) dNil)) (dCons (dCon (.int 2)) dNil))) (dCons (dTup (dCons (dCon (.int 3)) (dCons (dCon (.int 1)) dNil))) dNil)))) dNil))) dNil))) dNil))) (tSub 5 (dLoc 7)))
  sSkip)) sSkip)
  (sSeq2 (sRet (dOp pTuple (dCons (dLoc 5) dNil)))
  sSkip)))) := rfl
theorem fence_spec {b n many : Nat} {xs : List D} (h : VQ (b + 2 * n + many * (2 * n + 2) + 3) xs) (h1 : 1 ≤ n) (hn : n ≤ 5) (m1 : 1 ≤ many) (m2 : many ≤ 6) :
    ∃ ws xs', F__law_fence xs [.int (n : Int), .int (many : Int)] = some (.v (fD ws), xs') ∧ ws.length = many ∧ (∀ w ∈ ws, Wl n w.1 w.2) ∧ VQ b xs' := by
  obtain ⟨pt, x1, e1, l1, c1, v1⟩ := row_spec (b := b + many * (2 * n + 2) + 3) (n := n) (xs := xs) (h.less (by omega)) (by omega)
  obtain ⟨o, x2, e2, o0, o1, v2⟩ := draw_spec (b := b + many * (2 * n + 2) + 2) (m := 3) v1 (by decide) (by decide)
  rw [← x_draw] at e2
  have lp : ∀ (j k : Nat) (xs : List D) (ws : List (List Rat × Rat)) (kk r bt : Option D), ws.length = k → k + j ≤ 6 → Ws n pt ws → VQ (b + 2 + j * (2 * n + 2)) xs →
      ∃ ws' xs' kk' r' bt', loopF (tName 3) bBody ((List.range' k j).map fun (i : Nat) => PyData.int (i : Int)) (fr xs n many kk pt (ws.map wD) (o == 0) r bt) = some (.nx (fr xs' n many kk' pt (ws'.map wD) (o == 0) r' bt')) ∧ ws'.length = k + j ∧ Ws n pt ws' ∧ VQ (b + 2) xs' := by
    intro j
    induction j with
    | zero => exact fun k xs ws kk r bt hk _ H v => ⟨ws, xs, kk, r, bt, rfl, hk, H, v.less (by omega)⟩
    | succ j ih =>
      intro k xs ws kk r bt hk hj H v
      subst hk
      obtain ⟨w, x1, r1, bt1, e, H1, v1⟩ := lBody (b := b + 2 + j * (2 * n + 2)) (many := many) (r := r) (bt := bt) (off := (o == 0)) (ws := ws) (by rw [Nat.succ_mul] at v; exact v.less (by omega)) h1 hn (by omega) l1 c1 H
      obtain ⟨ws', x2, kk', r', bt', e', l', H', v'⟩ := ih (ws.length + 1) x1 (ws ++ [w]) (some (.int (ws.length : Int))) (some r1) (some bt1) (by simp) (by omega) H1 v1
      refine ⟨ws', x2, kk', r', bt', ?_, by omega, H', v'⟩
      rw [← e', List.range'_succ, List.map_cons, loopF]
      have t : tName 3 (.v (.int (ws.length : Int))) (fr xs n many kk pt (ws.map wD) (o == 0) r bt) = some (fr xs n many (some (.int (ws.length : Int))) pt (ws.map wD) (o == 0) r bt) := by
        cases kk <;> simp [fr, dLoc, dCon, dNil, dCons, dOp, dTup, dLst, looks, look, frz, dCall, dCallV, dCallK, reord, sSeq2, sSkip, sExp, sRet, sRetN, sIf, sAsg, sAsgT, bVal, bTru, bNot, bAnd, bOr, bYes, dAnd, dOr, dNot, dIf, tName, gsNil, gsCons, gTupD, Dn.tSub, Dn.valOf, asB, ownAt, asI, isPin, sl, dCut, iOf, iNo, fin, endV, runP, runF, runV, runW, startR, startV, dEmp, dChain, res, truR, Dn.tru, itemsOf, sNone, sSeq, sRg1, sRg2, sZip, sEnum, sFor, dApp, dPop, sBrk, sCnt, isNone, atI0, atI1, atI2, ixN3_0, ixN3_1, ixN3_2, ixN2_0, ixN2_1, noPins, e_add, e_addT, e_addL, e_sub, e_mul, e_mulL, e_mulT, e_div, e_mod, e_neg, e_eqI, e_neI, e_eqB, e_eqT, e_eqL, e_neT, e_neL, e_cmp, e_is, e_isnot, e_ixL, e_ixT, e_lenL, e_lenT, e_tupL, e_tupT, e_lstL, e_lstT, e_int, e_intB, e_abs, e_sum, e_divmod, e_gcd, e_max, e_min, e_isi, e_cutL, e_cutT]
      rw [t]
      simp only [e]
  obtain ⟨ws, x3, kk, r, bt, e3, l3, H3, v3⟩ := lp many 0 x2 [] none none none rfl (by omega) ⟨fun w hw => (nomatch hw), fun a c t q => (nomatch q)⟩ (v2.less (by omega))
  rw [← List.range_eq_range'] at e3
  have up : ∀ {y : Rat}, Cb 2700 23 y → Cb 5400 26 y := fun c => (c.scale (e := 2) (k := 2) (by unfold Bd; decide) (by decide)).up (by decide)
  have wl : ∀ w ∈ ws, Wl n w.1 w.2 := fun w hw => by
    obtain ⟨a1, a2, a3, a4⟩ := H3.all w hw
    exact ⟨a1, h1, hn, a2, a3, up a4⟩
  by_cases z : o = 0
  · subst z
    obtain ⟨i, x4, e4, i0, i1, v4⟩ := draw_spec (b := b + 1) (m := (many : Int)) v3 (by omega) (by omega)
    obtain ⟨d, x5, e5, m5, v5⟩ := pick_T (b := b) (ds := [.tuple [.int 1, .int 1], .tuple [.int (-1), .int 2], .tuple [.int 3, .int 1]]) v4 (by simp) (by simp)
    rw [← x_draw] at e4
    rw [← x_pick] at e5
    obtain ⟨β, rfl, cβ⟩ : ∃ β : Rat, d = enc β ∧ Cb 2 3 β := by
      simp only [List.mem_cons, List.not_mem_nil, or_false] at m5
      rcases m5 with rfl | rfl | rfl
      · exact ⟨1, rfl, ⟨2, by decide +kernel, by unfold Bd; decide⟩⟩
      · exact ⟨Rat.divInt (-1) 2, rfl, ⟨-1, by decide +kernel, by unfold Bd; decide⟩⟩
      · exact ⟨3, rfl, ⟨6, by decide +kernel, by unfold Bd; decide⟩⟩
    obtain ⟨j, rfl⟩ : ∃ j : Nat, i = (j : Int) := ⟨i.toNat, by omega⟩
    have hj : j < ws.length := by omega
    have hm : ws[j] ∈ ws := List.getElem_mem hj
    have ix : atI (ws.map wD) (j : Int) = some (wD ws[j]) := by rw [atI_at rfl, List.getElem?_map, List.getElem?_eq_getElem hj]; rfl
    have ixn : ixN (ws.map wD).length (j : Int) = some j := by
      unfold ixN
      rw [if_pos (by omega), if_pos (by rw [List.length_map]; omega)]
      simp
    rw [List.length_map] at ixn
    obtain ⟨a1, a2, a3, a4⟩ := H3.all _ hm
    have b4 : Cb 5400 25 (ws[j].2) := (a4.scale (e := 2) (k := 2) (by unfold Bd; decide) (by decide)).up (by decide)
    have bβ : Cb 5400 15 β := by
      have := cβ.scale (e := 2700) (k := 12) (by unfold Bd; decide) (by decide)
      exact this
    have sm : Cb 5400 26 (ws[j].2 + β) := (b4.add (by decide) bβ).up (by omega)
    have p := plus_q (b4.rb (by decide) b5400) (bβ.rb (by decide) b5400) (by decide) (by decide) (by decide)
    rw [← x_plus] at p
    refine ⟨ws.set j (ws[j].1, ws[j].2 + β), x5, ?_, by rw [List.length_set]; omega, fun w hw => ?_, v5⟩
    · have se : (ws.set j (ws[j].1, ws[j].2 + β)).map wD = (ws.map wD).set j (.tuple [row ws[j].1, enc (ws[j].2 + β)]) := by rw [List.map_set]; rfl
      unfold fr at e3
      have ix' : atI (ws.map wD) (j : Int) = some (.tuple [row ws[j].1, enc ws[j].2]) := ix
      rw [show ((0 : Int) == 0) = true from rfl] at e3
      simp only [Option.map_none, List.map_nil] at e3
      rw [F__law_fence, fence_eq]
      cases kk <;> cases r <;> cases bt <;> (simp only [Option.map_none, Option.map_some] at e3; simp [dLoc, dCon, dNil, dCons, dOp, dTup, dLst, looks, look, frz, dCall, dCallV, dCallK, reord, sSeq2, sSkip, sExp, sRet, sRetN, sIf, sAsg, sAsgT, bVal, bTru, bNot, bAnd, bOr, bYes, dAnd, dOr, dNot, dIf, tName, gsNil, gsCons, gTupD, Dn.tSub, Dn.valOf, asB, ownAt, asI, isPin, sl, dCut, iOf, iNo, fin, endV, runP, runF, runV, runW, startR, startV, dEmp, dChain, res, truR, Dn.tru, itemsOf, sNone, sSeq, sRg1, sRg2, sZip, sEnum, sFor, dApp, dPop, sBrk, sCnt, isNone, atI0, atI1, atI2, ixN3_0, ixN3_1, ixN3_2, ixN2_0, ixN2_1, noPins, e_add, e_addT, e_addL, e_sub, e_mul, e_mulL, e_mulT, e_div, e_mod, e_neg, e_eqI, e_neI, e_eqB, e_eqT, e_eqL, e_neT, e_neL, e_cmp, e_is, e_isnot, e_ixL, e_ixT, e_lenL, e_lenT, e_tupL, e_tupT, e_lstL, e_lstT, e_int, e_intB, e_abs, e_sum, e_divmod, e_gcd, e_max, e_min, e_isi, e_cutL, e_cutT, e1, e2, rg_ok (n := many) (by omega), rg_map, e3, e4, ix', e5, p, ixn, fD, se])
    · rcases List.mem_or_eq_of_mem_set hw with hw | rfl
      · exact wl w hw
      · exact ⟨a1, h1, hn, a2, a3, sm⟩
  · have zb : (o == 0) = false := beq_eq_false_iff_ne.mpr z
    refine ⟨ws, x3, ?_, by omega, wl, v3.less (by omega)⟩
    unfold fr at e3
    rw [zb] at e3
    simp only [Option.map_none, List.map_nil] at e3
    rw [F__law_fence, fence_eq]
    cases kk <;> cases r <;> cases bt <;> (simp only [Option.map_none, Option.map_some] at e3; simp [dLoc, dCon, dNil, dCons, dOp, dTup, dLst, looks, look, frz, dCall, dCallV, dCallK, reord, sSeq2, sSkip, sExp, sRet, sRetN, sIf, sAsg, sAsgT, bVal, bTru, bNot, bAnd, bOr, bYes, dAnd, dOr, dNot, dIf, tName, gsNil, gsCons, gTupD, Dn.tSub, Dn.valOf, asB, ownAt, asI, isPin, sl, dCut, iOf, iNo, fin, endV, runP, runF, runV, runW, startR, startV, dEmp, dChain, res, truR, Dn.tru, itemsOf, sNone, sSeq, sRg1, sRg2, sZip, sEnum, sFor, dApp, dPop, sBrk, sCnt, isNone, atI0, atI1, atI2, ixN3_0, ixN3_1, ixN3_2, ixN2_0, ixN2_1, noPins, e_add, e_addT, e_addL, e_sub, e_mul, e_mulL, e_mulT, e_div, e_mod, e_neg, e_eqI, e_neI, e_eqB, e_eqT, e_eqL, e_neT, e_neL, e_cmp, e_is, e_isnot, e_ixL, e_ixT, e_lenL, e_lenT, e_tupL, e_tupT, e_lstL, e_lstT, e_int, e_intB, e_abs, e_sum, e_divmod, e_gcd, e_max, e_min, e_isi, e_cutL, e_cutT, e1, e2, zb, rg_ok (n := many) (by omega), rg_map, e3, fD])
end K84

set_option Elab.async false
set_option linter.all false
set_option maxRecDepth 100000
set_option maxHeartbeats 4000000
namespace K84
open PySem PySem.Spec PyProof.Rows L2 Dn Pl Pq
/-! ### strange fences are known alike -/
theorem known_one {n L F : Nat} {d : D} (h : OKD n L F d) (hL : L ≤ 1000) (hn : n ≤ 9000) : F__law_are_fence [d] = some (.v (.bool (isFence d))) ∧ F_is_fence [d] = some (.v (.bool (isFence d))) ∧ pRepr [.list [.bool (isFence d), .bool (isFence d)]] = some (.v (.str (PyData.list [.bool (isFence d), .bool (isFence d)]).shown)) ∧ SeqAt.shaped (.str (PyData.list [.bool (isFence d), .bool (isFence d)]).shown) = true := by
  obtain ⟨h1, h2⟩ := show_ok (B := 1) (d := .list [.bool (isFence d), .bool (isFence d)]) (by decide) (by decide) rfl (by simp [PyData.depth, PyData.depthAll]) (by simp [chs, chsA])
  exact ⟨law_are_fence_q h hL hn, is_fence_p h hL, h1, h2⟩
noncomputable section
def kBody : TSD := (sSeq2 (sAsg (dCall F__law_are_fence (dCons (dLoc 4) dNil)) (tName 7))
  (sSeq2 (sIf (bVal (dOp pNe (dCons (dOp pRepr (dCons (dLst (dCons (dCall F_is_fence (dCons (dLoc 4) dNil)) (dCons (dCallK F_is_fence 1 [0] (dCons (dLoc 4) dNil)) dNil))) dNil)) (dCons (dOp pRepr (dCons (dLst (dCons (dLoc 7) (dCons (dLoc 7) dNil))) dNil)) dNil)))) (sSeq2 (sRet (dCon (.bool false)))
  sSkip) sSkip)
  sSkip))
def kA : TSD := (sAsg (dLst (dCons (dLoc 2) (dCons (dCallV (F__law_bent 12) (dCons (dLoc 0) (dCons (dLoc 2) dNil))) (dCons (dCallV (F__law_bent 12) (dCons (dLoc 0) (dCons (dCallV (F__law_bent 12) (dCons (dLoc 0) (dCons (dLoc 2) dNil))) dNil))) (dCons (dCallV F__law_strange (dCons (dLoc 0) dNil)) (dCons (dOp pAdd (dCons (dLoc 2) (dCons (dLoc 2) dNil))) dNil)))))) (tName 3))
end
theorem known_loop {n L F : Nat} (hL : L ≤ 1000) (hn : n ≤ 9000) {s0 s1 s2 s3 s5 s6 : Option Slot} : ∀ (ds : List D) (i4 i7 : Option D), (∀ d ∈ ds, OKD n L F d) →
    ∃ j4 j7, loopF (tName 4) kBody ds [s0, s1, s2, s3, i4.map Slot.val, s5, s6, i7.map Slot.val] = some (.nx [s0, s1, s2, s3, Option.map Slot.val j4, s5, s6, Option.map Slot.val j7])
  | [], i4, i7, _ => ⟨i4, i7, rfl⟩
  | d :: ds, i4, i7, h => by
    obtain ⟨j4, j7, e⟩ := known_loop hL hn ds (some d) (some (.bool (isFence d))) (fun x hx => h x (List.mem_cons_of_mem _ hx)) (s0 := s0) (s1 := s1) (s2 := s2) (s3 := s3) (s5 := s5) (s6 := s6)
    obtain ⟨k1, k2, k3, k4⟩ := known_one (h d List.mem_cons_self) hL hn
    refine ⟨j4, j7, ?_⟩
    rw [← e, loopF]
    cases i4 <;> cases i7 <;> simp [kBody, dLoc, dCon, dNil, dCons, dOp, dTup, dLst, looks, look, frz, dCall, dCallV, dCallK, reord, sSeq2, sSkip, sExp, sRet, sRetN, sIf, sAsg, sAsgT, bVal, bTru, bNot, bAnd, bOr, bYes, dAnd, dOr, dNot, dIf, tName, gsNil, gsCons, gTupD, Dn.tSub, Dn.valOf, asB, ownAt, asI, isPin, sl, dCut, iOf, iNo, fin, endV, runP, runF, runV, runW, startR, startV, dEmp, dChain, res, truR, Dn.tru, itemsOf, sNone, sSeq, sRg1, sRg2, sZip, sEnum, sFor, dApp, dPop, sBrk, sCnt, isNone, atI0, atI1, atI2, ixN3_0, ixN3_1, ixN3_2, ixN2_0, ixN2_1, noPins, e_add, e_addT, e_addL, e_sub, e_mul, e_mulL, e_mulT, e_div, e_mod, e_neg, e_eqI, e_neI, e_eqB, e_eqT, e_eqL, e_neT, e_neL, e_cmp, e_is, e_isnot, e_ixL, e_ixT, e_lenL, e_lenT, e_tupL, e_tupT, e_lstL, e_lstT, e_int, e_intB, e_abs, e_sum, e_divmod, e_gcd, e_max, e_min, e_isi, e_cutL, e_cutT, k1, k2, k3, ne_shown k4]
theorem kA_spec {b : Nat} {xs ds : List D} {i : D} {s4 s5 s6 s7 : Option Slot} (hd : OKD 81 6 4 (.tuple ds)) (hv : VQ (b + 60) xs) :
    ∃ d1 d2 d3 xs', kA [some (.own true xs), some (.val i), some (.val (.tuple ds)), none, s4, s5, s6, s7] = some (.nx [some (.own true xs'), some (.val i), some (.val (.tuple ds)), some (.own false [.tuple ds, d1, d2, d3, .tuple (ds ++ ds)]), s4, s5, s6, s7]) ∧ OKD 82 7 8 d1 ∧ OKD 83 8 12 d2 ∧ OKD 81 6 4 d3 ∧ VQ b xs' := by
  obtain ⟨r1, x1, e1, v1, q1⟩ := bent_spec (n := 81) (L := 6) (by decide) (by decide) (by decide) (by decide) 4 (b + 45) xs _ 12 (by decide) hd (hv.less (by omega))
  obtain ⟨r2, x2, e2, v2, q2⟩ := bent_spec (n := 81) (L := 6) (by decide) (by decide) (by decide) (by decide) 4 (b + 30) x1 _ 12 (by decide) hd (q1.less (by omega))
  have vd : ∀ {n L F : Nat} {r : Dn.R}, Val n L F r → ∃ d, OKD n L F d ∧ (r = .v d ∨ ∃ es, r = .o es ∧ d = .list es) := fun {n L F r} h => by
    rcases h with ⟨d, rfl, o⟩ | ⟨es, rfl⟩
    · exact ⟨d, o, .inl rfl⟩
    · exact ⟨.list es, by cases F <;> trivial, .inr ⟨es, rfl, rfl⟩⟩
  obtain ⟨d1, o1, w1⟩ := vd v1
  obtain ⟨d2, o2, w2⟩ := vd v2
  obtain ⟨r3, x3, e3, v3, q3⟩ := bent_spec (n := 82) (L := 7) (by decide) (by decide) (by decide) (by decide) 8 (b + 1) x2 d2 12 (by decide) o2 (q2.less (by omega))
  obtain ⟨d3, o3, w3⟩ := vd v3
  obtain ⟨d4, x4, e4, o4, q4⟩ := strange_spec q3
  have l6 : ds.length ≤ 6 := hd.1
  refine ⟨d1, d3, d4, x4, ?_, o1, o3, o4, q4⟩
  have ad : pAdd [.tuple ds, .tuple ds] = some (.v (.tuple (ds ++ ds))) := e_addT (by omega)
  rcases w1 with rfl | ⟨es1, rfl, rfl⟩ <;> rcases w2 with rfl | ⟨es2, rfl, rfl⟩ <;> rcases w3 with rfl | ⟨es3, rfl, rfl⟩ <;> simp [kA, dLoc, dCon, dNil, dCons, dOp, dTup, dLst, looks, look, frz, dCall, dCallV, dCallK, reord, sSeq2, sSkip, sExp, sRet, sRetN, sIf, sAsg, sAsgT, bVal, bTru, bNot, bAnd, bOr, bYes, dAnd, dOr, dNot, dIf, tName, gsNil, gsCons, gTupD, Dn.tSub, Dn.valOf, asB, ownAt, asI, isPin, sl, dCut, iOf, iNo, fin, endV, runP, runF, runV, runW, startR, startV, dEmp, dChain, res, truR, Dn.tru, itemsOf, sNone, sSeq, sRg1, sRg2, sZip, sEnum, sFor, dApp, dPop, sBrk, sCnt, isNone, atI0, atI1, atI2, ixN3_0, ixN3_1, ixN3_2, ixN2_0, ixN2_1, noPins, e_add, e_addT, e_addL, e_sub, e_mul, e_mulL, e_mulT, e_div, e_mod, e_neg, e_eqI, e_neI, e_eqB, e_eqT, e_eqL, e_neT, e_neL, e_cmp, e_is, e_isnot, e_ixL, e_ixT, e_lenL, e_lenT, e_tupL, e_tupT, e_lstL, e_lstT, e_int, e_intB, e_abs, e_sum, e_divmod, e_gcd, e_max, e_min, e_isi, e_cutL, e_cutT, e1, e2, e3, e4, ad, -e_addT]
end K84

set_option Elab.async false
set_option linter.all false
set_option maxRecDepth 100000
set_option maxHeartbeats 4000000
namespace K84
open PySem PySem.Spec PyProof.Rows L2 Dn Pl Pq
theorem is_known_eq : d__law_is_known = (sSeq2 (sAsgT (dCons (dOp pMul (dCons (dTup (dCons (dTup (dCons (dCon (.int 0)) (dCons (dCon (.int 1)) dNil))) dNil)) (dCons (dLoc 1) dNil))) (dCons (dOp pMul (dCons (dTup (dCons (dTup (dCons (dCon (.int 1)) (dCons (dCon (.int 1)) dNil))) dNil)) (dCons (dOp pAdd (dCons (dLoc 1) (dCons (dCon (.int 1)) dNil))) dNil))) dNil)) 2 (gsCons (tName 5) (gsCons (tName 6) gsNil)))
  (sSeq2 kA
  (sSeq2 (sAsg (dOp pAdd (dCons (dLoc 3) (dCons (dLst (dCons (dOp pList (dCons (dLoc 2) dNil)) (dCons (dOp pAdd (dCons (dLoc 2) (dCons (dTup (dCons (dTup (dCons (dLoc 5) (dCons (dTup (dCons (dCon (.int 0)) (dCons (dCon (.int 1)) dNil))) dNil))) dNil)) dNil))) (dCons (dOp pAdd (dCons (dCut (dLoc 2) iNo (iOf (dCon (.int 1)))) (dCons (dTup (dCons (dTup (dCons (dLoc 6) (dCons (dTup (dCons (dCon (.int 1)) (dCons (dCon (.int 1)) dNil))) dNil))) dNil)) dNil))) (dCons (dTup dNil) (dCons (dOp pIx (dCons (dLoc 2) (dCons (dCon (.int 0)) dNil))) dNil)))))) dNil))) (tName 3))
  (sSeq2 (sExp (dApp 3 (dOp pMul (dCons (dTup (dCons (dTup (dCons (dLoc 6) (dCons (dTup (dCons (dCon (.int 0)) (dCons (dCon (.int 1)) dNil))) dNil))) dNil)) (dCons (dCon (.int 6)) dNil)))))
  (sSeq2 (sFor (sSeq (dLoc 3)) (tName 4) kBody)
  (sSeq2 (sRet (dCon (.bool true)))
  sSkip)))))) := rfl
theorem okd_const {n L F : Nat} {x : D} {k : Nat} (hx : OKD n L F x) (hk : k ≤ L) : OKD n L (F + 1) (.tuple (List.replicate k x)) :=
  ⟨by rw [List.length_replicate]; exact hk, fun d hd => by rw [List.eq_of_mem_replicate hd]; exact hx⟩
theorem okd_pair {n L F : Nat} {x y : D} (hx : OKD n L F x) (hy : OKD n L F y) (hL : 2 ≤ L) : OKD n L (F + 1) (.tuple [x, y]) :=
  ⟨hL, fun d hd => by
    simp only [List.mem_cons, List.not_mem_nil, or_false] at hd
    rcases hd with rfl | rfl
    · exact hx
    · exact hy⟩
theorem rep_one {α : Type} (x : α) (k : Nat) : (List.replicate k [x]).flatten = List.replicate k x := by
  induction k with
  | zero => rfl
  | succ k ih => rw [List.replicate_succ, List.flatten_cons, ih, List.replicate_succ]; rfl
theorem is_known_spec {b n : Nat} {xs : List D} {ws : List (List Rat × Rat)} (h : VQ (b + 60) xs) (h1 : 1 ≤ n) (hn : n ≤ 5) (h0 : 1 ≤ ws.length) (hl : ws.length ≤ 6) (hw : ∀ w ∈ ws, Wl n w.1 w.2) :
    ∃ xs', F__law_is_known xs [.int (n : Int), fD ws] = some (.v (.bool true), xs') ∧ VQ b xs' := by
  have of := okd_fence hl hw
  have m1 : pMul [.tuple [.tuple [.int 0, .int 1]], .int (n : Int)] = some (.v (.tuple (List.replicate n (.tuple [.int 0, .int 1])))) := by
    rw [e_mulT (by omega) (by omega) (by simp) (by simp) (by simp; omega), Int.toNat_natCast, rep_one]
  have m2 : pMul [.tuple [.tuple [.int 1, .int 1]], .int ((n : Int) + 1)] = some (.v (.tuple (List.replicate (n + 1) (.tuple [.int 1, .int 1])))) := by
    rw [e_mulT (by omega) (by omega) (by simp) (by simp) (by simp; omega), show ((n : Int) + 1).toNat = n + 1 by omega, rep_one]
  obtain ⟨six, hsix, m3⟩ : ∃ six, six = List.replicate 6 (PyData.tuple [.tuple (List.replicate (n + 1) (.tuple [.int 1, .int 1])), .tuple [.int 0, .int 1]]) ∧ pMul [.tuple [.tuple [.tuple (List.replicate (n + 1) (.tuple [.int 1, .int 1])), .tuple [.int 0, .int 1]]], .int 6] = some (.v (.tuple six)) := ⟨_, rfl, by
    rw [e_mulT (by omega) (by omega) (by simp) (by simp) (by simp), show (6 : Int).toNat = 6 from rfl, rep_one]⟩
  obtain ⟨d1, d2, d3, x1, e1, o1, o2, o3, v1⟩ := kA_spec (b := b) (i := .int (n : Int)) (s4 := none) (s5 := some (.val (.tuple (List.replicate n (.tuple [.int 0, .int 1]))))) (s6 := some (.val (.tuple (List.replicate (n + 1) (.tuple [.int 1, .int 1]))))) (s7 := none) of h
  obtain ⟨w0, hw0⟩ : ∃ w0, ws[0]? = some w0 := ⟨ws[0], List.getElem?_eq_getElem (by omega)⟩
  have ix : atI (ws.map wD) 0 = some (wD w0) := by
    have : atI (ws.map wD) ((0 : Nat) : Int) = some (wD w0) := by rw [atI_at rfl, List.getElem?_map, hw0]; rfl
    exact this
  have ct : Dn.cutD (ws.map wD) none (some 1) = (ws.map wD).take 1 := cut_take _ 1
  have lt : ((ws.map wD).take 1).length ≤ 6 := by rw [List.length_take, List.length_map]; omega
  have a1 : ∀ x : D, pAdd [.tuple (ws.map wD), .tuple [x]] = some (.v (.tuple (ws.map wD ++ [x]))) := fun x => e_addT (by rw [List.length_map, List.length_singleton]; omega)
  have a2 : ∀ x : D, pAdd [.tuple ((ws.map wD).take 1), .tuple [x]] = some (.v (.tuple ((ws.map wD).take 1 ++ [x]))) := fun x => e_addT (by rw [List.length_singleton]; omega)
  have p01 : OKD 83 12 10 (.tuple [.int 0, .int 1]) := okd_pair (by show Bd 83 0; unfold Bd; decide) (by show Bd 83 1; unfold Bd; decide) (by decide)
  have p11 : OKD 83 12 10 (.tuple [.int 1, .int 1]) := okd_pair (by show Bd 83 1; unfold Bd; decide) (by show Bd 83 1; unfold Bd; decide) (by decide)
  have q01 : OKD 83 12 9 (.tuple [.int 0, .int 1]) := okd_pair (by show Bd 83 0; unfold Bd; decide) (by show Bd 83 1; unfold Bd; decide) (by decide)
  have q11 : OKD 83 12 9 (.tuple [.int 1, .int 1]) := okd_pair (by show Bd 83 1; unfold Bd; decide) (by show Bd 83 1; unfold Bd; decide) (by decide)
  have n1 : OKD 83 12 10 (.tuple (List.replicate n (.tuple [.int 0, .int 1]))) := okd_const q01 (by omega)
  have n2 : OKD 83 12 10 (.tuple (List.replicate (n + 1) (.tuple [.int 1, .int 1]))) := okd_const q11 (by omega)
  have w1 : OKD 83 12 11 (.tuple [.tuple (List.replicate n (.tuple [.int 0, .int 1])), .tuple [.int 0, .int 1]]) := okd_pair n1 p01 (by decide)
  have w2 : OKD 83 12 11 (.tuple [.tuple (List.replicate (n + 1) (.tuple [.int 1, .int 1])), .tuple [.int 1, .int 1]]) := okd_pair n2 p11 (by decide)
  have w3 : OKD 83 12 11 (.tuple [.tuple (List.replicate (n + 1) (.tuple [.int 1, .int 1])), .tuple [.int 0, .int 1]]) := okd_pair n2 p01 (by decide)
  have ow : ∀ d ∈ ws.map wD, OKD 83 12 11 d := fun d hd => by
    obtain ⟨w, hw', rfl⟩ := List.mem_map.mp hd
    exact okd_up (by decide) (by decide) 3 11 _ (by decide) (okd_wall (hw w hw'))
  have one : ∀ {x : D}, OKD 83 12 11 x → ∀ d ∈ [x], OKD 83 12 11 d := fun hx d hd => by rw [List.mem_singleton.mp hd]; exact hx
  obtain ⟨j4, j7, e2⟩ := known_loop (n := 83) (L := 12) (F := 12) (by decide) (by decide) (s0 := some (.own true x1)) (s1 := some (.val (.int (n : Int)))) (s2 := some (.val (fD ws))) (s5 := some (.val (.tuple (List.replicate n (.tuple [.int 0, .int 1]))))) (s6 := some (.val (.tuple (List.replicate (n + 1) (.tuple [.int 1, .int 1])))))
    (s3 := some (.val (.list [.tuple (ws.map wD), d1, d2, d3, .tuple (ws.map wD ++ ws.map wD), .list (ws.map wD), .tuple (ws.map wD ++ [.tuple [.tuple (List.replicate n (.tuple [.int 0, .int 1])), .tuple [.int 0, .int 1]]]),
      .tuple ((ws.map wD).take 1 ++ [.tuple [.tuple (List.replicate (n + 1) (.tuple [.int 1, .int 1])), .tuple [.int 1, .int 1]]]), .tuple [], wD w0, .tuple (six)])))
    [.tuple (ws.map wD), d1, d2, d3, .tuple (ws.map wD ++ ws.map wD), .list (ws.map wD), .tuple (ws.map wD ++ [.tuple [.tuple (List.replicate n (.tuple [.int 0, .int 1])), .tuple [.int 0, .int 1]]]),
      .tuple ((ws.map wD).take 1 ++ [.tuple [.tuple (List.replicate (n + 1) (.tuple [.int 1, .int 1])), .tuple [.int 1, .int 1]]]), .tuple [], wD w0, .tuple (six)] none none (fun d hd => by
      simp only [List.mem_cons, List.not_mem_nil, or_false] at hd
      rcases hd with rfl | rfl | rfl | rfl | rfl | rfl | rfl | rfl | rfl | rfl | rfl
      · exact okd_up (by decide) (by decide) 4 12 _ (by decide) of
      · exact okd_up (by decide) (by decide) 8 12 _ (by decide) o1
      · exact okd_up (by decide) (by decide) 12 12 _ (by decide) o2
      · exact okd_up (by decide) (by decide) 4 12 _ (by decide) o3
      · exact okd_app ow ow (by rw [List.length_map]; omega)
      · trivial
      · exact okd_app ow (one w1) (by rw [List.length_map, List.length_singleton]; omega)
      · exact okd_app (fun d hd => ow d (List.mem_of_mem_take hd)) (one w2) (by rw [List.length_singleton]; omega)
      · exact ⟨by simp, fun d hd => (nomatch hd)⟩
      · exact okd_up (by decide) (by decide) 11 12 _ (by decide) (ow _ (List.mem_map_of_mem (List.mem_of_getElem? hw0)))
      · rw [hsix]; exact okd_const w3 (by decide))
  refine ⟨x1, ?_, v1⟩
  rw [F__law_is_known, is_known_eq]
  have al : ∀ x y z u v : D, pAdd [.list [x, y, z, u, v], .list [.list (ws.map wD), .tuple (ws.map wD ++ [.tuple [.tuple (List.replicate n (.tuple [.int 0, .int 1])), .tuple [.int 0, .int 1]]]), .tuple ((ws.map wD).take 1 ++ [.tuple [.tuple (List.replicate (n + 1) (.tuple [.int 1, .int 1])), .tuple [.int 1, .int 1]]]), .tuple [], wD w0]] = some (.o [x, y, z, u, v, .list (ws.map wD), .tuple (ws.map wD ++ [.tuple [.tuple (List.replicate n (.tuple [.int 0, .int 1])), .tuple [.int 0, .int 1]]]), .tuple ((ws.map wD).take 1 ++ [.tuple [.tuple (List.replicate (n + 1) (.tuple [.int 1, .int 1])), .tuple [.int 1, .int 1]]]), .tuple [], wD w0]) := fun x y z u v => e_addL (by simp)
  simp only [Option.map_none] at e2
  unfold fD at e2 ⊢
  simp [dLoc, dCon, dNil, dCons, dOp, dTup, dLst, looks, look, frz, dCall, dCallV, dCallK, reord, sSeq2, sSkip, sExp, sRet, sRetN, sIf, sAsg, sAsgT, bVal, bTru, bNot, bAnd, bOr, bYes, dAnd, dOr, dNot, dIf, tName, gsNil, gsCons, gTupD, Dn.tSub, Dn.valOf, asB, ownAt, asI, isPin, sl, dCut, iOf, iNo, fin, endV, runP, runF, runV, runW, startR, startV, dEmp, dChain, res, truR, Dn.tru, itemsOf, sNone, sSeq, sRg1, sRg2, sZip, sEnum, sFor, dApp, dPop, sBrk, sCnt, isNone, atI0, atI1, atI2, ixN3_0, ixN3_1, ixN3_2, ixN2_0, ixN2_1, noPins, e_add, e_addT, e_addL, e_sub, e_mul, e_mulL, e_mulT, e_div, e_mod, e_neg, e_eqI, e_neI, e_eqB, e_eqT, e_eqL, e_neT, e_neL, e_cmp, e_is, e_isnot, e_ixL, e_ixT, e_lenL, e_lenT, e_tupL, e_tupT, e_lstL, e_lstT, e_int, e_intB, e_abs, e_sum, e_divmod, e_gcd, e_max, e_min, e_isi, e_cutL, e_cutT, m1, m2, m3, e1, ix, ct, a1, a2, al, e2, -e_addT, -e_mulT, -e_addL, -List.map_take]
end K84

set_option Elab.async false
set_option linter.all false
set_option maxRecDepth 100000
set_option maxHeartbeats 4000000
namespace K84
open PySem PySem.Spec PyProof.Rows L2 Dn Pl Pq
/-! ### a lap -/
theorem apart_q {n t u : Nat} {x y : List Rat} (hx : x.length = n) (hy : y.length = n) (hn : n ≤ 5) (G : GI t x) (K : GI u y) (ht : t ≤ 400) (hu : u ≤ 400) :
    F__law_apart [row x, row y] = some (.v (enc (farQ x y))) ∧ RB (2 * (t + u + 1) + 5) (2 * (t + u)) (farQ x y) := by
  obtain ⟨D, D0, bD, hD⟩ := G
  obtain ⟨E, E0, bE, hE⟩ := K
  have l : (addQ x (-1) y).length = n := by rw [addQ_len (by omega), hy]
  have DE : D * E ≠ 0 := Int.mul_ne_zero D0 E0
  have bDE : Bd (t + u) (D * E) := bD.mul bE
  have c : ∀ r ∈ addQ x (-1) y, Cb (D * E) (t + u + 1) r := fun r hr => by
    obtain ⟨p, hp, q, hq, rfl⟩ := mem_addQ hr
    have c1 : Cb (D * E) (t + u) p := (hD p hp).scale bE E0
    have c2 : Cb (E * D) (u + t) q := (hE q hq).scale bD D0
    rw [Int.mul_comm E D] at c2
    have c3 := c1.sub DE c2
    have e : p + -1 * q = p - q := by grind
    rw [e]
    exact c3.up (by omega)
  have m1 : RB 1 1 (-1 : Rat) := ⟨by unfold Bd; decide, by unfold Bd; decide⟩
  have a := law_added_q (p := -1) (by omega) (by omega) (fun r hr => (hD r hr).rb D0 bD) (fun r hr => (hE r hr).rb E0 bE) m1 (by omega)
  have a : F__law_added [row x, .tuple [.int (-1), .int 1], row y] = some (.v (row (addQ x (-1) y))) := a
  have d := law_dot_c DE DE bDE bDE c c rfl (by omega) (by omega) (by omega)
  have d : F__law_dot [row (addQ x (-1) y), row (addQ x (-1) y)] = some (.v (enc (farQ x y))) := d
  have d2 := (dot_c DE DE bDE bDE c c rfl (by omega) (by omega) (by omega)).2
  refine ⟨?_, (d2.rb (Int.mul_ne_zero DE DE) (bDE.mul bDE)).up (by omega) (by omega)⟩
  simp [F__law_apart, d__law_apart, dLoc, dCon, dNil, dCons, dOp, dTup, dLst, looks, look, frz, dCall, dCallV, dCallK, reord, sSeq2, sSkip, sExp, sRet, sRetN, sIf, sAsg, sAsgT, bVal, bTru, bNot, bAnd, bOr, bYes, dAnd, dOr, dNot, dIf, tName, gsNil, gsCons, gTupD, Dn.tSub, Dn.valOf, asB, ownAt, asI, isPin, sl, dCut, iOf, iNo, fin, endV, runP, runF, runV, runW, startR, startV, dEmp, dChain, res, truR, Dn.tru, itemsOf, sNone, sSeq, sRg1, sRg2, sZip, sEnum, sFor, dApp, dPop, sBrk, sCnt, isNone, atI0, atI1, atI2, ixN3_0, ixN3_1, ixN3_2, ixN2_0, ixN2_1, noPins, e_add, e_addT, e_addL, e_sub, e_mul, e_mulL, e_mulT, e_div, e_mod, e_neg, e_eqI, e_neI, e_eqB, e_eqT, e_eqL, e_neT, e_neL, e_cmp, e_is, e_isnot, e_ixL, e_ixT, e_lenL, e_lenT, e_tupL, e_tupT, e_lstL, e_lstT, e_int, e_intB, e_abs, e_sum, e_divmod, e_gcd, e_max, e_min, e_isi, e_cutL, e_cutT, a, d]
theorem okR_enc {r : Rat} {n d B : Nat} (h : RB n d r) (hn : n ≤ 3 * B) (hd : d ≤ 3 * B) : okR B (enc r) = true := by
  unfold enc
  simp only [okR, okRA, Bool.and_true, Bool.and_eq_true, decide_eq_true_eq]
  exact ⟨lift10 h.num hn, lift10 h.den hd⟩
theorem show_row {t : Nat} {g : List Rat} (G : GI t g) (hg : g.length ≤ 5) (ht : t ≤ 400) : pRepr [row g] = some (.v (.str (row g).shown)) ∧ SeqAt.shaped (.str (row g).shown) = true := by
  refine show_ok (B := 150) (by decide) (by decide) ?_ ?_ ?_
  · show okRA 150 (g.map enc) = true
    exact okRA_map fun x hx => okR_enc (G.rb x hx) (by omega) (by omega)
  · have : PyData.depthAll (g.map enc) ≤ 1 := depthA_map fun x _ => by
      unfold enc
      simp [PyData.depth, PyData.depthAll]
    show PyData.depth (.tuple (g.map enc)) ≤ 64
    simp only [PyData.depth]
    omega
  · have := chsA_map (B := 150) (c := 2 * 150 + 9) (f := enc) (l := g) fun x _ => by
      simp only [enc, chs, chsA]; omega
    have h5 : g.length * (2 * 150 + 9 + 2) ≤ 5 * (2 * 150 + 9 + 2) := Nat.mul_le_mul_right _ hg
    show chsA 150 (g.map enc) + 3 ≤ 100000
    omega
theorem ne_enc (r : Rat) : pNe [enc r, enc r] = some (.v (.bool false)) := by
  unfold enc
  rw [e_ne shaped2 shaped2, eqv2]
  simp
theorem eqv_row (g : List Rat) : PyData.eqv (row g) (row g) = true := by
  have : PyData.eqvAll (g.map enc) (g.map enc) = true := by
    induction g with
    | nil => rfl
    | cons x g ih =>
      simp only [List.map_cons, PyData.eqvAll, ih, Bool.and_true]
      unfold enc
      rw [eqv2]
      simp
  exact this
end K84

set_option Elab.async false
set_option linter.all false
set_option maxRecDepth 100000
set_option maxHeartbeats 4000000
namespace K84
open PySem PySem.Spec PyProof.Rows L2 Dn Pl Pq
theorem p18 : pPow [.int 10, .int 18] = some (.v (.int 1000000000000000000)) := e_pow (by decide) (by decide) (by decide)
theorem pool_spec (ns : List Int) (lap : Nat) (h : lap < 4) : ∃ xs, F__law_pool [.list (ns.map .int), .int (lap : Int)] = some (.o xs) ∧ VQ 1000000 xs := by
  have f0 : ∀ x : Int, x.fmod 2147483629 = x % 2147483629 := fun x => Int.fmod_eq_emod_of_nonneg _ (by decide)
  have f2 : ∀ x : Int, x.fmod 2147483579 = x % 2147483579 := fun x => Int.fmod_eq_emod_of_nonneg _ (by decide)
  have f1 : ∀ x : Int, x.fmod 999953 = x % 999953 := fun x => Int.fmod_eq_emod_of_nonneg _ (by decide)
  have c6 : Dn.cutD (ns.map PyData.int) none (some 6) = (ns.take 6).map PyData.int := by rw [show (6 : Int) = ((6 : Nat) : Int) from rfl, cut_take, List.map_take]
  have c11 : Dn.cutD (ns.map PyData.int) none (some 11) = (ns.take 11).map PyData.int := by rw [show (11 : Int) = ((11 : Nat) : Int) from rfl, cut_take, List.map_take]
  have bl : Bd 2 (lap : Int) := by unfold Bd; omega
  have m1 : mulOk 6689 (lap : Int) = true := mul_ok (n := 13) (Bd.nat (by decide) (by decide)) bl (by decide)
  have m2 : mulOk 2797 (lap : Int) = true := mul_ok (n := 12) (Bd.nat (by decide) (by decide)) bl (by decide)
  obtain ⟨own, eo⟩ : ∃ own : Int, (dIf (bVal (dOp pLt (dCons (dLoc 1) (dCons (dOp pLen (dCons (dLoc 0) dNil)) dNil)))) (dOp pInt (dCons (dOp pIx (dCons (dLoc 0) (dCons (dLoc 1) dNil))) dNil)) (dOp pAdd (dCons (dOp pAdd (dCons (dOp pMul (dCons (dCon (.int 6689)) (dCons (dLoc 1) dNil))) (dCons (dCon (.int 311)) dNil))) (dCons (dOp pMod (dCons (dOp pInt (dCons (dOp pSum (dCons (dCut (dLoc 0) iNo (iOf (dCon (.int 6)))) dNil)) dNil)) (dCons (dCon (.int 999953)) dNil))) dNil))))
      [some (.val (.list (ns.map .int))), some (.val (.int (lap : Int))), none, none, none] = some (.v (.int own), [some (.val (.list (ns.map .int))), some (.val (.int (lap : Int))), none, none, none]) := by
    by_cases z : lap < ns.length
    · have z' : decide ((lap : Int) < (ns.length : Int)) = true := decide_eq_true (by omega)
      have ix : atI (ns.map PyData.int) (lap : Int) = some (.int ns[lap]) := by rw [atI_at rfl, List.getElem?_map, List.getElem?_eq_getElem z]; rfl
      exact ⟨ns[lap], by simp [dLoc, dCon, dNil, dCons, dOp, dTup, dLst, looks, look, frz, dCall, dCallV, dCallK, reord, sSeq2, sSkip, sExp, sRet, sRetN, sIf, sAsg, sAsgT, bVal, bTru, bNot, bAnd, bOr, bYes, dAnd, dOr, dNot, dIf, tName, gsNil, gsCons, gTupD, Dn.tSub, Dn.valOf, asB, ownAt, asI, isPin, sl, dCut, iOf, iNo, fin, endV, runP, runF, runV, runW, startR, startV, dEmp, dChain, res, truR, Dn.tru, itemsOf, sNone, sSeq, sRg1, sRg2, sZip, sEnum, sFor, dApp, dPop, sBrk, sCnt, isNone, atI0, atI1, atI2, ixN3_0, ixN3_1, ixN3_2, ixN2_0, ixN2_1, noPins, e_add, e_addT, e_addL, e_sub, e_mul, e_mulL, e_mulT, e_div, e_mod, e_neg, e_eqI, e_neI, e_eqB, e_eqT, e_eqL, e_neT, e_neL, e_cmp, e_is, e_isnot, e_ixL, e_ixT, e_lenL, e_lenT, e_tupL, e_tupT, e_lstL, e_lstT, e_int, e_intB, e_abs, e_sum, e_divmod, e_gcd, e_max, e_min, e_isi, e_cutL, e_cutT, z, ix]⟩
    · exact ⟨6689 * lap + 311 + (ns.take 6).sum % 999953, by simp [dLoc, dCon, dNil, dCons, dOp, dTup, dLst, looks, look, frz, dCall, dCallV, dCallK, reord, sSeq2, sSkip, sExp, sRet, sRetN, sIf, sAsg, sAsgT, bVal, bTru, bNot, bAnd, bOr, bYes, dAnd, dOr, dNot, dIf, tName, gsNil, gsCons, gTupD, Dn.tSub, Dn.valOf, asB, ownAt, asI, isPin, sl, dCut, iOf, iNo, fin, endV, runP, runF, runV, runW, startR, startV, dEmp, dChain, res, truR, Dn.tru, itemsOf, sNone, sSeq, sRg1, sRg2, sZip, sEnum, sFor, dApp, dPop, sBrk, sCnt, isNone, atI0, atI1, atI2, ixN3_0, ixN3_1, ixN3_2, ixN2_0, ixN2_1, noPins, e_add, e_addT, e_addL, e_sub, e_mul, e_mulL, e_mulT, e_div, e_mod, e_neg, e_eqI, e_neI, e_eqB, e_eqT, e_eqL, e_neT, e_neL, e_cmp, e_is, e_isnot, e_ixL, e_ixT, e_lenL, e_lenT, e_tupL, e_tupT, e_lstL, e_lstT, e_int, e_intB, e_abs, e_sum, e_divmod, e_gcd, e_max, e_min, e_isi, e_cutL, e_cutT, z, c6, m1, f1, -List.map_take]⟩
  have key := loopF_inv (tgt := tName 4) (body := (sSeq2 (sAsg (dOp pMod (dCons (dOp pInt (dCons (dOp pAdd (dCons (dOp pAdd (dCons (dOp pMul (dCons (dLoc 3) (dCons (dCon (.int 39373)) dNil))) (dCons (dOp pMod (dCons (dOp pInt (dCons (dLoc 4) dNil)) (dCons (dCon (.int 2147483579)) dNil))) dNil))) (dCons (dCon (.int 37)) dNil))) dNil)) (dCons (dCon (.int 2147483629)) dNil))) (tName 3)) sSkip))
    (ds := (ns.take 11).map PyData.int ++ [.int own]) (ρ := [some (.val (.list (ns.map .int))), some (.val (.int (lap : Int))), some (.val (.int own)), some (.val (.int (84307 + 2797 * (lap : Int)))), none])
    (Inv := fun ds ρ => ∃ (st : Int) (e : Option D), ρ = [some (.val (.list (ns.map .int))), some (.val (.int (lap : Int))), some (.val (.int own)), some (.val (.int st)), e.map Slot.val] ∧ 0 ≤ st ∧ st < 2147483629 ∧ ∀ d ∈ ds, ∃ i, d = .int i)
    (fun d ds ρ i => by
      obtain ⟨st, e, rfl, s0, s1, hd⟩ := i
      obtain ⟨k, rfl⟩ := hd d List.mem_cons_self
      have m3 : mulOk st 39373 = true := mul_ok (n := 31) (m := 16) (Bd.nat s0 (by omega)) (Bd.nat (by decide) (by decide)) (by decide)
      refine ⟨[some (.val (.list (ns.map .int))), some (.val (.int (lap : Int))), some (.val (.int own)), some (.val (.int st)), some (.val (.int k))], [some (.val (.list (ns.map .int))), some (.val (.int (lap : Int))), some (.val (.int own)), some (.val (.int ((st * 39373 + k % 2147483579 + 37) % 2147483629))), some (.val (.int k))], by cases e <;> simp [dLoc, dCon, dNil, dCons, dOp, dTup, dLst, looks, look, frz, dCall, dCallV, dCallK, reord, sSeq2, sSkip, sExp, sRet, sRetN, sIf, sAsg, sAsgT, bVal, bTru, bNot, bAnd, bOr, bYes, dAnd, dOr, dNot, dIf, tName, gsNil, gsCons, gTupD, Dn.tSub, Dn.valOf, asB, ownAt, asI, isPin, sl, dCut, iOf, iNo, fin, endV, runP, runF, runV, runW, startR, startV, dEmp, dChain, res, truR, Dn.tru, itemsOf, sNone, sSeq, sRg1, sRg2, sZip, sEnum, sFor, dApp, dPop, sBrk, sCnt, isNone, atI0, atI1, atI2, ixN3_0, ixN3_1, ixN3_2, ixN2_0, ixN2_1, noPins, e_add, e_addT, e_addL, e_sub, e_mul, e_mulL, e_mulT, e_div, e_mod, e_neg, e_eqI, e_neI, e_eqB, e_eqT, e_eqL, e_neT, e_neL, e_cmp, e_is, e_isnot, e_ixL, e_ixT, e_lenL, e_lenT, e_tupL, e_tupT, e_lstL, e_lstT, e_int, e_intB, e_abs, e_sum, e_divmod, e_gcd, e_max, e_min, e_isi, e_cutL, e_cutT], by simp [dLoc, dCon, dNil, dCons, dOp, dTup, dLst, looks, look, frz, dCall, dCallV, dCallK, reord, sSeq2, sSkip, sExp, sRet, sRetN, sIf, sAsg, sAsgT, bVal, bTru, bNot, bAnd, bOr, bYes, dAnd, dOr, dNot, dIf, tName, gsNil, gsCons, gTupD, Dn.tSub, Dn.valOf, asB, ownAt, asI, isPin, sl, dCut, iOf, iNo, fin, endV, runP, runF, runV, runW, startR, startV, dEmp, dChain, res, truR, Dn.tru, itemsOf, sNone, sSeq, sRg1, sRg2, sZip, sEnum, sFor, dApp, dPop, sBrk, sCnt, isNone, atI0, atI1, atI2, ixN3_0, ixN3_1, ixN3_2, ixN2_0, ixN2_1, noPins, e_add, e_addT, e_addL, e_sub, e_mul, e_mulL, e_mulT, e_div, e_mod, e_neg, e_eqI, e_neI, e_eqB, e_eqT, e_eqL, e_neT, e_neL, e_cmp, e_is, e_isnot, e_ixL, e_ixT, e_lenL, e_lenT, e_tupL, e_tupT, e_lstL, e_lstT, e_int, e_intB, e_abs, e_sum, e_divmod, e_gcd, e_max, e_min, e_isi, e_cutL, e_cutT, m3, f0, f2], _, some (.int k), rfl, Int.emod_nonneg _ (by decide), Int.emod_lt_of_pos _ (by decide), fun d hd' => hd d (List.mem_cons_of_mem _ hd')⟩) ⟨_, none, rfl, by omega, by omega, fun d hd => by
        rcases List.mem_append.mp hd with hd | hd
        · obtain ⟨i, _, rfl⟩ := List.mem_map.mp hd; exact ⟨i, rfl⟩
        · exact ⟨own, List.mem_singleton.mp hd⟩⟩
  obtain ⟨ρ', e, st, el, e2, s0, s1, _⟩ := key
  subst e2
  have ad : pAdd [.list ((ns.take 11).map PyData.int), .list [.int own]] = some (.o ((ns.take 11).map PyData.int ++ [.int own])) := e_addL (by simp; omega)
  have o1 : pLt [.int own, .int 0] = some (.v (.bool (decide (own < 0)))) := rfl
  refine ⟨[.int (if own < 0 ∨ 1000000000000000000 ≤ own then (if own < 0 then -own else own) else 0), .int st, .int 0], ?_, _, st, 0, rfl, ?_, s0, s1, by decide, by decide⟩
  · have sA : ∀ R : TSD, sSeq2 (sAsg (dIf (bVal (dOp pLt (dCons (dLoc 1) (dCons (dOp pLen (dCons (dLoc 0) dNil)) dNil)))) (dOp pInt (dCons (dOp pIx (dCons (dLoc 0) (dCons (dLoc 1) dNil))) dNil)) (dOp pAdd (dCons (dOp pAdd (dCons (dOp pMul (dCons (dCon (.int 6689)) (dCons (dLoc 1) dNil))) (dCons (dCon (.int 311)) dNil))) (dCons (dOp pMod (dCons (dOp pInt (dCons (dOp pSum (dCons (dCut (dLoc 0) iNo (iOf (dCon (.int 6)))) dNil)) dNil)) (dCons (dCon (.int 999953)) dNil))) dNil)))) (tName 2)) R [some (.val (.list (ns.map .int))), some (.val (.int (lap : Int))), none, none, none] = R [some (.val (.list (ns.map .int))), some (.val (.int (lap : Int))), some (.val (.int own)), none, none] := fun R => by
      have a : sAsg (dIf (bVal (dOp pLt (dCons (dLoc 1) (dCons (dOp pLen (dCons (dLoc 0) dNil)) dNil)))) (dOp pInt (dCons (dOp pIx (dCons (dLoc 0) (dCons (dLoc 1) dNil))) dNil)) (dOp pAdd (dCons (dOp pAdd (dCons (dOp pMul (dCons (dCon (.int 6689)) (dCons (dLoc 1) dNil))) (dCons (dCon (.int 311)) dNil))) (dCons (dOp pMod (dCons (dOp pInt (dCons (dOp pSum (dCons (dCut (dLoc 0) iNo (iOf (dCon (.int 6)))) dNil)) dNil)) (dCons (dCon (.int 999953)) dNil))) dNil)))) (tName 2) [some (.val (.list (ns.map .int))), some (.val (.int (lap : Int))), none, none, none] = some (.nx [some (.val (.list (ns.map .int))), some (.val (.int (lap : Int))), some (.val (.int own)), none, none]) := by
        unfold sAsg
        rw [eo]
        simp [dLoc, dCon, dNil, dCons, dOp, dTup, dLst, looks, look, frz, dCall, dCallV, dCallK, reord, sSeq2, sSkip, sExp, sRet, sRetN, sIf, sAsg, sAsgT, bVal, bTru, bNot, bAnd, bOr, bYes, dAnd, dOr, dNot, dIf, tName, gsNil, gsCons, gTupD, Dn.tSub, Dn.valOf, asB, ownAt, asI, isPin, sl, dCut, iOf, iNo, fin, endV, runP, runF, runV, runW, startR, startV, dEmp, dChain, res, truR, Dn.tru, itemsOf, sNone, sSeq, sRg1, sRg2, sZip, sEnum, sFor, dApp, dPop, sBrk, sCnt, isNone, atI0, atI1, atI2, ixN3_0, ixN3_1, ixN3_2, ixN2_0, ixN2_1, noPins, e_add, e_addT, e_addL, e_sub, e_mul, e_mulL, e_mulT, e_div, e_mod, e_neg, e_eqI, e_neI, e_eqB, e_eqT, e_eqL, e_neT, e_neL, e_cmp, e_is, e_isnot, e_ixL, e_ixT, e_lenL, e_lenT, e_tupL, e_tupT, e_lstL, e_lstT, e_int, e_intB, e_abs, e_sum, e_divmod, e_gcd, e_max, e_min, e_isi, e_cutL, e_cutT]
      unfold sSeq2
      rw [a]
    have st0 : startR 5 [.list (ns.map .int), .int (lap : Int)] = [some (.val (.list (ns.map .int))), some (.val (.int (lap : Int))), none, none, none] := rfl
    have hl : ([PyData.list (ns.map .int), .int (lap : Int)] : List D).length = 2 := rfl
    simp only [F__law_pool, runF, runP, d__law_pool]
    rw [st0, sA, if_pos hl]
    by_cases z1 : own < 0
    · simp [dLoc, dCon, dNil, dCons, dOp, dTup, dLst, looks, look, frz, dCall, dCallV, dCallK, reord, sSeq2, sSkip, sExp, sRet, sRetN, sIf, sAsg, sAsgT, bVal, bTru, bNot, bAnd, bOr, bYes, dAnd, dOr, dNot, dIf, tName, gsNil, gsCons, gTupD, Dn.tSub, Dn.valOf, asB, ownAt, asI, isPin, sl, dCut, iOf, iNo, fin, endV, runP, runF, runV, runW, startR, startV, dEmp, dChain, res, truR, Dn.tru, itemsOf, sNone, sSeq, sRg1, sRg2, sZip, sEnum, sFor, dApp, dPop, sBrk, sCnt, isNone, atI0, atI1, atI2, ixN3_0, ixN3_1, ixN3_2, ixN2_0, ixN2_1, noPins, e_add, e_addT, e_addL, e_sub, e_mul, e_mulL, e_mulT, e_div, e_mod, e_neg, e_eqI, e_neI, e_eqB, e_eqT, e_eqL, e_neT, e_neL, e_cmp, e_is, e_isnot, e_ixL, e_ixT, e_lenL, e_lenT, e_tupL, e_tupT, e_lstL, e_lstT, e_int, e_intB, e_abs, e_sum, e_divmod, e_gcd, e_max, e_min, e_isi, e_cutL, e_cutT, m2, c11, ad, e, p18, z1, -List.map_take]
    · by_cases z2 : (1000000000000000000 : Int) ≤ own
      · simp [dLoc, dCon, dNil, dCons, dOp, dTup, dLst, looks, look, frz, dCall, dCallV, dCallK, reord, sSeq2, sSkip, sExp, sRet, sRetN, sIf, sAsg, sAsgT, bVal, bTru, bNot, bAnd, bOr, bYes, dAnd, dOr, dNot, dIf, tName, gsNil, gsCons, gTupD, Dn.tSub, Dn.valOf, asB, ownAt, asI, isPin, sl, dCut, iOf, iNo, fin, endV, runP, runF, runV, runW, startR, startV, dEmp, dChain, res, truR, Dn.tru, itemsOf, sNone, sSeq, sRg1, sRg2, sZip, sEnum, sFor, dApp, dPop, sBrk, sCnt, isNone, atI0, atI1, atI2, ixN3_0, ixN3_1, ixN3_2, ixN2_0, ixN2_1, noPins, e_add, e_addT, e_addL, e_sub, e_mul, e_mulL, e_mulT, e_div, e_mod, e_neg, e_eqI, e_neI, e_eqB, e_eqT, e_eqL, e_neT, e_neL, e_cmp, e_is, e_isnot, e_ixL, e_ixT, e_lenL, e_lenT, e_tupL, e_tupT, e_lstL, e_lstT, e_int, e_intB, e_abs, e_sum, e_divmod, e_gcd, e_max, e_min, e_isi, e_cutL, e_cutT, m2, c11, ad, e, p18, z1, z2, -List.map_take]
      · simp [dLoc, dCon, dNil, dCons, dOp, dTup, dLst, looks, look, frz, dCall, dCallV, dCallK, reord, sSeq2, sSkip, sExp, sRet, sRetN, sIf, sAsg, sAsgT, bVal, bTru, bNot, bAnd, bOr, bYes, dAnd, dOr, dNot, dIf, tName, gsNil, gsCons, gTupD, Dn.tSub, Dn.valOf, asB, ownAt, asI, isPin, sl, dCut, iOf, iNo, fin, endV, runP, runF, runV, runW, startR, startV, dEmp, dChain, res, truR, Dn.tru, itemsOf, sNone, sSeq, sRg1, sRg2, sZip, sEnum, sFor, dApp, dPop, sBrk, sCnt, isNone, atI0, atI1, atI2, ixN3_0, ixN3_1, ixN3_2, ixN2_0, ixN2_1, noPins, e_add, e_addT, e_addL, e_sub, e_mul, e_mulL, e_mulT, e_div, e_mod, e_neg, e_eqI, e_neI, e_eqB, e_eqT, e_eqL, e_neT, e_neL, e_cmp, e_is, e_isnot, e_ixL, e_ixT, e_lenL, e_lenT, e_tupL, e_tupT, e_lstL, e_lstT, e_int, e_intB, e_abs, e_sum, e_divmod, e_gcd, e_max, e_min, e_isi, e_cutL, e_cutT, m2, c11, ad, e, p18, z1, z2, -List.map_take]
  · split
    · split <;> omega
    · omega

end K84

set_option Elab.async false
set_option linter.all false
set_option maxRecDepth 100000
set_option maxHeartbeats 4000000
namespace K84
open PySem PySem.Spec PyProof.Rows L2 Dn Pl Pq
/-! ### the three laps -/
noncomputable section
def rBody : TSD := (sSeq2 (sAsgT (dCons (dCallV F__law_draw (dCons (dLoc 0) (dCons (dLoc 3) dNil))) (dCons (dCallV F__law_share (dCons (dLoc 0) dNil)) dNil)) 2 (gsCons (tName 9) (gsCons (tName 10) gsNil)))
  (sSeq2 (sAsg (dOp pIx (dCons (dLoc 4) (dCons (dLoc 9) dNil))) (gTupD 2 (gsCons (tName 11) (gsCons (tName 12) gsNil))))
  (sSeq2 (sAsg (dCall F__law_stepped (dCons (dOp pIx (dCons (dLoc 4) (dCons (dLoc 9) dNil))) (dCons (dLoc 10) (dCons (dLoc 5) dNil)))) (tName 6))
  (sSeq2 (sIf (bVal (dOp pNe (dCons (dOp pRepr (dCons (dCall F_wall_step (dCons (dLoc 4) (dCons (dLoc 9) (dCons (dLoc 10) (dCons (dLoc 5) dNil))))) dNil)) (dCons (dOp pRepr (dCons (dLoc 6) dNil)) dNil)))) (sSeq2 (sRet (dCon (.bool false)))
  sSkip) sSkip)
  (sSeq2 (sAsg (dCallK F_wall_step 4 [3, 2, 1, 0] (dCons (dLoc 5) (dCons (dTup (dCons (dCon (.int 1)) (dCons (dCon (.int 1)) dNil))) (dCons (dLoc 9) (dCons (dLoc 4) dNil))))) (tName 7))
  (sSeq2 (sIf (bOr (bNot (bTru (dOp (pIsi "tuple") (dCons (dLoc 7) dNil)))) (bOr (bVal (dOp pNe (dCons (dOp pLen (dCons (dLoc 7) dNil)) (dCons (dLoc 2) dNil)))) (bVal (dOp pNe (dCons (dCall F__law_dot (dCons (dLoc 11) (dCons (dLoc 7) dNil))) (dCons (dLoc 12) dNil)))))) (sSeq2 (sRet (dCon (.bool false)))
  sSkip) sSkip)
  (sSeq2 (sAsgT (dCons (dCall F__law_stepped (dCons (dOp pIx (dCons (dLoc 4) (dCons (dLoc 9) dNil))) (dCons (dTup (dCons (dCon (.int 1)) (dCons (dCon (.int 1)) dNil))) (dCons (dCallV F__law_row (dCons (dLoc 0) (dCons (dLoc 2) dNil))) dNil)))) (dCons (dCall F__law_minus (dCons (dLoc 12) (dCons (dCall F__law_dot (dCons (dLoc 11) (dCons (dLoc 5) dNil))) dNil))) dNil)) 2 (gsCons (tName 13) (gsCons (tName 14) gsNil)))
  (sSeq2 (sAsg (dCall F__law_by (dCons (dCall F__law_by (dCons (dLoc 10) (dCons (dCall F__law_minus (dCons (dTup (dCons (dCon (.int 2)) (dCons (dCon (.int 1)) dNil))) (dCons (dLoc 10) dNil))) dNil))) (dCons (dCall F__law_over (dCons (dCall F__law_by (dCons (dLoc 14) (dCons (dLoc 14) dNil))) (dCons (dCall F__law_dot (dCons (dLoc 11) (dCons (dLoc 11) dNil))) dNil))) dNil))) (tName 8))
  (sSeq2 (sIf (bOr (bVal (dOp pNe (dCons (dCall F__law_minus (dCons (dCall F__law_apart (dCons (dLoc 5) (dCons (dLoc 13) dNil))) (dCons (dCall F__law_apart (dCons (dLoc 6) (dCons (dLoc 13) dNil))) dNil))) (dCons (dLoc 8) dNil)))) (bTru (dCall F__law_below (dCons (dLoc 8) (dCons (dTup (dCons (dCon (.int 0)) (dCons (dCon (.int 1)) dNil))) dNil))))) (sSeq2 (sRet (dCon (.bool false)))
  sSkip) sSkip)
  (sSeq2 (sIf (bOr (bTru (dCall F__law_below (dCons (dCall F__law_apart (dCons (dLoc 5) (dCons (dLoc 13) dNil))) (dCons (dCall F__law_apart (dCons (dLoc 5) (dCons (dLoc 7) dNil))) dNil)))) (bAnd (bVal (dOp pEq (dCons (dOp pIx (dCons (dLoc 14) (dCons (dCon (.int 0)) dNil))) (dCons (dCon (.int 0)) dNil)))) (bVal (dOp pNe (dCons (dLoc 6) (dCons (dLoc 5) dNil)))))) (sSeq2 (sRet (dCon (.bool false)))
  sSkip) sSkip)
  (sSeq2 (sAsg (dIf (bVal (dOp pEq (dCons (dCallV F__law_draw (dCons (dLoc 0) (dCons (dCon (.int 2)) dNil))) (dCons (dCon (.int 0)) dNil)))) (dLoc 6) (dLoc 7)) (tName 5))
  sSkip)))))))))))
end
theorem right_eq : d__law_right = (sSeq2 (sAsgT (dCons (dCallV F__law_pick (dCons (dLoc 0) (dCons (dTup (dCons (dCon (.int 1)) (dCons (dCon (.int 2)) (dCons (dCon (.int 2)) (dCons (dCon (.int 3)) (dCons (dCon (.int 3)) (dCons (dCon (.int 4)) (dCons (dCon (.int 5)) dNil)))))))) dNil))) (dCons (dCallV F__law_pick (dCons (dLoc 0) (dCons (dTup (dCons (dCon (.int 1)) (dCons (dCon (.int 2)) (dCons (dCon (.int 3)) (dCons (dCon (.int 4)) (dCons (dCon (.int 6)) dNil)))))) dNil))) dNil)) 2 (gsCons (tName 2) (gsCons (tName 3) gsNil)))
  (sSeq2 (sAsgT (dCons (dCallV F__law_fence (dCons (dLoc 0) (dCons (dLoc 2) (dCons (dLoc 3) dNil)))) (dCons (dCallV F__law_row (dCons (dLoc 0) (dCons (dLoc 2) dNil))) dNil)) 2 (gsCons (tName 4) (gsCons (tName 5) gsNil)))
  (sSeq2 (sIf (bNot (bTru (dCallV F__law_is_known (dCons (dLoc 0) (dCons (dLoc 2) (dCons (dLoc 4) dNil)))))) (sSeq2 (sRet (dCon (.bool false)))
  sSkip) sSkip)
  (sSeq2 (sFor (sRg1 (dCon (.int 3))) (tName 1) rBody)
  (sSeq2 (sRet (dCon (.bool true)))
  sSkip))))) := rfl
theorem rb_div {n d m e : Nat} {r s : Rat} (h : RB n d r) (k : RB m e s) (s0 : s ≠ 0) : RB (n + e) (d + m) (r / s) := by
  rw [div_divInt]
  refine .divInt (Int.mul_ne_zero (Int.natCast_ne_zero.mpr r.den_nz) (fun z => s0 (zero_num.mp z))) (h.num.mul k.den) (h.den.mul k.num)
theorem shaped_row (g : List Rat) : SeqAt.shaped (row g) = true := by
  have h1 : PyData.depthAll (g.map enc) ≤ 1 := depthA_map fun x _ => by
    unfold enc
    simp [PyData.depth, PyData.depthAll]
  have h2 : PyData.canLayAll0 (g.map enc) = true := by
    induction g with
    | nil => rfl
    | cons x g ih =>
      have h1' : PyData.depthAll (g.map enc) ≤ 1 := depthA_map fun x _ => by
        unfold enc
        simp [PyData.depth, PyData.depthAll]
      simp only [List.map_cons, PyData.canLayAll0, ih h1', Bool.and_true]
      rfl
  have h3 : PyData.depth (.tuple (g.map enc)) ≤ 64 := by
    simp only [PyData.depth]
    omega
  show (PyData.canLay0 (.tuple (g.map enc)) && decide (PyData.depth (.tuple (g.map enc)) ≤ 64)) = true
  rw [Bool.and_eq_true]
  exact ⟨by simp only [PyData.canLay0]; exact h2, decide_eq_true h3⟩
theorem ne_row (g : List Rat) : pNe [row g, row g] = some (.v (.bool false)) := by
  rw [e_ne (shaped_row g) (shaped_row g), eqv_row]
  rfl
theorem ix_enc (r : Rat) : pIx [enc r, .int 0] = some (.v (.int r.num)) := rfl
theorem len_row (g : List Rat) : pLen [row g] = some (.v (.int g.length)) := by
  show some (Dn.R.v (.int ((g.map enc).length : Int))) = _
  rw [List.length_map]
theorem ty_row (g : List Rat) : isTy "tuple" (row g) = true := isTy_tup _
theorem lap_ok {b n t : Nat} {xs : List D} {ws : List (List Rat × Rat)} {g : List Rat} {s1 : Option Slot} {tl : List (Option Slot)} (h : VQ (b + 2 * n + 3) xs) (h0 : 1 ≤ ws.length) (hl : ws.length ≤ 6) (hw : ∀ w ∈ ws, Wl n w.1 w.2) (h1 : 1 ≤ n) (hn : n ≤ 5)
    (hg : g.length = n) (G : GI t g) (ht : t ≤ 250) (htl : tl = [none, none, none, none, none, none, none, none, none] ∨ ∃ a b c d e f g h i : D, tl = [some (.val a), some (.val b), some (.val c), some (.val d), some (.val e), some (.val f), some (.val g), some (.val h), some (.val i)]) :
    ∃ (g' : List Rat) (xs' : List D) (a b' c d e f g1 h i : D), rBody (some (.own true xs) :: s1 :: some (.val (.int (n : Int))) :: some (.val (.int (ws.length : Int))) :: some (.val (fD ws)) :: some (.val (row g)) :: tl)
      = some (.nx (some (.own true xs') :: s1 :: some (.val (.int (n : Int))) :: some (.val (.int (ws.length : Int))) :: some (.val (fD ws)) :: some (.val (row g')) :: [some (.val a), some (.val b'), some (.val c), some (.val d), some (.val e), some (.val f), some (.val g1), some (.val h), some (.val i)]))
      ∧ g'.length = n ∧ GI (t + 65) g' ∧ VQ b xs' := by
  obtain ⟨i, x1, e1, i0, i1, v1⟩ := draw_spec (b := b + 2 * n + 2) (m := (ws.length : Int)) h (by omega) (by omega)
  rw [← x_draw] at e1
  obtain ⟨s, x2, e2, cs, s0, s2, v2⟩ := share_spec (b := b + 2 * n + 1) v1
  obtain ⟨j, rfl⟩ : ∃ j : Nat, i = (j : Int) := ⟨i.toNat, by omega⟩
  have hj : j < ws.length := by omega
  obtain ⟨a, c, hac⟩ : ∃ a c, ws[j] = (a, c) := ⟨_, _, rfl⟩
  have gj : ws[j]? = some (a, c) := by rw [List.getElem?_eq_getElem hj, hac]
  have W : Wl n a c := by have := hw _ (List.getElem_mem hj); rw [hac] at this; exact this
  have ix : pIx [fD ws, .int (j : Int)] = some (.v (.tuple [row a, enc c])) := by
    have : atI (ws.map wD) (j : Int) = some (.tuple [row a, enc c]) := by rw [atI_at rfl, List.getElem?_map, gj]; rfl
    unfold fD
    rw [e_ixT, this]
    rfl
  have c1 : Cb 30 6 (1 : Rat) := ⟨30, by decide +kernel, by unfold Bd; decide⟩
  have st := stepped_q W hg G (by omega) cs
  have st : F__law_stepped [.tuple [row a, enc c], enc s, row g] = some (.v (row (stepQ a c s g))) := st
  have wst := wall_step_p h0 hl hw gj hg G (by omega) cs s0 s2
  have ws1 := wall_step_p h0 hl hw gj hg G (by omega) c1 (by decide +kernel) (by decide +kernel)
  have ws1 : F_wall_step [fD ws, .int (j : Int), .tuple [.int 1, .int 1], row g] = some (.v (row (stepQ a c 1 g))) := ws1
  obtain ⟨z1, _, z3, _, z5, z6, z7, z8, z9, GD⟩ := sizes W hg G (by omega) cs
  obtain ⟨_, _, _, _, _, _, _, _, _, GO⟩ := sizes W hg G (by omega) c1
  have lD : (stepQ a c s g).length = n := stepQ_len W hg
  have lO : (stepQ a c 1 g).length = n := stepQ_len W hg
  have d1 := (sizes W lO GO (by omega) c1).1
  have on1 : dotQ a (stepQ a c 1 g) = c := by rw [step_on W hg]; unfold gapQ; grind
  rw [on1] at d1
  have d1 : F__law_dot [row a, row (stepQ a c 1 g)] = some (.v (enc c)) := d1
  have z1 : F__law_dot [row a, row g] = some (.v (enc (dotQ a g))) := z1
  have z3 : F__law_dot [row a, row a] = some (.v (enc (dotQ a a))) := z3
  obtain ⟨r0, x3, e3, l3, k3, v3⟩ := row_spec (b := b + 1) (n := n) (xs := x2) (v2.less (by omega)) (by omega)
  have G0 : GI 8 r0 := ⟨30, by decide, by unfold Bd; decide, fun x hx => (k3 x hx).up (by decide)⟩
  have st0 := stepped_q W l3 G0 (by omega) c1
  have st0 : F__law_stepped [.tuple [row a, enc c], .tuple [.int 1, .int 1], row r0] = some (.v (row (stepQ a c 1 r0))) := st0
  obtain ⟨_, _, _, _, _, _, _, _, _, GE⟩ := sizes W l3 G0 (by omega) c1
  have lE : (stepQ a c 1 r0).length = n := stepQ_len W l3
  have onE : dotQ a (stepQ a c 1 r0) = c := by rw [step_on W l3]; unfold gapQ; grind
  have rc : RB 26 13 c := W.cb.rb (by decide) b5400
  have rs : RB 6 5 s := cs.rb (by decide) b30
  have gp := minus_q rc z5 (by omega) (by omega) (by omega)
  have gp : F__law_minus [enc c, enc (dotQ a g)] = some (.v (enc (gapQ a c g))) := gp
  have c2 : Cb 30 6 (2 : Rat) := ⟨60, by decide +kernel, by unfold Bd; decide⟩
  have r2 : RB 6 5 (2 : Rat) := c2.rb (by decide) b30
  have m2 := minus_q r2 rs (by decide) (by decide) (by decide)
  have m2 : F__law_minus [.tuple [.int 2, .int 1], enc s] = some (.v (enc (2 - s))) := m2
  have r2s : RB 7 5 (2 - s) := (c2.sub (by decide) cs).rb (by decide) b30
  have b1 := by_q rs r2s (by decide) (by decide)
  have b1 : F__law_by [enc s, enc (2 - s)] = some (.v (enc (s * (2 - s)))) := b1
  have b2 := by_q z7 z7 (by omega) (by omega)
  have b2 : F__law_by [enc (gapQ a c g), enc (gapQ a c g)] = some (.v (enc (gapQ a c g * gapQ a c g))) := b2
  have o3 := over_q W.rr0 (z7.mul z7) z6 (by omega) (by omega)
  have o3 : F__law_over [enc (gapQ a c g * gapQ a c g), enc (dotQ a a)] = some (.v (enc (gapQ a c g * gapQ a c g / dotQ a a))) := o3
  have rq := rb_div (z7.mul z7) z6 W.rr0
  have b4 := by_q (rs.mul r2s) rq (by omega) (by omega)
  have b4 : F__law_by [enc (s * (2 - s)), enc (gapQ a c g * gapQ a c g / dotQ a a)] = some (.v (enc (s * (2 - s) * (gapQ a c g * gapQ a c g / dotQ a a)))) := b4
  have rd := (rs.mul r2s).mul rq
  have q0 : 0 ≤ gapQ a c g * gapQ a c g / dotQ a a := by
    have := sq_nonneg (gapQ a c g)
    have := W.rr
    rw [Rat.div_def]
    exact Rat.mul_nonneg (by assumption) (Rat.le_of_lt (Rat.inv_pos.mpr this))
  have sp : 0 ≤ s * (2 - s) := Rat.mul_nonneg (Rat.le_of_lt s0) (by grind)
  have dp : ¬ (s * (2 - s) * (gapQ a c g * gapQ a c g / dotQ a a) < 0) := Rat.not_lt.mpr (Rat.mul_nonneg sp q0)
  have be := below_q rd (RB.zero) (by omega) (by omega)
  rw [decide_eq_false dp] at be
  have be : F__law_below [enc (s * (2 - s) * (gapQ a c g * gapQ a c g / dotQ a a)), .tuple [.int 0, .int 1]] = some (.v (.bool false)) := be
  obtain ⟨p1, y1⟩ := apart_q hg lE hn G GE (by omega) (by omega)
  obtain ⟨p2, y2⟩ := apart_q lD lE hn GD GE (by omega) (by omega)
  obtain ⟨p3, y3⟩ := apart_q hg lO hn G GO (by omega) (by omega)
  have mf := minus_q y1 y2 (by omega) (by omega) (by omega)
  rw [step_far W hg lE onE] at mf
  have mf : F__law_minus [enc (farQ g (stepQ a c 1 r0)), enc (farQ (stepQ a c s g) (stepQ a c 1 r0))] = some (.v (enc (s * (2 - s) * (gapQ a c g * gapQ a c g / dotQ a a)))) := mf
  have near : ¬ (farQ g (stepQ a c 1 r0) < farQ g (stepQ a c 1 g)) := by
    have f1 := step_far (s := 1) W hg lE onE
    have f2 := step_near (s := 1) W hg
    have f3 : 0 ≤ farQ (stepQ a c 1 g) (stepQ a c 1 r0) := dot_nonneg _
    have rr0 := W.rr0
    have f4 : partQ a c 1 g * partQ a c 1 g * dotQ a a = gapQ a c g * gapQ a c g / dotQ a a := by
      unfold partQ
      grind
    rw [f4] at f2
    have f5 : (1 : Rat) * (2 - 1) * (gapQ a c g * gapQ a c g / dotQ a a) = gapQ a c g * gapQ a c g / dotQ a a := by grind
    rw [f5] at f1
    rw [f2]
    grind
  have bn := below_q y1 y3 (by omega) (by omega)
  rw [decide_eq_false near] at bn
  have bn : F__law_below [enc (farQ g (stepQ a c 1 r0)), enc (farQ g (stepQ a c 1 g))] = some (.v (.bool false)) := bn
  obtain ⟨hs1, hs2⟩ := show_row GD (by omega) (by omega)
  have nr := ne_shown hs2
  have nc := ne_enc c
  have nd := ne_enc (s * (2 - s) * (gapQ a c g * gapQ a c g / dotQ a a))
  have lO' : ((stepQ a c 1 g).length : Int) = (n : Int) := by rw [lO]
  obtain ⟨w, x4, e4, w0, w1, v4⟩ := draw_spec (b := b) (m := 2) v3 (by decide) (by decide)
  rw [← x_draw] at e4
  have gz : gapQ a c g = 0 → stepQ a c s g = g := fun z => by
    have : partQ a c s g = 0 := by unfold partQ; rw [z, Rat.div_def, Rat.zero_mul, Rat.mul_zero]
    rw [stepQ, this, addQ_zero (by rw [hg, W.len])]
  have same : (gapQ a c g).num = 0 → pNe [row (stepQ a c s g), row g] = some (.v (.bool false)) := fun z => by
    rw [gz (zero_num.mp z)]
    exact ne_row g
  have fin : ∀ (g' : List Rat), (if w = 0 then stepQ a c s g else stepQ a c 1 g) = g' → g'.length = n ∧ GI (t + 65) g' := fun g' e => by
    subst e
    split
    · exact ⟨lD, GD⟩
    · exact ⟨lO, GO⟩
  refine ⟨if w = 0 then stepQ a c s g else stepQ a c 1 g, x4, row (stepQ a c s g), row (stepQ a c 1 g), enc (s * (2 - s) * (gapQ a c g * gapQ a c g / dotQ a a)), .int (j : Int), enc s, row a, enc c, row (stepQ a c 1 r0), enc (gapQ a c g), ?_, (fin _ rfl).1, (fin _ rfl).2, v4⟩
  by_cases zg : (gapQ a c g).num = 0
  · have sm := same zg
    have ixg : pIx [enc (gapQ a c g), .int 0] = some (.v (.int 0)) := by rw [ix_enc, zg]
    by_cases zw : w = 0
    · subst zw
      rcases htl with rfl | ⟨q1, q2, q3, q4, q5, q6, q7, q8, q9, rfl⟩ <;> simp [rBody, dLoc, dCon, dNil, dCons, dOp, dTup, dLst, looks, look, frz, dCall, dCallV, dCallK, reord, sSeq2, sSkip, sExp, sRet, sRetN, sIf, sAsg, sAsgT, bVal, bTru, bNot, bAnd, bOr, bYes, dAnd, dOr, dNot, dIf, tName, gsNil, gsCons, gTupD, Dn.tSub, Dn.valOf, asB, ownAt, asI, isPin, sl, dCut, iOf, iNo, fin, endV, runP, runF, runV, runW, startR, startV, dEmp, dChain, res, truR, Dn.tru, itemsOf, sNone, sSeq, sRg1, sRg2, sZip, sEnum, sFor, dApp, dPop, sBrk, sCnt, isNone, atI0, atI1, atI2, ixN3_0, ixN3_1, ixN3_2, ixN2_0, ixN2_1, noPins, e_add, e_addT, e_addL, e_sub, e_mul, e_mulL, e_mulT, e_div, e_mod, e_neg, e_eqI, e_neI, e_eqB, e_eqT, e_eqL, e_neT, e_neL, e_cmp, e_is, e_isnot, e_ixL, e_ixT, e_lenL, e_lenT, e_tupL, e_tupT, e_lstL, e_lstT, e_int, e_intB, e_abs, e_sum, e_divmod, e_gcd, e_max, e_min, e_isi, e_cutL, e_cutT, e1, e2, ix, st, wst, hs1, nr, ws1, ty_row, len_row, lO', d1, nc, e3, st0, z1, gp, m2, b1, b2, z3, o3, b4, p1, p2, mf, nd, be, p3, bn, ixg, sm, e4]
    · have zw' : (w == 0) = false := beq_eq_false_iff_ne.mpr zw
      rcases htl with rfl | ⟨q1, q2, q3, q4, q5, q6, q7, q8, q9, rfl⟩ <;> simp [rBody, dLoc, dCon, dNil, dCons, dOp, dTup, dLst, looks, look, frz, dCall, dCallV, dCallK, reord, sSeq2, sSkip, sExp, sRet, sRetN, sIf, sAsg, sAsgT, bVal, bTru, bNot, bAnd, bOr, bYes, dAnd, dOr, dNot, dIf, tName, gsNil, gsCons, gTupD, Dn.tSub, Dn.valOf, asB, ownAt, asI, isPin, sl, dCut, iOf, iNo, fin, endV, runP, runF, runV, runW, startR, startV, dEmp, dChain, res, truR, Dn.tru, itemsOf, sNone, sSeq, sRg1, sRg2, sZip, sEnum, sFor, dApp, dPop, sBrk, sCnt, isNone, atI0, atI1, atI2, ixN3_0, ixN3_1, ixN3_2, ixN2_0, ixN2_1, noPins, e_add, e_addT, e_addL, e_sub, e_mul, e_mulL, e_mulT, e_div, e_mod, e_neg, e_eqI, e_neI, e_eqB, e_eqT, e_eqL, e_neT, e_neL, e_cmp, e_is, e_isnot, e_ixL, e_ixT, e_lenL, e_lenT, e_tupL, e_tupT, e_lstL, e_lstT, e_int, e_intB, e_abs, e_sum, e_divmod, e_gcd, e_max, e_min, e_isi, e_cutL, e_cutT, e1, e2, ix, st, wst, hs1, nr, ws1, ty_row, len_row, lO', d1, nc, e3, st0, z1, gp, m2, b1, b2, z3, o3, b4, p1, p2, mf, nd, be, p3, bn, ixg, sm, e4, zw, zw']
  · have zb : ((gapQ a c g).num == 0) = false := beq_eq_false_iff_ne.mpr zg
    by_cases zw : w = 0
    · subst zw
      rcases htl with rfl | ⟨q1, q2, q3, q4, q5, q6, q7, q8, q9, rfl⟩ <;> simp [rBody, dLoc, dCon, dNil, dCons, dOp, dTup, dLst, looks, look, frz, dCall, dCallV, dCallK, reord, sSeq2, sSkip, sExp, sRet, sRetN, sIf, sAsg, sAsgT, bVal, bTru, bNot, bAnd, bOr, bYes, dAnd, dOr, dNot, dIf, tName, gsNil, gsCons, gTupD, Dn.tSub, Dn.valOf, asB, ownAt, asI, isPin, sl, dCut, iOf, iNo, fin, endV, runP, runF, runV, runW, startR, startV, dEmp, dChain, res, truR, Dn.tru, itemsOf, sNone, sSeq, sRg1, sRg2, sZip, sEnum, sFor, dApp, dPop, sBrk, sCnt, isNone, atI0, atI1, atI2, ixN3_0, ixN3_1, ixN3_2, ixN2_0, ixN2_1, noPins, e_add, e_addT, e_addL, e_sub, e_mul, e_mulL, e_mulT, e_div, e_mod, e_neg, e_eqI, e_neI, e_eqB, e_eqT, e_eqL, e_neT, e_neL, e_cmp, e_is, e_isnot, e_ixL, e_ixT, e_lenL, e_lenT, e_tupL, e_tupT, e_lstL, e_lstT, e_int, e_intB, e_abs, e_sum, e_divmod, e_gcd, e_max, e_min, e_isi, e_cutL, e_cutT, e1, e2, ix, st, wst, hs1, nr, ws1, ty_row, len_row, lO', d1, nc, e3, st0, z1, gp, m2, b1, b2, z3, o3, b4, p1, p2, mf, nd, be, p3, bn, ix_enc, zb, e4]
    · have zw' : (w == 0) = false := beq_eq_false_iff_ne.mpr zw
      rcases htl with rfl | ⟨q1, q2, q3, q4, q5, q6, q7, q8, q9, rfl⟩ <;> simp [rBody, dLoc, dCon, dNil, dCons, dOp, dTup, dLst, looks, look, frz, dCall, dCallV, dCallK, reord, sSeq2, sSkip, sExp, sRet, sRetN, sIf, sAsg, sAsgT, bVal, bTru, bNot, bAnd, bOr, bYes, dAnd, dOr, dNot, dIf, tName, gsNil, gsCons, gTupD, Dn.tSub, Dn.valOf, asB, ownAt, asI, isPin, sl, dCut, iOf, iNo, fin, endV, runP, runF, runV, runW, startR, startV, dEmp, dChain, res, truR, Dn.tru, itemsOf, sNone, sSeq, sRg1, sRg2, sZip, sEnum, sFor, dApp, dPop, sBrk, sCnt, isNone, atI0, atI1, atI2, ixN3_0, ixN3_1, ixN3_2, ixN2_0, ixN2_1, noPins, e_add, e_addT, e_addL, e_sub, e_mul, e_mulL, e_mulT, e_div, e_mod, e_neg, e_eqI, e_neI, e_eqB, e_eqT, e_eqL, e_neT, e_neL, e_cmp, e_is, e_isnot, e_ixL, e_ixT, e_lenL, e_lenT, e_tupL, e_tupT, e_lstL, e_lstT, e_int, e_intB, e_abs, e_sum, e_divmod, e_gcd, e_max, e_min, e_isi, e_cutL, e_cutT, e1, e2, ix, st, wst, hs1, nr, ws1, ty_row, len_row, lO', d1, nc, e3, st0, z1, gp, m2, b1, b2, z3, o3, b4, p1, p2, mf, nd, be, p3, bn, ix_enc, zb, e4, zw, zw']
end K84

set_option Elab.async false
set_option linter.all false
set_option maxRecDepth 100000
set_option maxHeartbeats 4000000
namespace K84
open PySem PySem.Spec PyProof.Rows L2 Dn Pl Pq
/-! ### the whole law -/
def rS (xs : List D) (k : Option D) (n : Nat) (ws : List (List Rat × Rat)) (g : List Rat) (tl : List (Option Slot)) : Rho :=
  some (.own true xs) :: k.map Slot.val :: some (.val (.int (n : Int))) :: some (.val (.int (ws.length : Int))) :: some (.val (fD ws)) :: some (.val (row g)) :: tl
def okT (tl : List (Option Slot)) : Prop := tl = [none, none, none, none, none, none, none, none, none] ∨ ∃ a b c d e f g h i : D, tl = [some (.val a), some (.val b), some (.val c), some (.val d), some (.val e), some (.val f), some (.val g), some (.val h), some (.val i)]
theorem laps {n : Nat} {ws : List (List Rat × Rat)} (h0 : 1 ≤ ws.length) (hl : ws.length ≤ 6) (hw : ∀ w ∈ ws, Wl n w.1 w.2) (h1 : 1 ≤ n) (hn : n ≤ 5) : ∀ (ds : List D) (t b : Nat) (k : Option D) (xs : List D) (g : List Rat) (tl : List (Option Slot)), VQ (b + ds.length * (2 * n + 3)) xs → g.length = n → GI t g → t + 65 * ds.length ≤ 300 → okT tl →
    ∃ xs' ρ, loopF (tName 1) rBody ds (rS xs k n ws g tl) = some (.nx (some (.own true xs') :: ρ))
  | [], t, b, k, xs, g, tl, _, _, _, _, _ => ⟨xs, _, rfl⟩
  | d :: ds, t, b, k, xs, g, tl, v, hg, G, ht, ho => by
    rw [List.length_cons] at v ht
    rw [Nat.succ_mul] at v
    obtain ⟨g', xs', q1, q2, q3, q4, q5, q6, q7, q8, q9, e, l', G', v'⟩ := lap_ok (b := b + ds.length * (2 * n + 3)) (s1 := some (.val d)) (v.less (by omega)) h0 hl hw h1 hn hg G (by omega) ho
    obtain ⟨ys, ρ, e2⟩ := laps h0 hl hw h1 hn ds (t + 65) b (some d) xs' g' _ v' l' G' (by omega) (.inr ⟨q1, q2, q3, q4, q5, q6, q7, q8, q9, rfl⟩)
    refine ⟨ys, ρ, ?_⟩
    rw [← e2, loopF]
    have tn : tName 1 (.v d) (rS xs k n ws g tl) = some (rS xs (some d) n ws g tl) := by
      cases k <;> simp [rS, dLoc, dCon, dNil, dCons, dOp, dTup, dLst, looks, look, frz, dCall, dCallV, dCallK, reord, sSeq2, sSkip, sExp, sRet, sRetN, sIf, sAsg, sAsgT, bVal, bTru, bNot, bAnd, bOr, bYes, dAnd, dOr, dNot, dIf, tName, gsNil, gsCons, gTupD, Dn.tSub, Dn.valOf, asB, ownAt, asI, isPin, sl, dCut, iOf, iNo, fin, endV, runP, runF, runV, runW, startR, startV, dEmp, dChain, res, truR, Dn.tru, itemsOf, sNone, sSeq, sRg1, sRg2, sZip, sEnum, sFor, dApp, dPop, sBrk, sCnt, isNone, atI0, atI1, atI2, ixN3_0, ixN3_1, ixN3_2, ixN2_0, ixN2_1, noPins, e_add, e_addT, e_addL, e_sub, e_mul, e_mulL, e_mulT, e_div, e_mod, e_neg, e_eqI, e_neI, e_eqB, e_eqT, e_eqL, e_neT, e_neL, e_cmp, e_is, e_isnot, e_ixL, e_ixT, e_lenL, e_lenT, e_tupL, e_tupT, e_lstL, e_lstT, e_int, e_intB, e_abs, e_sum, e_divmod, e_gcd, e_max, e_min, e_isi, e_cutL, e_cutT]
    rw [tn]
    have e' : rBody (rS xs (some d) n ws g tl) = _ := e
    simp only [e']
    rfl
theorem right_spec {xs : List D} (h : VQ 500 xs) : ∃ ys, F__law_right xs [] = some (.v (.bool true), ys) := by
  obtain ⟨dn, x1, e1, m1, v1⟩ := pick_T (b := 499) (ds := [.int 1, .int 2, .int 2, .int 3, .int 3, .int 4, .int 5]) h (by simp) (by simp)
  obtain ⟨n, rfl, n1, n5⟩ : ∃ n : Nat, dn = .int (n : Int) ∧ 1 ≤ n ∧ n ≤ 5 := by
    simp only [List.mem_cons, List.not_mem_nil, or_false] at m1
    rcases m1 with rfl | rfl | rfl | rfl | rfl | rfl | rfl
    · exact ⟨1, rfl, by decide, by decide⟩
    · exact ⟨2, rfl, by decide, by decide⟩
    · exact ⟨2, rfl, by decide, by decide⟩
    · exact ⟨3, rfl, by decide, by decide⟩
    · exact ⟨3, rfl, by decide, by decide⟩
    · exact ⟨4, rfl, by decide, by decide⟩
    · exact ⟨5, rfl, by decide, by decide⟩
  obtain ⟨dm, x2, e2, m2, v2⟩ := pick_T (b := 498) (ds := [.int 1, .int 2, .int 3, .int 4, .int 6]) v1 (by simp) (by simp)
  obtain ⟨m, rfl, m1, m6⟩ : ∃ n : Nat, dm = .int (n : Int) ∧ 1 ≤ n ∧ n ≤ 6 := by
    simp only [List.mem_cons, List.not_mem_nil, or_false] at m2
    rcases m2 with rfl | rfl | rfl | rfl | rfl
    · exact ⟨1, rfl, by decide, by decide⟩
    · exact ⟨2, rfl, by decide, by decide⟩
    · exact ⟨3, rfl, by decide, by decide⟩
    · exact ⟨4, rfl, by decide, by decide⟩
    · exact ⟨6, rfl, by decide, by decide⟩
  rw [← x_pick] at e1 e2
  have mm : m * (2 * n + 2) ≤ 6 * 12 := Nat.mul_le_mul m6 (by omega)
  obtain ⟨ws, x3, e3, lw, hw, v3⟩ := fence_spec (b := 300) (n := n) (many := m) (v2.less (by omega)) n1 n5 m1 m6
  obtain ⟨g, x4, e4, lg, cg, v4⟩ := row_spec (b := 200) (n := n) (xs := x3) (v3.less (by omega)) (by omega)
  obtain ⟨x5, e5, v5⟩ := is_known_spec (b := 100) (ws := ws) (v4.less (by omega)) n1 n5 (by omega) (by omega) hw
  have G : GI 8 g := ⟨30, by decide, by unfold Bd; decide, fun x hx => (cg x hx).up (by decide)⟩
  obtain ⟨ys, ρ, e6⟩ := laps (n := n) (by omega) (by omega) hw n1 n5 [.int 0, .int 1, .int 2] 8 0 none x5 g [none, none, none, none, none, none, none, none, none] (v5.less (by simp; omega)) lg G (by decide) (.inl rfl)
  refine ⟨ys, ?_⟩
  unfold rS at e6
  simp only [Option.map_none] at e6
  rw [lw] at e6
  rw [show ([.int 0, .int 1, .int 2] : List D) = (List.range 3).map fun (i : Nat) => PyData.int (i : Int) from rfl] at e6
  rw [F__law_right, right_eq]
  simp [dLoc, dCon, dNil, dCons, dOp, dTup, dLst, looks, look, frz, dCall, dCallV, dCallK, reord, sSeq2, sSkip, sExp, sRet, sRetN, sIf, sAsg, sAsgT, bVal, bTru, bNot, bAnd, bOr, bYes, dAnd, dOr, dNot, dIf, tName, gsNil, gsCons, gTupD, Dn.tSub, Dn.valOf, asB, ownAt, asI, isPin, sl, dCut, iOf, iNo, fin, endV, runP, runF, runV, runW, startR, startV, dEmp, dChain, res, truR, Dn.tru, itemsOf, sNone, sSeq, sRg1, sRg2, sZip, sEnum, sFor, dApp, dPop, sBrk, sCnt, isNone, atI0, atI1, atI2, ixN3_0, ixN3_1, ixN3_2, ixN2_0, ixN2_1, noPins, e_add, e_addT, e_addL, e_sub, e_mul, e_mulL, e_mulT, e_div, e_mod, e_neg, e_eqI, e_neI, e_eqB, e_eqT, e_eqL, e_neT, e_neL, e_cmp, e_is, e_isnot, e_ixL, e_ixT, e_lenL, e_lenT, e_tupL, e_tupT, e_lstL, e_lstT, e_int, e_intB, e_abs, e_sum, e_divmod, e_gcd, e_max, e_min, e_isi, e_cutL, e_cutT, e1, e2, e3, e4, e5, rgOk, rgD, e6]
theorem law_true (ns : List Int) (h1 : ns.length ≤ 63) (h2 : ∀ z ∈ ns, Builtin.Int.intBits z ≤ 1048576) : F_law [.list (ns.map .int)] = some (.v (.bool true)) := by
  have one : ∀ k : Nat, k < 4 → ∃ xs ys, F__law_pool [.list (ns.map .int), .int (k : Int)] = some (.o xs) ∧ F__law_right xs [] = some (.v (.bool true), ys) := fun k hk => by
    obtain ⟨xs, a, b⟩ := pool_spec ns k hk
    obtain ⟨ys, c⟩ := right_spec (b.less (by decide))
    exact ⟨xs, ys, a, c⟩
  obtain ⟨m, hm, m4⟩ : ∃ m : Nat, (m = 2 ∨ m = 3 ∨ m = 4) ∧ (dOp pMax (dCons (dCon (.int 2)) (dCons (dOp pMin (dCons (dOp pLen (dCons (dLoc 0) dNil)) (dCons (dCon (.int 4)) dNil))) dNil))) [some (.val (.list (ns.map .int))), none] = some (.v (.int (m : Int)), [some (.val (.list (ns.map .int))), none]) := by
    refine ⟨max 2 (min ns.length 4), by omega, ?_⟩
    simp [dLoc, dCon, dNil, dCons, dOp, dTup, dLst, looks, look, frz, dCall, dCallV, dCallK, reord, sSeq2, sSkip, sExp, sRet, sRetN, sIf, sAsg, sAsgT, bVal, bTru, bNot, bAnd, bOr, bYes, dAnd, dOr, dNot, dIf, tName, gsNil, gsCons, gTupD, Dn.tSub, Dn.valOf, asB, ownAt, asI, isPin, sl, dCut, iOf, iNo, fin, endV, runP, runF, runV, runW, startR, startV, dEmp, dChain, res, truR, Dn.tru, itemsOf, sNone, sSeq, sRg1, sRg2, sZip, sEnum, sFor, dApp, dPop, sBrk, sCnt, isNone, atI0, atI1, atI2, ixN3_0, ixN3_1, ixN3_2, ixN2_0, ixN2_1, noPins, e_add, e_addT, e_addL, e_sub, e_mul, e_mulL, e_mulT, e_div, e_mod, e_neg, e_eqI, e_neI, e_eqB, e_eqT, e_eqL, e_neT, e_neL, e_cmp, e_is, e_isnot, e_ixL, e_ixT, e_lenL, e_lenT, e_tupL, e_tupT, e_lstL, e_lstT, e_int, e_intB, e_abs, e_sum, e_divmod, e_gcd, e_max, e_min, e_isi, e_cutL, e_cutT]
    omega
  have c := dComp_map (vs := [1]) (src := sRg1 (dOp pMax (dCons (dCon (.int 2)) (dCons (dOp pMin (dCons (dOp pLen (dCons (dLoc 0) dNil)) (dCons (dCon (.int 4)) dNil))) dNil)))) (tgt := tName 1) (cond := bYes) (elt := dCallV F__law_right (dCons (dCall F__law_pool (dCons (dLoc 0) (dCons (dLoc 1) dNil))) dNil)) (ρ := [some (.val (.list (ns.map .int))), none]) (ρ1 := [some (.val (.list (ns.map .int))), none])
    (l := List.range m) (f := fun (k : Nat) => .int (k : Int)) (g := fun _ => some (.bool true)) (by unfold sRg1; rw [m4]; simp [asI, rg_ok (n := m) (by omega), rg_map]) (by simp [dLoc, dCon, dNil, dCons, dOp, dTup, dLst, looks, look, frz, dCall, dCallV, dCallK, reord, sSeq2, sSkip, sExp, sRet, sRetN, sIf, sAsg, sAsgT, bVal, bTru, bNot, bAnd, bOr, bYes, dAnd, dOr, dNot, dIf, tName, gsNil, gsCons, gTupD, Dn.tSub, Dn.valOf, asB, ownAt, asI, isPin, sl, dCut, iOf, iNo, fin, endV, runP, runF, runV, runW, startR, startV, dEmp, dChain, res, truR, Dn.tru, itemsOf, sNone, sSeq, sRg1, sRg2, sZip, sEnum, sFor, dApp, dPop, sBrk, sCnt, isNone, atI0, atI1, atI2, ixN3_0, ixN3_1, ixN3_2, ixN2_0, ixN2_1, noPins, e_add, e_addT, e_addL, e_sub, e_mul, e_mulL, e_mulT, e_div, e_mod, e_neg, e_eqI, e_neI, e_eqB, e_eqT, e_eqL, e_neT, e_neL, e_cmp, e_is, e_isnot, e_ixL, e_ixT, e_lenL, e_lenT, e_tupL, e_tupT, e_lstL, e_lstT, e_int, e_intB, e_abs, e_sum, e_divmod, e_gcd, e_max, e_min, e_isi, e_cutL, e_cutT]) (by simp; omega) (fun k hk => by
      have hk := List.mem_range.mp hk
      obtain ⟨xs, ys, a, c⟩ := one k (by omega)
      simp [stepC, dLoc, dCon, dNil, dCons, dOp, dTup, dLst, looks, look, frz, dCall, dCallV, dCallK, reord, sSeq2, sSkip, sExp, sRet, sRetN, sIf, sAsg, sAsgT, bVal, bTru, bNot, bAnd, bOr, bYes, dAnd, dOr, dNot, dIf, tName, gsNil, gsCons, gTupD, Dn.tSub, Dn.valOf, asB, ownAt, asI, isPin, sl, dCut, iOf, iNo, fin, endV, runP, runF, runV, runW, startR, startV, dEmp, dChain, res, truR, Dn.tru, itemsOf, sNone, sSeq, sRg1, sRg2, sZip, sEnum, sFor, dApp, dPop, sBrk, sCnt, isNone, atI0, atI1, atI2, ixN3_0, ixN3_1, ixN3_2, ixN2_0, ixN2_1, noPins, e_add, e_addT, e_addL, e_sub, e_mul, e_mulL, e_mulT, e_div, e_mod, e_neg, e_eqI, e_neI, e_eqB, e_eqT, e_eqL, e_neT, e_neL, e_cmp, e_is, e_isnot, e_ixL, e_ixT, e_lenL, e_lenT, e_tupL, e_tupT, e_lstL, e_lstT, e_int, e_intB, e_abs, e_sum, e_divmod, e_gcd, e_max, e_min, e_isi, e_cutL, e_cutT, wipeR, a, c])
  have b : ∀ k : Nat, (k = 2 ∨ k = 3 ∨ k = 4) → pAll [.list ((List.range k).filterMap fun _ => some (PyData.bool true))] = some (.v (.bool true)) := fun k hk => by
    rcases hk with rfl | rfl | rfl <;> rfl
  have b := b m hm
  generalize hh : ((List.range m).filterMap fun _ => some (PyData.bool true)) = rs at b c
  rw [F_law, d_law]
  unfold wipeR at c
  simp [dLoc, dCon, dNil, dCons, dOp, dTup, dLst, looks, look, frz, dCall, dCallV, dCallK, reord, sSeq2, sSkip, sExp, sRet, sRetN, sIf, sAsg, sAsgT, bVal, bTru, bNot, bAnd, bOr, bYes, dAnd, dOr, dNot, dIf, tName, gsNil, gsCons, gTupD, Dn.tSub, Dn.valOf, asB, ownAt, asI, isPin, sl, dCut, iOf, iNo, fin, endV, runP, runF, runV, runW, startR, startV, dEmp, dChain, res, truR, Dn.tru, itemsOf, sNone, sSeq, sRg1, sRg2, sZip, sEnum, sFor, dApp, dPop, sBrk, sCnt, isNone, atI0, atI1, atI2, ixN3_0, ixN3_1, ixN3_2, ixN2_0, ixN2_1, noPins, e_add, e_addT, e_addL, e_sub, e_mul, e_mulL, e_mulT, e_div, e_mod, e_neg, e_eqI, e_neI, e_eqB, e_eqT, e_eqL, e_neT, e_neL, e_cmp, e_is, e_isnot, e_ixL, e_ixT, e_lenL, e_lenT, e_tupL, e_tupT, e_lstL, e_lstT, e_int, e_intB, e_abs, e_sum, e_divmod, e_gcd, e_max, e_min, e_isi, e_cutL, e_cutT, c, b, -e_max, -e_min]
end K84

set_option Elab.async false
set_option linter.all false
set_option maxRecDepth 100000
open PySem PySem.W PyProof.Rows
set_option maxHeartbeats 0 in
theorem PySem.Challenge.cw_sweepends_k84_whole_walls_and_steps_holds : PySem.Challenge.rw_sweepends_k84_whole_walls_and_steps.Holds := by
  w_on; o_law; k_head; (case hw => w_witness2)
  k_fill
  refine Dn.walk_g (l := PySem.Challenge.rw_sweepends_k84_whole_walls_and_steps) (n := 63) (k := 19) (x := "script") (st := K84.s_law) (F := K84.F_law) rfl (by decide) rfl ⟨rfl, by decide, by decide⟩ (fun w h Y => PySem.W.kIn_of Y) ?F K84.law_true
  case F =>
    intro w mg h KX G base hb gb
    refine K84.g_law ?V
    refine' { r__law_draw := Dn.raw_mk KX G ?a0 ?l0 ?c0 ?k0, r__law_pick := Dn.raw_mk KX G ?a1 ?l1 ?c1 ?k1, r__law_ratio := Dn.raw_mk KX G ?a2 ?l2 ?c2 ?k2, r__law_small := Dn.raw_mk KX G ?a3 ?l3 ?c3 ?k3, r__law_row := Dn.raw_mk KX G ?a4 ?l4 ?c4 ?k4, r__law_plus := Dn.raw_mk KX G ?a5 ?l5 ?c5 ?k5, r__law_by := Dn.raw_mk KX G ?a6 ?l6 ?c6 ?k6, r__law_dot := Dn.raw_mk KX G ?a7 ?l7 ?c7 ?k7, r__law_fence := Dn.raw_mk KX G ?a8 ?l8 ?c8 ?k8, r__law_strange := Dn.raw_mk KX G ?a9 ?l9 ?c9 ?k9, r__law_bent := Dn.raw_mk KX G ?a10 ?l10 ?c10 ?k10, r__law_is_frac := Dn.raw_mk KX G ?a11 ?l11 ?c11 ?k11, r__law_are_fence := Dn.raw_mk KX G ?a12 ?l12 ?c12 ?k12, r_is_whole := Dn.raw_mk KX G ?a13 ?l13 ?c13 ?k13, r_are_wholes := Dn.raw_mk KX G ?a14 ?l14 ?c14 ?k14, r_is_fraction := Dn.raw_mk KX G ?a15 ?l15 ?c15 ?k15, r_are_fractions := Dn.raw_mk KX G ?a16 ?l16 ?c16 ?k16, r_is_noughts := Dn.raw_mk KX G ?a17 ?l17 ?c17 ?k17, r_is_wall := Dn.raw_mk KX G ?a18 ?l18 ?c18 ?k18, r_are_walls := Dn.raw_mk KX G ?a19 ?l19 ?c19 ?k19, r_is_fence := Dn.raw_mk KX G ?a20 ?l20 ?c20 ?k20, r__law_is_known := Dn.raw_mk KX G ?a21 ?l21 ?c21 ?k21, r__law_added := Dn.raw_mk KX G ?a22 ?l22 ?c22 ?k22, r__law_over := Dn.raw_mk KX G ?a23 ?l23 ?c23 ?k23, r__law_minus := Dn.raw_mk KX G ?a24 ?l24 ?c24 ?k24, r__law_stepped := Dn.raw_mk KX G ?a25 ?l25 ?c25 ?k25, r_check_walls := Dn.raw_mk KX G ?a26 ?l26 ?c26 ?k26, r_is_amount := Dn.raw_mk KX G ?a27 ?l27 ?c27 ?k27, r_check_share := Dn.raw_mk KX G ?a28 ?l28 ?c28 ?k28, r_check_row := Dn.raw_mk KX G ?a29 ?l29 ?c29 ?k29, r_common_part := Dn.raw_mk KX G ?a30 ?l30 ?c30 ?k30, r_lowest := Dn.raw_mk KX G ?a31 ?l31 ?c31 ?k31, r_lowest_over := Dn.raw_mk KX G ?a32 ?l32 ?c32 ?k32, r_ratio := Dn.raw_mk KX G ?a33 ?l33 ?c33 ?k33, r_divided := Dn.raw_mk KX G ?a34 ?l34 ?c34 ?k34, r_plus := Dn.raw_mk KX G ?a35 ?l35 ?c35 ?k35, r_row_sum := Dn.raw_mk KX G ?a36 ?l36 ?c36 ?k36, r_minus := Dn.raw_mk KX G ?a37 ?l37 ?c37 ?k37, r_total := Dn.raw_mk KX G ?a38 ?l38 ?c38 ?k38, r_times := Dn.raw_mk KX G ?a39 ?l39 ?c39 ?k39, r_dot := Dn.raw_mk KX G ?a40 ?l40 ?c40 ?k40, r_row_scaled := Dn.raw_mk KX G ?a41 ?l41 ?c41 ?k41, r_moved := Dn.raw_mk KX G ?a42 ?l42 ?c42 ?k42, r_is_between := Dn.raw_mk KX G ?a43 ?l43 ?c43 ?k43, r_unknowns := Dn.raw_mk KX G ?a44 ?l44 ?c44 ?k44, r_wall_step := Dn.raw_mk KX G ?a45 ?l45 ?c45 ?k45, r__law_share := Dn.raw_mk KX G ?a46 ?l46 ?c46 ?k46, r__law_below := Dn.raw_mk KX G ?a47 ?l47 ?c47 ?k47, r__law_apart := Dn.raw_mk KX G ?a48 ?l48 ?c48 ?k48, r__law_right := Dn.raw_mk KX G ?a49 ?l49 ?c49 ?k49, r__law_pool := Dn.raw_mk KX G ?a50 ?l50 ?c50 ?k50, r_law := Dn.raw_mk KX G ?a51 ?l51 ?c51 ?k51, z_abs := PySem.W.mg_none_of KX G ?m_abs, z_all := PySem.W.mg_none_of KX G ?m_all, z_bool := PySem.W.mg_none_of KX G ?m_bool, z_divmod := PySem.W.mg_none_of KX G ?m_divmod, z_enumerate := PySem.W.mg_none_of KX G ?m_enumerate, m_gcd := PySem.W.mg_of KX G ?m_gcd, z_int := PySem.W.mg_none_of KX G ?m_int, z_isinstance := PySem.W.mg_none_of KX G ?m_isinstance, z_len := PySem.W.mg_none_of KX G ?m_len, z_list := PySem.W.mg_none_of KX G ?m_list, z_max := PySem.W.mg_none_of KX G ?m_max, z_min := PySem.W.mg_none_of KX G ?m_min, z_range := PySem.W.mg_none_of KX G ?m_range, z_repr := PySem.W.mg_none_of KX G ?m_repr, z_str := PySem.W.mg_none_of KX G ?m_str, z_sum := PySem.W.mg_none_of KX G ?m_sum, z_tuple := PySem.W.mg_none_of KX G ?m_tuple, z_zip := PySem.W.mg_none_of KX G ?m_zip, c_MOST_UNKNOWNS := ?c_MOST_UNKNOWNS, c_MOST_WALLS := ?c_MOST_WALLS, c_NOUGHT := ?c_NOUGHT }
    (case a0 => k_is)
    (case l0 => k_is)
    (case c0 => k_is)
    (case k0 => k_is)
    (case a1 => k_is)
    (case l1 => k_is)
    (case c1 => k_is)
    (case k1 => k_is)
    (case a2 => k_is)
    (case l2 => k_is)
    (case c2 => k_is)
    (case k2 => k_is)
    (case a3 => k_is)
    (case l3 => k_is)
    (case c3 => k_is)
    (case k3 => k_is)
    (case a4 => k_is)
    (case l4 => k_is)
    (case c4 => k_is)
    (case k4 => k_is)
    (case a5 => k_is)
    (case l5 => k_is)
    (case c5 => k_is)
    (case k5 => k_is)
    (case a6 => k_is)
    (case l6 => k_is)
    (case c6 => k_is)
    (case k6 => k_is)
    (case a7 => k_is)
    (case l7 => k_is)
    (case c7 => k_is)
    (case k7 => k_is)
    (case a8 => k_is)
    (case l8 => k_is)
    (case c8 => k_is)
    (case k8 => k_is)
    (case a9 => k_is)
    (case l9 => k_is)
    (case c9 => k_is)
    (case k9 => k_is)
    (case a10 => k_is)
    (case l10 => k_is)
    (case c10 => k_is)
    (case k10 => k_is)
    (case a11 => k_is)
    (case l11 => k_is)
    (case c11 => k_is)
    (case k11 => k_is)
    (case a12 => k_is)
    (case l12 => k_is)
    (case c12 => k_is)
    (case k12 => k_is)
    (case a13 => k_is)
    (case l13 => k_is)
    (case c13 => k_is)
    (case k13 => k_is)
    (case a14 => k_is)
    (case l14 => k_is)
    (case c14 => k_is)
    (case k14 => k_is)
    (case a15 => k_is)
    (case l15 => k_is)
    (case c15 => k_is)
    (case k15 => k_is)
    (case a16 => k_is)
    (case l16 => k_is)
    (case c16 => k_is)
    (case k16 => k_is)
    (case a17 => k_is)
    (case l17 => k_is)
    (case c17 => k_is)
    (case k17 => k_is)
    (case a18 => k_is)
    (case l18 => k_is)
    (case c18 => k_is)
    (case k18 => k_is)
    (case a19 => k_is)
    (case l19 => k_is)
    (case c19 => k_is)
    (case k19 => k_is)
    (case a20 => k_is)
    (case l20 => k_is)
    (case c20 => k_is)
    (case k20 => k_is)
    (case a21 => k_is)
    (case l21 => k_is)
    (case c21 => k_is)
    (case k21 => k_is)
    (case a22 => k_is)
    (case l22 => k_is)
    (case c22 => k_is)
    (case k22 => k_is)
    (case a23 => k_is)
    (case l23 => k_is)
    (case c23 => k_is)
    (case k23 => k_is)
    (case a24 => k_is)
    (case l24 => k_is)
    (case c24 => k_is)
    (case k24 => k_is)
    (case a25 => k_is)
    (case l25 => k_is)
    (case c25 => k_is)
    (case k25 => k_is)
    (case a26 => k_is)
    (case l26 => k_is)
    (case c26 => k_is)
    (case k26 => k_is)
    (case a27 => k_is)
    (case l27 => k_is)
    (case c27 => k_is)
    (case k27 => k_is)
    (case a28 => k_is)
    (case l28 => k_is)
    (case c28 => k_is)
    (case k28 => k_is)
    (case a29 => k_is)
    (case l29 => k_is)
    (case c29 => k_is)
    (case k29 => k_is)
    (case a30 => k_is)
    (case l30 => k_is)
    (case c30 => k_is)
    (case k30 => k_is)
    (case a31 => k_is)
    (case l31 => k_is)
    (case c31 => k_is)
    (case k31 => k_is)
    (case a32 => k_is)
    (case l32 => k_is)
    (case c32 => k_is)
    (case k32 => k_is)
    (case a33 => k_is)
    (case l33 => k_is)
    (case c33 => k_is)
    (case k33 => k_is)
    (case a34 => k_is)
    (case l34 => k_is)
    (case c34 => k_is)
    (case k34 => k_is)
    (case a35 => k_is)
    (case l35 => k_is)
    (case c35 => k_is)
    (case k35 => k_is)
    (case a36 => k_is)
    (case l36 => k_is)
    (case c36 => k_is)
    (case k36 => k_is)
    (case a37 => k_is)
    (case l37 => k_is)
    (case c37 => k_is)
    (case k37 => k_is)
    (case a38 => k_is)
    (case l38 => k_is)
    (case c38 => k_is)
    (case k38 => k_is)
    (case a39 => k_is)
    (case l39 => k_is)
    (case c39 => k_is)
    (case k39 => k_is)
    (case a40 => k_is)
    (case l40 => k_is)
    (case c40 => k_is)
    (case k40 => k_is)
    (case a41 => k_is)
    (case l41 => k_is)
    (case c41 => k_is)
    (case k41 => k_is)
    (case a42 => k_is)
    (case l42 => k_is)
    (case c42 => k_is)
    (case k42 => k_is)
    (case a43 => k_is)
    (case l43 => k_is)
    (case c43 => k_is)
    (case k43 => k_is)
    (case a44 => k_is)
    (case l44 => k_is)
    (case c44 => k_is)
    (case k44 => k_is)
    (case a45 => k_is)
    (case l45 => k_is)
    (case c45 => k_is)
    (case k45 => k_is)
    (case a46 => k_is)
    (case l46 => k_is)
    (case c46 => k_is)
    (case k46 => k_is)
    (case a47 => k_is)
    (case l47 => k_is)
    (case c47 => k_is)
    (case k47 => k_is)
    (case a48 => k_is)
    (case l48 => k_is)
    (case c48 => k_is)
    (case k48 => k_is)
    (case a49 => k_is)
    (case l49 => k_is)
    (case c49 => k_is)
    (case k49 => k_is)
    (case a50 => k_is)
    (case l50 => k_is)
    (case c50 => k_is)
    (case k50 => k_is)
    (case a51 => k_is)
    (case l51 => k_is)
    (case c51 => k_is)
    (case k51 => k_is)
    (case m_abs => k_is)
    (case m_all => k_is)
    (case m_bool => k_is)
    (case m_divmod => k_is)
    (case m_enumerate => k_is)
    (case m_gcd => k_is)
    (case m_int => k_is)
    (case m_isinstance => k_is)
    (case m_len => k_is)
    (case m_list => k_is)
    (case m_max => k_is)
    (case m_min => k_is)
    (case m_range => k_is)
    (case m_repr => k_is)
    (case m_str => k_is)
    (case m_sum => k_is)
    (case m_tuple => k_is)
    (case m_zip => k_is)
    case c_MOST_UNKNOWNS =>
      refine' Dn.kgl (PySem.W.mg_of KX G ?gMOST_UNKNOWNS) ?dMOST_UNKNOWNS
      (case gMOST_UNKNOWNS => k_is)
      (case dMOST_UNKNOWNS => exact Dn.kd_int)
    case c_MOST_WALLS =>
      refine' Dn.kgl (PySem.W.mg_of KX G ?gMOST_WALLS) ?dMOST_WALLS
      (case gMOST_WALLS => k_is)
      (case dMOST_WALLS => exact Dn.kd_int)
    case c_NOUGHT =>
      refine' Dn.kgl (PySem.W.mg_of KX G ?gNOUGHT) ?dNOUGHT
      (case gNOUGHT => k_is)
      case dNOUGHT =>
        refine' Dn.kd_tup ?qNOUGHT1 ?cNOUGHT1 ?eNOUGHT1 (by decide) ?hNOUGHT1
        (case qNOUGHT1 => k_is)
        (case cNOUGHT1 => rfl)
        (case eNOUGHT1 => rfl)
        refine' (Dn.kds_cons ?xNOUGHT1_0 (Dn.kds_cons ?xNOUGHT1_1 Dn.kds_nil))
        (case xNOUGHT1_0 => exact Dn.kd_int)
        (case xNOUGHT1_1 => exact Dn.kd_int)

