import PyProof.Rows.All
import Wide.All
import OpenK.AllK
import Wide.FinOn
import Lean
import PySem.Challenge.RW_og0277_01
set_option Elab.async false
set_option linter.all false
namespace Mine

section
open PySem PySem.W PySem.Calls PyProof.Rows

/-- what is known of objects that stay as they are -/
abbrev Sto := Addr → Option Obj
def put (B : Sto) (a : Addr) (o : Obj) : Sto := fun x => if x = a then some o else B x
def Le (B B' : Sto) : Prop := ∀ a o, B a = some o → B' a = some o
theorem Le.refl (B : Sto) : Le B B := fun _ _ e => e
theorem Le.trans {B B' B'' : Sto} (x : Le B B') (y : Le B' B'') : Le B B'' := fun a o e => y a o (x a o e)

structure Grow (h₀ : Heap) (B₀ : Sto) (M₀ : List Addr) (B : Sto) (h : Heap) : Prop where
  keep : ∀ a o, B a = some o → h.get? a = some o
  old : ∀ a o, h₀.get? a = some o → a ∉ M₀ → h.get? a = some o
  sub : Le B₀ B
  new : ∀ a o, B a = some o → B₀ a = some o ∨ h₀.get? a = none
  live : ∀ a o, h₀.get? a = some o → ∃ o', h.get? a = some o'

abbrev Own := List (Addr × Obj)
def Off (B : Sto) (L : Addr) (h₀ : Heap) (M₀ : List Addr) (h : Heap) (own : Own) : Prop :=
  ∀ p ∈ own, h.get? p.1 = some p.2 ∧ p.1 ≠ L ∧ B p.1 = none ∧ (p.1 ∈ M₀ ∨ h₀.get? p.1 = none)

structure Ow (h₀ : Heap) (B₀ : Sto) (M₀ : List Addr) (L : Addr) (B : Sto) (own : Own) (m : Str → Option Value) (h : Heap) : Prop where
  g : Grow h₀ B₀ M₀ B h
  ns : h.Ns L m
  offL : B L = none
  newL : L ∈ M₀ ∨ h₀.get? L = none
  mn : Off B L h₀ M₀ h own
  nd : own.Pairwise fun p q => p.1 ≠ q.1

section
variable {h₀ h h' : Heap} {B₀ B B' : Sto} {M₀ : List Addr} {L a : Addr} {own : Own} {m m' : Str → Option Value} {o o' : Obj}

theorem Ow.ltL (O : Ow h₀ B₀ M₀ L B own m h) : L < h.objs.size := O.ns.lt
theorem get_lt (e : h.get? a = some o) : a < h.objs.size := Heap.lt_size e
theorem Grow.fresh {h₀ h : Heap} {B₀ B : Sto} {M₀ : List Addr} (G : Grow h₀ B₀ M₀ B h) : h₀.get? h.objs.size = none := by
  cases q : h₀.get? h.objs.size with
  | none => rfl
  | some o => obtain ⟨o', e⟩ := G.live _ _ q; exact absurd (Heap.lt_size e) (Nat.lt_irrefl _)

/-- the frame's own names alone change -/
theorem Ow.same (O : Ow h₀ B₀ M₀ L B own m h) (hn : h'.Ns L m') (hs : Heap.SameBut L h h') : Ow h₀ B₀ M₀ L B own m' h' where
  g := ⟨fun a o e => (hs.2 a fun q => by rw [q, O.offL] at e; cases e).trans (O.g.keep a o e),
    fun a o e hm => (hs.2 a fun q => O.newL.elim (fun z => hm (q ▸ z)) fun z => by rw [q, z] at e; cases e).trans (O.g.old a o e hm), O.g.sub, O.g.new, fun a o e => if q : a = L then (by subst q; obtain ⟨oL, _, _, hL, _⟩ := hn; exact ⟨oL, hL⟩) else let ⟨o', e'⟩ := O.g.live a o e; ⟨o', (hs.2 a q).trans e'⟩⟩
  ns := hn
  offL := O.offL
  newL := O.newL
  mn := fun p hp => ⟨(hs.2 _ (O.mn p hp).2.1).trans (O.mn p hp).1, (O.mn p hp).2⟩
  nd := O.nd

/-- what was there stays; nothing is said of new objects -/
theorem Ow.ext (O : Ow h₀ B₀ M₀ L B own m h) (hs : ∀ a o, h.get? a = some o → h'.get? a = some o) : Ow h₀ B₀ M₀ L B own m h' where
  g := ⟨fun a o e => hs a o (O.g.keep a o e), fun a o e hm => hs a o (O.g.old a o e hm), O.g.sub, O.g.new, fun a o e => let ⟨o', e'⟩ := O.g.live a o e; ⟨o', hs _ _ e'⟩⟩
  ns := O.ns.keeps hs
  offL := O.offL
  newL := O.newL
  mn := fun p hp => ⟨hs _ _ (O.mn p hp).1, (O.mn p hp).2⟩
  nd := O.nd
/-- a new object that stays as it is -/
theorem Ow.add (O : Ow h₀ B₀ M₀ L B own m h) (hf : o.isFreed = false) : Ow h₀ B₀ M₀ L (put B h.objs.size o) own m (h.push o) where
  g := ⟨fun a x e => by
      unfold put at e
      split at e
      · rename_i q; cases e; rw [q]; exact Heap.get?_push_size _ hf
      · exact Heap.get?_push_of_some _ (O.g.keep a x e),
    fun a x e hm => Heap.get?_push_of_some _ (O.g.old a x e hm),
    fun a x e => by
      have := O.g.sub a x e
      unfold put
      rw [if_neg]
      · exact this
      · rintro rfl
        exact Nat.lt_irrefl _ (get_lt (O.g.keep _ _ this)),
    fun a x e => by
      unfold put at e
      split at e
      · rename_i q; exact .inr (q ▸ O.g.fresh)
      · exact O.g.new a x e, fun a o e => let ⟨o', e'⟩ := O.g.live a o e; ⟨o', Heap.get?_push_of_some _ e'⟩⟩
  ns := O.ns.push _
  offL := by unfold put; rw [if_neg (Nat.ne_of_lt O.ltL)]; exact O.offL
  newL := O.newL
  mn := fun p hp => ⟨Heap.get?_push_of_some _ (O.mn p hp).1, (O.mn p hp).2.1, by
    unfold put; rw [if_neg (Nat.ne_of_lt (get_lt (O.mn p hp).1))]; exact (O.mn p hp).2.2.1, (O.mn p hp).2.2.2⟩
  nd := O.nd
theorem Ow.le_add (O : Ow h₀ B₀ M₀ L B own m h) (o : Obj) : Le B (put B h.objs.size o) := fun a x e => by
  unfold put
  rw [if_neg]
  · exact e
  · rintro rfl; exact Nat.lt_irrefl _ (get_lt (O.g.keep _ _ e))
theorem put_self (B : Sto) (a : Addr) (o : Obj) : put B a o a = some o := if_pos rfl

theorem Ow.B_size (O : Ow h₀ B₀ M₀ L B own m h) : B h.objs.size = none := by
  cases q : B h.objs.size with
  | none => rfl
  | some x => exact absurd (get_lt (O.g.keep _ _ q)) (Nat.lt_irrefl _)
/-- a new object of the frame's own, that may turn -/
theorem Ow.mine (O : Ow h₀ B₀ M₀ L B own m h) (hf : o.isFreed = false) : Ow h₀ B₀ M₀ L B ((h.objs.size, o) :: own) m (h.push o) where
  g := ⟨fun a x e => Heap.get?_push_of_some _ (O.g.keep a x e), fun a x e hm => Heap.get?_push_of_some _ (O.g.old a x e hm), O.g.sub, O.g.new, fun a o e => let ⟨o', e'⟩ := O.g.live a o e; ⟨o', Heap.get?_push_of_some _ e'⟩⟩
  ns := O.ns.push _
  offL := O.offL
  newL := O.newL
  mn := fun p hp => by
    rcases List.mem_cons.mp hp with rfl | hp
    · exact ⟨Heap.get?_push_size _ hf, Nat.ne_of_gt O.ltL, O.B_size, .inr (O.g.fresh)⟩
    · exact ⟨Heap.get?_push_of_some _ (O.mn p hp).1, (O.mn p hp).2⟩
  nd := List.Pairwise.cons (fun q hq => Nat.ne_of_gt (get_lt (O.mn q hq).1)) O.nd

/-- one of the frame's own turns -/
theorem Ow.turn (O : Ow h₀ B₀ M₀ L B own m h) (i : Nat) (hi : own[i]? = some (a, o)) (hs : Heap.SameBut a h h') (ho : h'.get? a = some o') : Ow h₀ B₀ M₀ L B (own.set i (a, o')) m h' := by
  have hm : (a, o) ∈ own := List.mem_of_getElem? hi
  have z := O.mn _ hm
  have ea : ∀ b x, B b = some x → b ≠ a := fun b x e q => by rw [q, z.2.2.1] at e; cases e
  refine ⟨⟨fun b x e => (hs.2 b (ea b x e)).trans (O.g.keep b x e), fun b x e hm' => ?_, O.g.sub, O.g.new, fun b x e => ?_⟩, O.ns.sameBut hs (Ne.symm z.2.1), O.offL, O.newL, fun p hp => ?_, ?_⟩
  · refine (hs.2 b fun q => ?_).trans (O.g.old b x e hm')
    subst q
    rcases z.2.2.2 with q | q
    · exact hm' q
    · rw [q] at e; cases e
  · by_cases q : b = a
    · exact ⟨o', q ▸ ho⟩
    · obtain ⟨x', e'⟩ := O.g.live b x e
      exact ⟨x', (hs.2 b q).trans e'⟩
  · obtain ⟨j, hj, rfl⟩ := List.mem_iff_getElem.mp hp
    have hj' : j < own.length := by simpa using hj
    rw [List.getElem_set]
    split
    · exact ⟨ho, z.2⟩
    · rename_i q
      have hp' : own[j] ∈ own := List.getElem_mem hj'
      have hne : own[j].1 ≠ a := by
        obtain ⟨hl, he⟩ := List.getElem?_eq_some_iff.mp hi
        have nd := List.pairwise_iff_getElem.mp O.nd
        rcases Nat.lt_or_gt_of_ne q with q | q
        · have := nd i j hl hj' q; rw [he] at this; exact Ne.symm this
        · have := nd j i hj' hl q; rw [he] at this; exact this
      exact ⟨(hs.2 _ hne).trans (O.mn _ hp').1, (O.mn _ hp').2⟩
  · have e : (own.set i (a, o')).map (·.1) = own.map (·.1) := by
      rw [List.map_set]
      apply List.ext_getElem? 
      intro j
      rw [List.getElem?_set]
      split
      · rename_i q
        subst q
        have : (own.map (·.1))[i]? = some a := by rw [List.getElem?_map, hi]; rfl
        rw [this]
        split
        · rfl
        · rename_i q2
          have := (List.getElem?_eq_some_iff.mp this).1
          exact absurd this q2
      · rfl
    have nd' : (own.map (·.1)).Pairwise (· ≠ ·) := List.pairwise_map.mpr O.nd
    rw [← e] at nd'
    exact List.pairwise_map.mp nd'

/-- the first of the frame's own will turn no more -/
theorem Ow.rest (O : Ow h₀ B₀ M₀ L B ((a, o) :: own) m h) (hn : a ∉ M₀) : Ow h₀ B₀ M₀ L (put B a o) own m h ∧ Le B (put B a o) ∧ put B a o a = some o := by
  have z := O.mn (a, o) (.head _)
  have le : Le B (put B a o) := fun b x e => by
    unfold put; rw [if_neg]
    · exact e
    · rintro rfl; rw [z.2.2.1] at e; cases e
  refine ⟨⟨⟨fun b x e => ?_, O.g.old, Le.trans O.g.sub le, fun b x e => ?_, O.g.live⟩, O.ns, ?_, O.newL, fun p hp => ?_, (List.pairwise_cons.mp O.nd).2⟩, le, put_self ..⟩
  · unfold put at e
    split at e
    · rename_i q; cases e; rw [q]; exact z.1
    · exact O.g.keep b x e
  · unfold put at e
    split at e
    · rename_i q
      rcases z.2.2.2 with r | r
      · exact absurd r hn
      · exact .inr (q ▸ r)
    · exact O.g.new b x e
  · unfold put; rw [if_neg (Ne.symm z.2.1)]; exact O.offL
  · have y := O.mn p (.tail _ hp)
    refine ⟨y.1, y.2.1, ?_, y.2.2.2⟩
    unfold put
    rw [if_neg (Ne.symm ((List.pairwise_cons.mp O.nd).1 p hp))]
    exact y.2.2.1

/-- objects that are no more asked for -/
theorem Ow.drop (O : Ow h₀ B₀ M₀ L B own m h) {own' : Own} (hs : own'.Sublist own) : Ow h₀ B₀ M₀ L B own' m h :=
  ⟨O.g, O.ns, O.offL, O.newL, fun p hp => O.mn p (hs.subset hp), O.nd.sublist hs⟩

/-- a call that turned nothing of what was there -/
theorem Ow.call (O : Ow h₀ B₀ M₀ L B own m h) (G : Grow h B [] B' h') : Ow h₀ B₀ M₀ L B' own m h' := by
  have old : ∀ a o, h.get? a = some o → h'.get? a = some o := fun a o e => G.old a o e (by simp)
  have off : ∀ a o, h.get? a = some o → B a = none → B' a = none := fun a o e q => by
    cases r : B' a with
    | none => rfl
    | some x => rcases G.new a x r with z | z
                · rw [q] at z; cases z
                · rw [e] at z; cases z
  obtain ⟨oL, x1, x2, hL, x3⟩ := O.ns
  refine ⟨⟨G.keep, fun a o e hm => old a o (O.g.old a o e hm), Le.trans O.g.sub G.sub, fun a o e => ?_, fun a o e => let ⟨o', e'⟩ := O.g.live a o e; ⟨o', old _ _ e'⟩⟩, ⟨oL, x1, x2, old _ _ hL, x3⟩, off _ _ hL O.offL, O.newL,
    fun p hp => ⟨old _ _ (O.mn p hp).1, (O.mn p hp).2.1, off _ _ (O.mn p hp).1 (O.mn p hp).2.2.1, (O.mn p hp).2.2.2⟩, O.nd⟩
  rcases G.new a o e with z | z
  · exact O.g.new a o z
  · refine .inr ?_
    cases q : h₀.get? a with
    | none => rfl
    | some x => obtain ⟨o', e'⟩ := O.g.live a x q; rw [z] at e'; cases e'

/-- the same frame, seen from now -/
theorem Ow.start (O : Ow h₀ B₀ M₀ L B own m h) : Ow h B (L :: own.map (·.1)) L B own m h where
  g := ⟨O.g.keep, fun _ _ e _ => e, Le.refl _, fun _ _ e => .inl e, fun _ o e => ⟨o, e⟩⟩
  ns := O.ns
  offL := O.offL
  newL := .inl (.head _)
  mn := fun p hp => ⟨(O.mn p hp).1, (O.mn p hp).2.1, (O.mn p hp).2.2.1, .inl (.tail _ (List.mem_map_of_mem hp))⟩
  nd := O.nd
/-- what was done since -/
theorem Ow.comp (O : Ow h₀ B₀ M₀ L B own m h) {own' : Own} (N : Ow h B (L :: own.map (·.1)) L B' own' m' h') : Ow h₀ B₀ M₀ L B' own' m' h' where
  g := by
    refine ⟨N.g.keep, fun a o e hm => N.g.old a o (O.g.old a o e hm) fun q => ?_, Le.trans O.g.sub N.g.sub, fun a o e => ?_, fun a o e => ?_⟩
    · rcases List.mem_cons.mp q with rfl | q
      · exact O.newL.elim hm fun z => by rw [z] at e; cases e
      · obtain ⟨p, hp, rfl⟩ := List.mem_map.mp q
        rcases (O.mn p hp).2.2.2 with z | z
        · exact hm z
        · rw [z] at e; cases e
    · rcases N.g.new a o e with z | z
      · exact O.g.new a o z
      · refine .inr ?_
        cases q : h₀.get? a with
        | none => rfl
        | some x => obtain ⟨o', e'⟩ := O.g.live a x q; rw [z] at e'; cases e'
    · obtain ⟨o', e'⟩ := O.g.live a o e
      exact N.g.live a o' e'
  ns := N.ns
  offL := N.offL
  newL := O.newL
  mn := fun p hp => by
    have z := N.mn p hp
    refine ⟨z.1, z.2.1, z.2.2.1, ?_⟩
    rcases z.2.2.2 with q | q
    · rcases List.mem_cons.mp q with q | q
      · exact absurd q z.2.1
      · obtain ⟨p', hp', e⟩ := List.mem_map.mp q
        rw [← e]; exact (O.mn p' hp').2.2.2
    · refine .inr ?_
      cases r : h₀.get? p.1 with
      | none => rfl
      | some x => obtain ⟨o', e'⟩ := O.g.live _ x r; rw [q] at e'; cases e'
  nd := N.nd

/-- others than the known ones turn -/
theorem Ow.extBut (O : Ow h₀ B₀ M₀ L B own m h) {wr : List Addr} (hs : ∀ b o, b ∉ wr → h.get? b = some o → h'.get? b = some o) (hwL : L ∉ wr) (hwB : ∀ b ∈ wr, B b = none) (hwo : ∀ p ∈ own, p.1 ∉ wr) (hw0 : ∀ b ∈ wr, h₀.get? b = none) :
    Ow h₀ B₀ M₀ L B own m h' where
  g := ⟨fun a o e => hs a o (fun q => by rw [hwB a q] at e; cases e) (O.g.keep a o e), fun a o e hm => hs a o (fun q => by rw [hw0 a q] at e; cases e) (O.g.old a o e hm), O.g.sub, O.g.new,
    fun a o e => let ⟨o', e'⟩ := O.g.live a o e; ⟨o', hs a o' (fun q => by rw [hw0 a q] at e; cases e) e'⟩⟩
  ns := by obtain ⟨oL, x1, x2, hL, x3⟩ := O.ns; exact ⟨oL, x1, x2, hs _ _ hwL hL, x3⟩
  offL := O.offL
  newL := O.newL
  mn := fun p hp => ⟨hs _ _ (hwo p hp) (O.mn p hp).1, (O.mn p hp).2⟩
  nd := O.nd

/-- a call that turned some of the frame's own -/
theorem Ow.callM (O : Ow h₀ B₀ M₀ L B own m h) {M : List Addr} {own' : Own} (G : Grow h B M B' h') (hM : ∀ b ∈ M, ∃ p ∈ own, p.1 = b) (ha : own'.map (·.1) = own.map (·.1))
    (ho : ∀ p ∈ own', (p ∈ own ∧ p.1 ∉ M) ∨ (h'.get? p.1 = some p.2 ∧ B' p.1 = none)) : Ow h₀ B₀ M₀ L B' own' m h' := by
  have off : ∀ a o, h.get? a = some o → B a = none → B' a = none := fun a o e q => by
    cases r : B' a with
    | none => rfl
    | some x => rcases G.new a x r with z | z
                · rw [q] at z; cases z
                · rw [e] at z; cases z
  have hML : L ∉ M := fun q => by obtain ⟨p, hp, e⟩ := hM L q; exact (O.mn p hp).2.1 e
  obtain ⟨oL, x1, x2, hL, x3⟩ := O.ns
  refine ⟨⟨G.keep, fun a o e hm => G.old a o (O.g.old a o e hm) fun q => ?_, Le.trans O.g.sub G.sub, fun a o e => ?_, fun a o e => let ⟨o', e'⟩ := O.g.live a o e; G.live a o' e'⟩, ⟨oL, x1, x2, G.old _ _ hL hML, x3⟩, off _ _ hL O.offL, O.newL, fun p hp => ?_, ?_⟩
  · obtain ⟨p, hp, rfl⟩ := hM a q
    rcases (O.mn p hp).2.2.2 with z | z
    · exact hm z
    · rw [z] at e; cases e
  · rcases G.new a o e with z | z
    · exact O.g.new a o z
    · refine .inr ?_
      cases q : h₀.get? a with
      | none => rfl
      | some x => obtain ⟨o', e'⟩ := O.g.live a x q; rw [z] at e'; cases e'
  · have hm : p.1 ∈ own.map (·.1) := ha ▸ List.mem_map_of_mem hp
    obtain ⟨p0, hp0, e0⟩ := List.mem_map.mp hm
    have z := O.mn p0 hp0
    rw [e0] at z
    rcases ho p hp with q | q
    · exact ⟨G.old _ _ (O.mn p q.1).1 q.2, z.2.1, off _ _ (O.mn p q.1).1 z.2.2.1, z.2.2.2⟩
    · exact ⟨q.1, z.2.1, q.2, z.2.2.2⟩
  · have nd' : (own.map (·.1)).Pairwise (· ≠ ·) := List.pairwise_map.mpr O.nd
    rw [← ha] at nd'
    exact List.pairwise_map.mp nd'
end
end

section
open PySem PySem.W PySem.Calls PyProof.Rows

section
variable {prog : Program} {w : World} {A : Around} {R : Result → Shared → Prop} {env : Env} {E : Value → Shared → Prop}
variable {h₀ h h' : Heap} {B₀ B B' : Sto} {M₀ : List Addr} {L I a l : Addr} {own own' : Own} {m m' : Str → Option Value} {o o' : Obj}
variable {g : Array GenState} {d : Drawn} {t : Nat} {os : OsState} {n : Nat}

/-- how a turn of a loop ends -/
def TurnEnd (h₁ : Heap) (B₁ : Sto) (own₁ : Own) (L : Addr) (g : Array GenState) (d : Drawn) (os : OsState) (Inv : Sto → Own → (Str → Option Value) → Prop) (s : Shared) : Prop :=
  ∃ B own m h t, s = ⟨h, g, d, t, os⟩ ∧ Ow h₁ B₁ (L :: own₁.map (·.1)) L B own m h ∧ Inv B own m

def Apart (fp : List Addr) (L : Addr) (own : Own) (h : Heap) : Prop := ∀ b ∈ fp, b ≠ L ∧ (∀ p ∈ own, p.1 ≠ b) ∧ ∃ o, h.get? b = some o

theorem Apart.mono {fp : List Addr} (x : Apart fp L own h) (N : Ow h B (L :: own.map (·.1)) L B' own' m' h') : Apart fp L own' h' := fun b hb => by
  obtain ⟨a1, a2, o, a3⟩ := x b hb
  refine ⟨a1, fun p hp e => ?_, N.g.live _ _ a3⟩
  rcases (N.mn p hp).2.2.2 with q | q
  · rcases List.mem_cons.mp q with q | q
    · exact a1 (e ▸ q)
    · obtain ⟨p', hp', e'⟩ := List.mem_map.mp q
      exact a2 p' hp' (e'.trans e)
  · rw [e, a3] at q; cases q
theorem Apart.stay {fp : List Addr} (x : Apart fp L own h) (N : Ow h B (L :: own.map (·.1)) L B' own' m' h') : ∀ b ∈ fp, ∀ o, h.get? b = some o → h'.get? b = some o := fun b hb o e => by
  obtain ⟨a1, a2, _⟩ := x b hb
  refine N.g.old b o e fun q => ?_
  rcases List.mem_cons.mp q with q | q
  · exact a1 q
  · obtain ⟨p', hp', e'⟩ := List.mem_map.mp q
    exact a2 p' hp' e'
theorem off_mono {wr : List Addr} (x : ∀ b ∈ wr, B b = none ∧ ∃ o, h.get? b = some o) (N : Grow h B M₀ B' h') : ∀ b ∈ wr, B' b = none ∧ ∃ o, h'.get? b = some o := fun b hb => by
  obtain ⟨y, o, e⟩ := x b hb
  refine ⟨?_, N.live _ _ e⟩
  cases r : B' b with
  | none => rfl
  | some z => rcases N.new b z r with q | q
              · rw [y] at q; cases q
              · rw [e] at q; cases q

theorem for_walk {target : Expr} {body : List Stmt} {fp wr : List Addr} {P : Nat → Value → Prop} {St : Nat → Heap → Prop} (W : Walks prog w A I fp wr n P St) (live : ∀ i h, St i h → ∀ b ∈ wr, ∃ o, h.get? b = some o) (hst : St 0 h) (O : Ow h₀ B₀ M₀ L B own m h)
    (hfp : Apart fp L own h) (hwB : ∀ b ∈ wr, B b = none) (hw0 : ∀ b ∈ wr, h₀.get? b = none) (Inv : Nat → Sto → Own → (Str → Option Value) → Prop) (h0 : Inv 0 B own m)
    (turn : ∀ i v B' own' m' h' t', i < n → P i v → Inv i B' own' m' → Le B B' → Ow h₀ B₀ M₀ L B' own' m' h' → Ow h' B' (L :: own'.map (·.1)) L B' own' m' h' →
      wpAny (model prog w) A (assign target env v) (fun _ s₂ => wpAny (model prog w) A (execs body env) (fun f s₃ => match f with
        | .next | .cont => TurnEnd h' B' own' L g d os (Inv (i + 1)) s₃
        | .brk => R (.ok .next) s₃
        | .ret v => R (.ok (.ret v)) s₃) (notedBy (model prog w) A env fun e s' => R (.error e) s') s₂) (notedBy (model prog w) A env fun e s' => R (.error e) s') ⟨h', g, d, t', os⟩)
    (done : ∀ B' own' m' h' t', Inv n B' own' m' → Le B B' → Ow h₀ B₀ M₀ L B' own' m' h' → R (.ok .next) ⟨h', g, d, t', os⟩)
    (ht : ∀ v, letOwnedTupleGo target (.ref I) v = pure () := by intro _; rfl) :
    codeAny (model prog w) A (.forLoop target (.ref I) body [] env) R ⟨h, g, d, t, os⟩ := by
  refine codeAny_forLoop (fun k s' => ∃ i B' own' m' h' t', s' = ⟨h', g, d, t', os⟩ ∧ k = n + 1 - i ∧ i ≤ n ∧ St i h' ∧ Ow h₀ B₀ M₀ L B' own' m' h' ∧ Inv i B' own' m' ∧ Le B B' ∧ Apart fp L own' h' ∧ (∀ b ∈ wr, B' b = none))
    ?_ (n + 1) ⟨0, B, own, m, h, t, rfl, rfl, Nat.zero_le _, hst, O, h0, Le.refl _, hfp, hwB⟩ ht
  rintro k s' ⟨i, B₁, own₁, m₁, h₁, t₁, rfl, rfl, hi, st, O₁, inv, le, ap, wB⟩
  by_cases hlt : i < n
  · refine W.item i _ _ _ hlt st fun v h₂ t₂ hP st₂ hk => ?_
    have hwL : L ∉ wr := fun q => (ap L (W.sub _ q)).1 rfl
    have hwo : ∀ p ∈ own₁, p.1 ∉ wr := fun p hp q => (ap _ (W.sub _ q)).2.1 p hp rfl
    have O₂ : Ow h₀ B₀ M₀ L B₁ own₁ m₁ h₂ := O₁.extBut hk hwL wB hwo hw0
    have ap₂ : Apart fp L own₁ h₂ := fun b hb => by
      obtain ⟨a1, a2, o, a3⟩ := ap b hb
      refine ⟨a1, a2, ?_⟩
      by_cases q : b ∈ wr
      · exact live _ _ st₂ b q
      · exact ⟨o, hk b o q a3⟩
    refine wpAny_mono (turn i v B₁ own₁ m₁ h₂ t₂ hlt hP inv le O₂ O₂.start) (fun _ s₂ y => wpAny_mono y (fun f s₃ z => ?_) fun _ _ e => e) fun _ _ e => e
    have fin : TurnEnd h₂ B₁ own₁ L g d os (Inv (i + 1)) s₃ → ∃ m, m < n + 1 - i ∧ ∃ i B' own' m' h' t', s₃ = ⟨h', g, d, t', os⟩ ∧ m = n + 1 - i ∧ i ≤ n ∧ St i h' ∧ Ow h₀ B₀ M₀ L B' own' m' h' ∧ Inv i B' own' m' ∧ Le B B' ∧ Apart fp L own' h' ∧ (∀ b ∈ wr, B' b = none) := by
      rintro ⟨B₃, own₃, m₃, h₃, t₃, rfl, N, inv₃⟩
      refine ⟨n + 1 - (i + 1), by (first | lia | omega), i + 1, B₃, own₃, m₃, h₃, t₃, rfl, rfl, hlt, W.frame _ _ _ st₂ (ap₂.stay N), O₂.comp N, inv₃, Le.trans le N.g.sub, ap₂.mono N, fun b hb => ?_⟩
      exact (off_mono (wr := wr) (fun b hb => ⟨wB b hb, (ap₂ b (W.sub _ hb)).2.2⟩) N.g b hb).1
    cases f with
    | next => exact fin z
    | cont => exact fin z
    | brk => exact z
    | ret v => exact z
  · obtain rfl : i = n := by (first | lia | omega)
    refine W.done _ _ _ st fun h₂ t₂ hk => wpAny_execs_nil ?_
    exact done _ _ _ _ _ inv le (O₁.extBut hk (fun q => (ap L (W.sub _ q)).1 rfl) wB (fun p hp q => (ap _ (W.sub _ q)).2.1 p hp rfl) hw0)

/-- the same, where an item is a tuple that the loop takes apart -/
theorem for_walkT {elts : List Expr} {tk : Nat} {tpos : Pos} {body : List Stmt} {fp wr : List Addr} {Pt : Nat → Array Value → Prop} {St : Nat → Heap → Prop} {Mid : Nat → Addr → Heap → Prop} (hh : A.handled = none)
    (W : WalksU prog w A I fp wr n Pt St Mid) (live : ∀ i h, St i h → ∀ b ∈ wr, ∃ o, h.get? b = some o) (hst : St 0 h) (O : Ow h₀ B₀ M₀ L B own m h)
    (hfp : Apart fp L own h) (hwB : ∀ b ∈ wr, B b = none) (hw0 : ∀ b ∈ wr, h₀.get? b = none) (Inv : Nat → Sto → Own → (Str → Option Value) → Prop) (h0 : Inv 0 B own m)
    (hstar : (assignEach elts env).findIdx? (·.1) = none) (hlen : ∀ i vals, Pt i vals → (assignEach elts env).length = vals.size)
    (turn : ∀ i vals B' own' m' h' t', i < n → Pt i vals → Inv i B' own' m' → Le B B' → Ow h₀ B₀ M₀ L B' own' m' h' → Ow h' B' (L :: own'.map (·.1)) L B' own' m' h' →
      wpAny (model prog w) A (assignInOrder ((assignEach elts env).map (·.2)) vals.toList) (fun _ s₂ => wpAny (model prog w) A (execs body env) (fun f s₃ => match f with
        | .next | .cont => TurnEnd h' B' own' L g d os (Inv (i + 1)) s₃
        | .brk => R (.ok .next) s₃
        | .ret v => R (.ok (.ret v)) s₃) (notedBy (model prog w) A env fun e s' => R (.error e) s') s₂) (notedBy (model prog w) A env fun e s' => R (.error e) s') ⟨h', g, d, t', os⟩)
    (done : ∀ B' own' m' h' t', Inv n B' own' m' → Le B B' → Ow h₀ B₀ M₀ L B' own' m' h' → R (.ok .next) ⟨h', g, d, t', os⟩) :
    codeAny (model prog w) A (.forLoop (.Tuple elts tk tpos) (.ref I) body [] env) R ⟨h, g, d, t, os⟩ := by
  refine codeAny_forLoop_any (fun k s' => ∃ i B' own' m' h' t', s' = ⟨h', g, d, t', os⟩ ∧ k = n + 1 - i ∧ i ≤ n ∧ St i h' ∧ Ow h₀ B₀ M₀ L B' own' m' h' ∧ Inv i B' own' m' ∧ Le B B' ∧ Apart fp L own' h' ∧ (∀ b ∈ wr, B' b = none))
    ?_ (n + 1) ⟨0, B, own, m, h, t, rfl, rfl, Nat.zero_le _, hst, O, h0, Le.refl _, hfp, hwB⟩
  rintro k s' ⟨i, B₁, own₁, m₁, h₁, t₁, rfl, rfl, hi, st, O₁, inv, le, ap, wB⟩
  have hwL : L ∉ wr := fun q => (ap L (W.sub _ q)).1 rfl
  have hwo : ∀ p ∈ own₁, p.1 ∉ wr := fun p hp q => (ap _ (W.sub _ q)).2.1 p hp rfl
  by_cases hlt : i < n
  · refine W.item i _ _ _ hlt st fun T vals h₂ t₂ hP isT mid hk => ?_
    have O₂ : Ow h₀ B₀ M₀ L B₁ own₁ m₁ h₂ := O₁.extBut hk hwL wB hwo hw0
    refine W.go elts tk tpos i T _ _ _ mid fun h₃ st₃ hk₃ => ?_
    have O₃ : Ow h₀ B₀ M₀ L B₁ own₁ m₁ h₃ := O₂.extBut hk₃ hwL wB hwo hw0
    have ap₃ : Apart fp L own₁ h₃ := fun b hb => by
      obtain ⟨a1, a2, o, a3⟩ := ap b hb
      refine ⟨a1, a2, ?_⟩
      by_cases q : b ∈ wr
      · exact live _ _ st₃ b q
      · exact ⟨o, hk₃ b o q (hk b o q a3)⟩
    have isT₃ : IsTup h₃ T vals := by
      obtain ⟨oT, eT, r⟩ := isT
      exact ⟨oT, hk₃ _ _ (W.apart _ _ _ mid) eT, r⟩
    refine assign_Tuple_tuple hh isT₃ (hlen _ _ hP) hstar fun h₄ he => ?_
    have he' : ∀ b o, h₃.get? b = some o → h₄.get? b = some o := fun b o e => he b o (Nat.ne_of_lt (Heap.lt_size e)) e
    have O₄ : Ow h₀ B₀ M₀ L B₁ own₁ m₁ h₄ := O₃.ext he'
    have ap₄ : Apart fp L own₁ h₄ := fun b hb => let ⟨a1, a2, o, a3⟩ := ap₃ b hb; ⟨a1, a2, o, he' _ _ a3⟩
    have st₄ : St (i + 1) h₄ := W.frame _ _ _ st₃ fun b hb o e => he' b o e
    refine wpAny_mono (turn i vals B₁ own₁ m₁ h₄ t₂ hlt hP inv le O₄ O₄.start) (fun _ s₂ y => wpAny_mono y (fun f s₃ z => ?_) fun _ _ e => e) fun _ _ e => e
    have fin : TurnEnd h₄ B₁ own₁ L g d os (Inv (i + 1)) s₃ → ∃ m, m < n + 1 - i ∧ ∃ i B' own' m' h' t', s₃ = ⟨h', g, d, t', os⟩ ∧ m = n + 1 - i ∧ i ≤ n ∧ St i h' ∧ Ow h₀ B₀ M₀ L B' own' m' h' ∧ Inv i B' own' m' ∧ Le B B' ∧ Apart fp L own' h' ∧ (∀ b ∈ wr, B' b = none) := by
      rintro ⟨B₃, own₃, m₃, h₃, t₃, rfl, N, inv₃⟩
      refine ⟨n + 1 - (i + 1), by (first | lia | omega), i + 1, B₃, own₃, m₃, h₃, t₃, rfl, rfl, hlt, W.frame _ _ _ st₄ (ap₄.stay N), O₄.comp N, inv₃, Le.trans le N.g.sub, ap₄.mono N, fun b hb => ?_⟩
      exact (off_mono (wr := wr) (fun b hb => ⟨wB b hb, (ap₄ b (W.sub _ hb)).2.2⟩) N.g b hb).1
    cases f with
    | next => exact fin z
    | cont => exact fin z
    | brk => exact z
    | ret v => exact z
  · obtain rfl : i = n := by (first | lia | omega)
    refine W.done _ _ _ st fun h₂ t₂ hk => wpAny_execs_nil ?_
    exact done _ _ _ _ _ inv le (O₁.extBut hk hwL wB hwo hw0)
end
end

section
open PySem PySem.W PySem.Calls PyProof.Rows

def HasNs (o : Obj) (m : Str → Option Value) : Prop := ∃ es ep, o.data = .dict es ep ∧ StrKeys es ∧ ∀ name, nsFind es name = m name
theorem hasNs_of {h : Heap} {L : Addr} {m : Str → Option Value} (x : h.Ns L m) : ∃ o, h.get? L = some o ∧ HasNs o m := let ⟨o, es, ep, a, b, c, e⟩ := x; ⟨o, a, es, ep, b, c, e⟩
theorem HasNs.ns {h : Heap} {L : Addr} {o : Obj} {m : Str → Option Value} (x : HasNs o m) (e : h.get? L = some o) : h.Ns L m := let ⟨es, ep, b, c, y⟩ := x; ⟨o, es, ep, e, b, c, y⟩

section
variable {prog : Program} {w : World} {A : Around} {R : Result → Shared → Prop} {env : Env} {E : Value → Shared → Prop}
variable {h₀ h h' : Heap} {B₀ B B' : Sto} {M₀ : List Addr} {L I a l C : Addr} {own own' : Own} {m m' mc : Str → Option Value} {o o' oL oC : Obj}
variable {g : Array GenState} {d : Drawn} {t : Nat} {os : OsState} {n : Nat}

theorem Ow.adopt (O : Ow h₀ B₀ M₀ L B own m h) (e : h.get? a = some o) (hB : B a = none) (hL : a ≠ L) (ho : ∀ p ∈ own, p.1 ≠ a) (h0 : h₀.get? a = none) : Ow h₀ B₀ M₀ L B ((a, o) :: own) m h where
  g := O.g
  ns := O.ns
  offL := O.offL
  newL := O.newL
  mn := fun p hp => by
    rcases List.mem_cons.mp hp with rfl | hp
    · exact ⟨e, hL, hB, .inr h0⟩
    · exact O.mn p hp
  nd := List.Pairwise.cons (fun q hq => Ne.symm (ho q hq)) O.nd

/-- another frame is looked at -/
theorem Ow.swap (O : Ow h₀ B₀ M₀ C B ((L, oL) :: own) mc h) (hL : HasNs oL m) : ∃ oC, HasNs oC mc ∧ Ow h₀ B₀ M₀ L B ((C, oC) :: own) m h := by
  obtain ⟨oC, eC, nC⟩ := hasNs_of O.ns
  have z := O.mn (L, oL) (.head _)
  have nd := List.pairwise_cons.mp O.nd
  refine ⟨oC, nC, O.g, hL.ns z.1, z.2.2.1, z.2.2.2, fun p hp => ?_, List.Pairwise.cons (fun q hq => Ne.symm (O.mn q (.tail _ hq)).2.1) nd.2⟩
  rcases List.mem_cons.mp hp with rfl | hp
  · exact ⟨eC, Ne.symm z.2.1, O.offL, O.newL⟩
  · have y := O.mn p (.tail _ hp)
    exact ⟨y.1, Ne.symm (nd.1 p hp), y.2.2⟩

/-- a frame that is done with -/
theorem Ow.gone (O : Ow h₀ B₀ M₀ L B ((C, oC) :: own) m h) (h0 : h₀.get? C = none) (hs : Heap.SameBut C h h') : Ow h₀ B₀ M₀ L B own m h' := by
  have z := O.mn (C, oC) (.head _)
  have nd := List.pairwise_cons.mp O.nd
  refine (O.drop (List.sublist_cons_self _ _)).extBut (wr := [C]) (fun b o hb e => (hs.2 b fun q => hb (q ▸ .head _)).trans e) (fun q => ?_) (fun b hb => ?_) (fun p hp q => ?_) fun b hb => ?_
  · rw [List.mem_singleton] at q; exact z.2.1 q.symm
  · rw [List.mem_singleton.mp hb]; exact z.2.2.1
  · rw [List.mem_singleton] at q; exact nd.1 p hp q.symm
  · rw [List.mem_singleton.mp hb]; exact h0

/-- the block of a comprehension -/
theorem comp_in {elt target iter : Expr} {ifs : List Expr} {rest : List Comprehension} {scope : Scope} {pos : Pos} {cl : List (Str × Addr)} {I : Addr} {RR : Value → Addr → Result → Shared → Prop}
    (O : Ow h₀ B₀ M₀ L B own m h) (hkind : scope.kind = .function) (hcell : ∀ y ∈ scope.names, y.2 ≠ .cell)
    (self : ∀ (h' : Heap) (t' : Nat) (Q : Value → Shared → Prop) (E : Value → Shared → Prop), (∀ b o, h.get? b = some o → h'.get? b = some o) → Q (.ref I) ⟨h', g, d, t', os⟩ → wpAny (model prog w) A (pyIter (.ref I)) Q E ⟨h', g, d, t', os⟩)
    (k : ∀ D C oL h' t', h₀.get? C = none → h₀.get? D = none → HasNs oL m → (∀ b o, h.get? b = some o → h'.get? b = some o) → h.objs.size ≤ D → h.objs.size ≤ C → Ow h₀ B₀ M₀ C B ((L, oL) :: (D, listOf #[] 0) :: own) (fun _ => none) h' →
      codeAny (model prog w) A (.compLoop (.ListComp elt (⟨target, iter, ifs, 0⟩ :: rest) scope pos) 0 (.ref I) (.ref D) (compEnvC scope cl C env)) (RR (.ref D) C) ⟨h', g, d, t', os⟩) :
    wpAny (model prog w) A (newList []) (fun acc s₃ => wpAny (model prog w) A (newFunctionEnv scope env.globals cl [] env.qual none .none (some env)) (fun cenv s₄ =>
      codeAny (model prog w) A (.compStart (.ListComp elt (⟨target, iter, ifs, 0⟩ :: rest) scope pos) 0 (.ref I) acc { cenv with scope := relabel scope env }) (RR acc cenv.locals) s₄) E s₃) E ⟨h, g, d, t, os⟩ := by
  refine wpAny_newObj_type (wpAny_newFunctionEnv hcell (by intro y hy; simp at hy) (fun h₁ hns₁ hsb₁ => ?_) hkind)
  dsimp only at hns₁ hsb₁ ⊢
  have O1 := O.mine (o := listOf #[] 0) rfl
  have sz : (h.push (listOf #[] 0)).objs.size = h.objs.size + 1 := Heap.size_push ..
  have old1 : ∀ b o, (h.push (listOf #[] 0)).get? b = some o → h₁.get? b = some o := fun b o e =>
    hsb₁.extBut b o (Nat.ne_of_lt (Heap.lt_size e)) (Heap.get?_push_of_some _ e)
  have O2 := O1.ext old1
  obtain ⟨oC, eC, nC⟩ := hasNs_of hns₁
  have hC0 : h₀.get? (h.push (listOf #[] 0)).objs.size = none := O1.g.fresh
  have O3 := O2.adopt (a := (h.push (listOf #[] 0)).objs.size) eC O1.B_size (Nat.ne_of_gt O1.ltL) (fun p hp => Nat.ne_of_lt (get_lt (O1.mn p hp).1)) hC0
  obtain ⟨oL, nL, O4⟩ := O3.swap nC
  have start : ∀ s₄ : Shared, s₄ = ⟨h₁, g, d, t + 0, os⟩ → codeAny (model prog w) A (.compLoop (.ListComp elt (⟨target, iter, ifs, 0⟩ :: rest) scope pos) 0 (.ref I) (.ref h.objs.size) (compEnvC scope cl (h.push (listOf #[] 0)).objs.size env)) (RR (.ref h.objs.size) (h.push (listOf #[] 0)).objs.size) s₄ := by
    rintro s₄ rfl
    exact k _ _ oL h₁ _ hC0 O.g.fresh nL (fun b o e => old1 b o (Heap.get?_push_of_some _ e)) (Nat.le_refl _) (by rw [sz]; exact Nat.le_succ _) O4
  exact codeAny_compStart_list (start _ rfl) (self h₁ _ _ _ (fun b o e => old1 b o (Heap.get?_push_of_some _ e)) (start _ rfl))
end
end

section
open PySem PySem.W PySem.Calls PyProof.Rows
open Sem (wp)

section
variable {prog : Program} {w : World} {A : Around} {R : Result → Shared → Prop} {env : Env} {E : Value → Shared → Prop}
variable {h₀ h h' : Heap} {B₀ B B' : Sto} {M₀ : List Addr} {L I a l C : Addr} {own own' : Own} {m m' mc : Str → Option Value} {o o' oL oC : Obj}
variable {g : Array GenState} {d : Drawn} {t : Nat} {os : OsState} {n : Nat}

theorem comp_loop {target elt iter : Expr} {scope : Scope} {pos : Pos} {acc : Value} {fp wr : List Addr} {P : Nat → Value → Prop} {St : Nat → Heap → Prop} (W : Walks prog w A I fp wr n P St) (live : ∀ i h, St i h → ∀ b ∈ wr, ∃ o, h.get? b = some o) (hst : St 0 h) (O : Ow h₀ B₀ M₀ L B own m h)
    (hfp : Apart fp L own h) (hwB : ∀ b ∈ wr, B b = none) (hw0 : ∀ b ∈ wr, h₀.get? b = none) (Inv : Nat → Sto → Own → (Str → Option Value) → Prop) (h0 : Inv 0 B own m)
    (turn : ∀ i v B' own' m' h' t', i < n → P i v → Inv i B' own' m' → Le B B' → Ow h₀ B₀ M₀ L B' own' m' h' → Ow h' B' (L :: own'.map (·.1)) L B' own' m' h' →
      wpAny (model prog w) A (assign target env v) (fun _ s₂ => wpAny (model prog w) A (eval elt env) (fun x s₃ => wpAny (model prog w) A (call (.builtin "list.append") [acc, x]) (fun _ s₄ => TurnEnd h' B' own' L g d os (Inv (i + 1)) s₄)
        (notedBy (model prog w) A env fun e s' => R (.error e) s') s₃) (notedBy (model prog w) A env fun e s' => R (.error e) s') s₂) (notedBy (model prog w) A env fun e s' => R (.error e) s') ⟨h', g, d, t', os⟩)
    (done : ∀ B' own' m' h' t', Inv n B' own' m' → Le B B' → Ow h₀ B₀ M₀ L B' own' m' h' → R (.ok .next) ⟨h', g, d, t', os⟩)
    (ht : ∀ v, letOwnedTupleGo target (.ref I) v = pure () := by intro _; rfl) :
    codeAny (model prog w) A (.compLoop (.ListComp elt [⟨target, iter, [], 0⟩] scope pos) 0 (.ref I) acc env) R ⟨h, g, d, t, os⟩ := by
  refine codeAny_compLoop_list (fun k s' => ∃ i B' own' m' h' t', s' = ⟨h', g, d, t', os⟩ ∧ k = n + 1 - i ∧ i ≤ n ∧ St i h' ∧ Ow h₀ B₀ M₀ L B' own' m' h' ∧ Inv i B' own' m' ∧ Le B B' ∧ Apart fp L own' h' ∧ (∀ b ∈ wr, B' b = none))
    ?_ (n + 1) ⟨0, B, own, m, h, t, rfl, rfl, Nat.zero_le _, hst, O, h0, Le.refl _, hfp, hwB⟩ ht
  rintro k s' ⟨i, B₁, own₁, m₁, h₁, t₁, rfl, rfl, hi, st, O₁, inv, le, ap, wB⟩
  by_cases hlt : i < n
  · refine W.item i _ _ _ hlt st fun v h₂ t₂ hP st₂ hk => ?_
    have hwL : L ∉ wr := fun q => (ap L (W.sub _ q)).1 rfl
    have hwo : ∀ p ∈ own₁, p.1 ∉ wr := fun p hp q => (ap _ (W.sub _ q)).2.1 p hp rfl
    have O₂ : Ow h₀ B₀ M₀ L B₁ own₁ m₁ h₂ := O₁.extBut hk hwL wB hwo hw0
    have ap₂ : Apart fp L own₁ h₂ := fun b hb => by
      obtain ⟨a1, a2, o, a3⟩ := ap b hb
      refine ⟨a1, a2, ?_⟩
      by_cases q : b ∈ wr
      · exact live _ _ st₂ b q
      · exact ⟨o, hk b o q a3⟩
    refine wpAny_mono (turn i v B₁ own₁ m₁ h₂ t₂ hlt hP inv le O₂ O₂.start) (fun _ s₂ y => wpAny_mono y (fun x s₃ z => wpAny_mono z (fun _ s₄ u => ?_) fun _ _ e => e) fun _ _ e => e) fun _ _ e => e
    obtain ⟨B₃, own₃, m₃, h₃, t₃, rfl, N, inv₃⟩ := u
    refine ⟨n + 1 - (i + 1), by (first | lia | omega), i + 1, B₃, own₃, m₃, h₃, t₃, rfl, rfl, hlt, W.frame _ _ _ st₂ (ap₂.stay N), O₂.comp N, inv₃, Le.trans le N.g.sub, ap₂.mono N, fun b hb => ?_⟩
    exact (off_mono (wr := wr) (fun b hb => ⟨wB b hb, (ap₂ b (W.sub _ hb)).2.2⟩) N.g b hb).1
  · obtain rfl : i = n := by (first | lia | omega)
    refine W.done _ _ _ st fun h₂ t₂ hk => ?_
    exact done _ _ _ _ _ inv le (O₁.extBut hk (fun q => (ap L (W.sub _ q)).1 rfl) wB (fun p hp q => (ap _ (W.sub _ q)).2.1 p hp rfl) hw0)

/-- one test, the item a tuple -/
theorem codeAny_compLoop_testsT {s : Shared} {elt iter : Expr} {elts : List Expr} {tk : Nat} {tpos : Pos} {c : Expr} {scope : Scope} {pos : Pos} {it acc : Value} {env : Env} (I : Nat → Shared → Prop)
    (turn : ∀ n s, I n s → wpAny (model prog w) A (pyNext it) (fun r s₁ => match r with
      | none => R (.ok .next) s₁
      | some v => wpAny (model prog w) A (letOwnedTupleGo (.Tuple elts tk tpos) it v) (fun _ s₁' => wpAny (model prog w) A (assign (.Tuple elts tk tpos) env v) (fun _ s₂ =>
          wpAny (model prog w) A (isTrue c env (eval c env)) (fun ok s₃ =>
            if ok = true then wpAny (model prog w) A (eval elt env) (fun x s₄ =>
              wpAny (model prog w) A (call (.builtin "list.append") [acc, x]) (fun _ s₅ => ∃ m, m < n ∧ I m s₅) (notedBy (model prog w) A env fun e s' => R (.error e) s') s₄) (notedBy (model prog w) A env fun e s' => R (.error e) s') s₃
            else ∃ m, m < n ∧ I m s₃) (notedBy (model prog w) A env fun e s' => R (.error e) s') s₂) (notedBy (model prog w) A env fun e s' => R (.error e) s') s₁') (notedBy (model prog w) A env fun e s' => R (.error e) s') s₁) (notedBy (model prog w) A env fun e s' => R (.error e) s') s)
    (n : Nat) (h : I n s) :
    codeAny (model prog w) A (.compLoop (.ListComp elt [⟨.Tuple elts tk tpos, iter, [c], 0⟩] scope pos) 0 it acc env) R s := by
  refine codeAny_loop rfl I (fun n s hI => ?_) n h
  show wpAny _ A ((compTurn (.ListComp elt [⟨.Tuple elts tk tpos, iter, [c], 0⟩] scope pos) 0 it acc env).onRaise (fun x => do noteFrame x env; theTreesLotGoes x)) _ _ s
  refine wpAny_noted ?_
  rw [compTurn_list]
  refine wpAny_bind (wpAny_standAt (wpAny_bind (wpAny_mono (turn n s hI) (fun r s₁ h₁ => ?_) fun _ _ h' => h')))
  cases r with
  | none => exact wpAny_pure h₁
  | some v =>
    refine wpAny_bind (wpAny_mono h₁ (fun _ s₁' h₁' => ?_) fun _ _ h' => h')
    refine wpAny_bind (wpAny_mono h₁' (fun _ s₂ h₂ => wpAny_bind (wpAny_mono (wpAny_tests_one h₂) (fun ok s₃ h₃ => ?_) fun _ _ h' => h')) fun _ _ h' => h')
    cases ok with
    | false => exact wpAny_pure ⟨rfl, h₃⟩
    | true =>
      exact wpAny_bind (wpAny_bind (wpAny_mono h₃ (fun x s₄ h₄ => wpAny_bind (wpAny_mono h₄ (fun _ s₅ h₅ => wpAny_pure (wpAny_pure ⟨rfl, h₅⟩)) fun _ _ h' => h')) fun _ _ h' => h'))

theorem comp_loopT {elt iter : Expr} {elts : List Expr} {tk : Nat} {tpos : Pos} {c : Expr} {scope : Scope} {pos : Pos} {acc : Value} {fp wr : List Addr} {Pt : Nat → Array Value → Prop} {St : Nat → Heap → Prop} {Mid : Nat → Addr → Heap → Prop} (hh : A.handled = none)
    (W : WalksU prog w A I fp wr n Pt St Mid) (live : ∀ i h, St i h → ∀ b ∈ wr, ∃ o, h.get? b = some o) (hst : St 0 h) (O : Ow h₀ B₀ M₀ L B own m h)
    (hfp : Apart fp L own h) (hwB : ∀ b ∈ wr, B b = none) (hw0 : ∀ b ∈ wr, h₀.get? b = none) (Inv : Nat → Sto → Own → (Str → Option Value) → Prop) (h0 : Inv 0 B own m)
    (hstar : (assignEach elts env).findIdx? (·.1) = none) (hlen : ∀ i vals, Pt i vals → (assignEach elts env).length = vals.size)
    (turn : ∀ i vals B' own' m' h' t', i < n → Pt i vals → Inv i B' own' m' → Le B B' → Ow h₀ B₀ M₀ L B' own' m' h' → Ow h' B' (L :: own'.map (·.1)) L B' own' m' h' →
      wpAny (model prog w) A (assignInOrder ((assignEach elts env).map (·.2)) vals.toList) (fun _ s₂ => wpAny (model prog w) A (isTrue c env (eval c env)) (fun ok s₃ =>
          if ok = true then wpAny (model prog w) A (eval elt env) (fun x s₄ => wpAny (model prog w) A (call (.builtin "list.append") [acc, x]) (fun _ s₅ => TurnEnd h' B' own' L g d os (Inv (i + 1)) s₅)
            (notedBy (model prog w) A env fun e s' => R (.error e) s') s₄) (notedBy (model prog w) A env fun e s' => R (.error e) s') s₃
          else TurnEnd h' B' own' L g d os (Inv (i + 1)) s₃) (notedBy (model prog w) A env fun e s' => R (.error e) s') s₂) (notedBy (model prog w) A env fun e s' => R (.error e) s') ⟨h', g, d, t', os⟩)
    (done : ∀ B' own' m' h' t', Inv n B' own' m' → Le B B' → Ow h₀ B₀ M₀ L B' own' m' h' → R (.ok .next) ⟨h', g, d, t', os⟩) :
    codeAny (model prog w) A (.compLoop (.ListComp elt [⟨.Tuple elts tk tpos, iter, [c], 0⟩] scope pos) 0 (.ref I) acc env) R ⟨h, g, d, t, os⟩ := by
  refine codeAny_compLoop_testsT (fun k s' => ∃ i B' own' m' h' t', s' = ⟨h', g, d, t', os⟩ ∧ k = n + 1 - i ∧ i ≤ n ∧ St i h' ∧ Ow h₀ B₀ M₀ L B' own' m' h' ∧ Inv i B' own' m' ∧ Le B B' ∧ Apart fp L own' h' ∧ (∀ b ∈ wr, B' b = none))
    ?_ (n + 1) ⟨0, B, own, m, h, t, rfl, rfl, Nat.zero_le _, hst, O, h0, Le.refl _, hfp, hwB⟩
  rintro k s' ⟨i, B₁, own₁, m₁, h₁, t₁, rfl, rfl, hi, st, O₁, inv, le, ap, wB⟩
  have hwL : L ∉ wr := fun q => (ap L (W.sub _ q)).1 rfl
  have hwo : ∀ p ∈ own₁, p.1 ∉ wr := fun p hp q => (ap _ (W.sub _ q)).2.1 p hp rfl
  by_cases hlt : i < n
  · refine W.item i _ _ _ hlt st fun T vals h₂ t₂ hP isT mid hk => ?_
    have O₂ : Ow h₀ B₀ M₀ L B₁ own₁ m₁ h₂ := O₁.extBut hk hwL wB hwo hw0
    refine W.go elts tk tpos i T _ _ _ mid fun h₃ st₃ hk₃ => ?_
    have O₃ : Ow h₀ B₀ M₀ L B₁ own₁ m₁ h₃ := O₂.extBut hk₃ hwL wB hwo hw0
    have ap₃ : Apart fp L own₁ h₃ := fun b hb => by
      obtain ⟨a1, a2, o, a3⟩ := ap b hb
      refine ⟨a1, a2, ?_⟩
      by_cases q : b ∈ wr
      · exact live _ _ st₃ b q
      · exact ⟨o, hk₃ b o q (hk b o q a3)⟩
    have isT₃ : IsTup h₃ T vals := by
      obtain ⟨oT, eT, r⟩ := isT
      exact ⟨oT, hk₃ _ _ (W.apart _ _ _ mid) eT, r⟩
    refine assign_Tuple_tuple hh isT₃ (hlen _ _ hP) hstar fun h₄ he => ?_
    have he' : ∀ b o, h₃.get? b = some o → h₄.get? b = some o := fun b o e => he b o (Nat.ne_of_lt (Heap.lt_size e)) e
    have O₄ : Ow h₀ B₀ M₀ L B₁ own₁ m₁ h₄ := O₃.ext he'
    have ap₄ : Apart fp L own₁ h₄ := fun b hb => let ⟨a1, a2, o, a3⟩ := ap₃ b hb; ⟨a1, a2, o, he' _ _ a3⟩
    have st₄ : St (i + 1) h₄ := W.frame _ _ _ st₃ fun b hb o e => he' b o e
    have fin : ∀ s₃, TurnEnd h₄ B₁ own₁ L g d os (Inv (i + 1)) s₃ → ∃ m, m < n + 1 - i ∧ ∃ i B' own' m' h' t', s₃ = ⟨h', g, d, t', os⟩ ∧ m = n + 1 - i ∧ i ≤ n ∧ St i h' ∧ Ow h₀ B₀ M₀ L B' own' m' h' ∧ Inv i B' own' m' ∧ Le B B' ∧ Apart fp L own' h' ∧ (∀ b ∈ wr, B' b = none) := by
      rintro s₃ ⟨B₃, own₃, m₃, h₃, t₃, rfl, N, inv₃⟩
      refine ⟨n + 1 - (i + 1), by (first | lia | omega), i + 1, B₃, own₃, m₃, h₃, t₃, rfl, rfl, hlt, W.frame _ _ _ st₄ (ap₄.stay N), O₄.comp N, inv₃, Le.trans le N.g.sub, ap₄.mono N, fun b hb => ?_⟩
      exact (off_mono (wr := wr) (fun b hb => ⟨wB b hb, (ap₄ b (W.sub _ hb)).2.2⟩) N.g b hb).1
    refine wpAny_mono (turn i vals B₁ own₁ m₁ h₄ t₂ hlt hP inv le O₄ O₄.start) (fun _ s₂ y => wpAny_mono y (fun ok s₃ z => ?_) fun _ _ e => e) fun _ _ e => e
    cases ok with
    | false => exact fin _ z
    | true => exact wpAny_mono z (fun x s₄ z => wpAny_mono z (fun _ s₅ z => fin _ z) fun _ _ e => e) fun _ _ e => e
  · obtain rfl : i = n := by (first | lia | omega)
    refine W.done _ _ _ st fun h₂ t₂ hk => ?_
    exact done _ _ _ _ _ inv le (O₁.extBut hk hwL wB hwo hw0)
end
end

section
open PySem PySem.W PySem.Calls PyProof.Rows

abbrev tupO (vs : List Value) : Obj := { cls := .type "tuple", data := .seq vs.toArray }
abbrev lstO (vs : List Value) (n : Nat) : Obj := { cls := .type "list", data := .seq vs.toArray n }

structure Wd (K : Frag) (p : Program) (loose : List Str) (mg mb : Str → Option Value) (H : Heap) : Prop where
  X : K.In H
  T : TopRead p loose mg mb H

/-- room for n calls, one within the other -/
structure Room (A : Around) (n : Nat) : Prop where
  handled : A.handled = none
  depth : A.depth + 2 * n < recursionLimit
  units : A.units + 16 * n < cLine
theorem Room.in1 {A : Around} {n : Nat} (r : Room A (n + 1)) : Room A.in1 n := ⟨r.handled, by have := r.depth; show A.depth + _ < _; (first | lia | omega), by have := r.units; show A.units + 1 + _ < _; (first | lia | omega)⟩
theorem Room.less {A : Around} {n k : Nat} (r : Room A n) (h : k ≤ n) : Room A k := ⟨r.handled, by have := r.depth; (first | lia | omega), by have := r.units; (first | lia | omega)⟩
theorem Room.deeper {A : Around} {n : Nat} {env : Env} (r : Room A (n + 1)) : Room (A.deeper env) n := ⟨r.handled, by have := r.depth; show A.depth + 1 + _ < _; (first | lia | omega), by have := r.units; show A.units + 3 + _ < _; (first | lia | omega)⟩
theorem Room.make {A : Around} {n : Nat} {C : Addr} {vals : List Value} (r : Room A (n + 1)) : Room (A.under (.builtin "type.__call__" ⟨.ref C :: vals, []⟩)) n :=
  ⟨r.handled, by rw [depth_under_make]; have := r.depth; (first | lia | omega), by rw [units_under_make]; have := r.units; (first | lia | omega)⟩
theorem Room.room {A : Around} {n : Nat} (r : Room A n) : A.depth < recursionLimit := by have := r.depth; (first | lia | omega)
theorem Room.unit {A : Around} {n : Nat} (r : Room A n) : A.units < cLine := by have := r.units; (first | lia | omega)

section
variable {prog : Program} {w : World} {M : Model} {A : Around} {R : Result → Shared → Prop} {env : Env} {E : Value → Shared → Prop}
variable {h₀ h h' : Heap} {B₀ B B' : Sto} {M₀ : List Addr} {L I a l C c : Addr} {own own' : Own} {m m' mc : Str → Option Value} {o o' oL oC : Obj}
variable {g : Array GenState} {d : Drawn} {t : Nat} {os : OsState} {n : Nat}
variable {K : Frag} {p : Program} {loose : List Str} {mg mb : Str → Option Value} {H : Heap}
variable {x : Str} {pos : Pos} {v : Value} {Q : Value → Shared → Prop} {QU : Unit → Shared → Prop} {QB : Bool → Shared → Prop}

theorem Ow.top (O : Ow h₀ B₀ M₀ L B own m h) (hH : Le H.get? B₀) : ∀ b o, H.get? b = some o → h.get? b = some o := fun b o e => O.g.keep b o (O.g.sub b o (hH b o e))
theorem Ow.inK (O : Ow h₀ B₀ M₀ L B own m h) (W : Wd K p loose mg mb H) (hH : Le H.get? B₀) : K.In h := fun b o e => O.top hH b o (W.X b o e)

/-! names -/
theorem r_local (O : Ow h₀ B₀ M₀ env.locals B own m h) (hv : m x = some v) (k : Q v ⟨h, g, d, t, os⟩) (hk : env.scope.kind = .function := by rfl) (hl : env.kindOf x = some .local := by rfl) (hd : (x == ("__debug__" : Str)) = false := by decide) :
    wpAny M A (eval (.Name x pos) env) Q E ⟨h, g, d, t, os⟩ := wpAny_Name (wpAny_loadName_local hk hl O.ns hv k) hd
theorem r_global (W : Wd K p loose mg mb H) (hH : Le H.get? B₀) (O : Ow h₀ B₀ M₀ L B own m h) (e : nsIn K mainGlobals x = some (some v)) (k : Q v ⟨h, g, d, t, os⟩) (hg : env.globals = mainGlobals := by rfl)
    (hk : env.scope.kind = .function := by rfl) (hx : env.kindOf x = some .globalImplicit := by rfl) (hd : (x == ("__debug__" : Str)) = false := by decide) : wpAny M A (eval (.Name x pos) env) Q E ⟨h, g, d, t, os⟩ :=
  Name_function_global hk hx (loadGlobal_global (env := env) (by rw [hg]; exact W.T.g.keeps (O.top hH)) (mg_of W.X W.T.g e) k) hd
theorem r_builtin (W : Wd K p loose mg mb H) (hH : Le H.get? B₀) (O : Ow h₀ B₀ M₀ L B own m h) (e : nsIn K mainGlobals x = some none) (hv : bootBuiltins x = some v) (k : Q v ⟨h, g, d, t, os⟩) (hn : x ≠ "__name__" := by decide) (hg : env.globals = mainGlobals := by rfl)
    (hb : env.builtins = builtinsNs := by rfl) (hk : env.scope.kind = .function := by rfl) (hx : env.kindOf x = some .globalImplicit := by rfl) (hd : (x == ("__debug__" : Str)) = false := by decide) : wpAny M A (eval (.Name x pos) env) Q E ⟨h, g, d, t, os⟩ :=
  Name_function_global hk hx (loadGlobal_builtin (env := env) (by rw [hg]; exact W.T.g.keeps (O.top hH)) (mg_none_of W.X W.T.g e) (by rw [hb]; exact W.T.b.keeps (O.top hH)) ((W.T.builtins x hn).trans hv) k) hd
theorem r_cell (O : Ow h₀ B₀ M₀ L B own m h) (hc : env.cells.lookup x = some c) (hm : (c, o) ∈ own) (ho : o.data = .cell (some v)) (k : Q v ⟨h, g, d, t, os⟩) (hk : env.scope.kind = .function := by rfl) (hx : env.kindOf x = some .cell := by rfl) (hd : (x == ("__debug__" : Str)) = false := by decide) :
    wpAny M A (eval (.Name x pos) env) Q E ⟨h, g, d, t, os⟩ := wpAny_Name (wpAny_loadName_cell hk hx hc ⟨o, (O.mn _ hm).1, ho⟩ k) hd
theorem r_free (O : Ow h₀ B₀ M₀ L B own m h) (hc : env.cells.lookup x = some c) (hm : (c, o) ∈ own) (ho : o.data = .cell (some v)) (k : Q v ⟨h, g, d, t, os⟩) (hk : env.scope.kind = .function := by rfl) (hx : env.kindOf x = some .free := by rfl) (hd : (x == ("__debug__" : Str)) = false := by decide) (hn : (x == ("__classdict__" : Str)) = false := by decide) :
    wpAny M A (eval (.Name x pos) env) Q E ⟨h, g, d, t, os⟩ := wpAny_Name (wpAny_loadName_free hk hx hc ⟨o, (O.mn _ hm).1, ho⟩ k hn) hd
abbrev upd (m : Str → Option Value) (x : Str) (v : Value) : Str → Option Value := fun y => if y = x then some v else m y
theorem r_store (O : Ow h₀ B₀ M₀ env.locals B own m h) (k : ∀ h' t', Ow h₀ B₀ M₀ env.locals B own (upd m x v) h' → QU () ⟨h', g, d, t', os⟩) (hl : env.kindOf x = some .local := by rfl)
    (hp : (env.scope.kind == .class || (env.scope.kind == .module && env.locals != env.globals)) = false := by rfl) : wpAny M A (storeName env x v) QU E ⟨h, g, d, t, os⟩ :=
  wpAny_storeName_local hl O.ns (fun h' hn hs => k h' _ (O.same hn hs)) hp
theorem r_storeC (O : Ow h₀ B₀ M₀ L B own m h) (hc : env.cells.lookup x = some c) (i : Nat) (hi : own[i]? = some (c, o)) {v₀ : Option Value} (ho : o.data = .cell v₀)
    (k : ∀ h' o', o'.data = .cell (some v) → Ow h₀ B₀ M₀ L B (own.set i (c, o')) m h' → QU () ⟨h', g, d, t, os⟩) (hk : env.scope.kind = .function := by rfl) (hx : env.kindOf x = some .cell := by rfl) : wpAny M A (storeName env x v) QU E ⟨h, g, d, t, os⟩ :=
  wpAny_storeName_cell hk hx hc ⟨o, (O.mn _ (List.mem_of_getElem? hi)).1, ho⟩ fun h' hv hs => by
    obtain ⟨o', e', hd'⟩ := hv
    exact k h' o' hd' (O.turn i hi hs e')

theorem r_aug {op : Operator} {e : Expr} {pos' : Pos} {QF : Flow → Shared → Prop} (O : Ow h₀ B₀ M₀ env.locals B own m h) (hv : m x = some v)
    (k : wpAny M A (eval e env) (fun r s₂ => wpAny M A (inplaceOp op v r) (fun r s₃ => wpAny M A (storeName env x r) (fun _ => QF .next) E s₃) E s₂) E ⟨h, g, d, t, os⟩) (hk : env.scope.kind = .function := by rfl) (hl : env.kindOf x = some .local := by rfl) (hd : (x == ("__debug__" : Str)) = false := by decide) :
    wpAny M A (exec (.AugAssign (.Name x pos') op e pos) env) QF E ⟨h, g, d, t, os⟩ := wpAny_AugAssign_Name (wpAny_loadName_local hk hl O.ns hv k)
/-! constants -/
theorem r_int {i : Int} {kk : Nat} (k : ∀ u t', Q (.int i u) ⟨h, g, d, t', os⟩) : wpAny M A (eval (.Constant (.int i) kk pos) env) Q E ⟨h, g, d, t, os⟩ := wpAny_Constant_int (k _ _)
theorem r_str {i : Str} {kk : Nat} (k : ∀ u t', Q (.str i u) ⟨h, g, d, t', os⟩) : wpAny M A (eval (.Constant (.str i) kk pos) env) Q E ⟨h, g, d, t, os⟩ := wpAny_Constant_str (k _ _)

/-! new objects -/
theorem r_tuple {vs : List Value} (O : Ow h₀ B₀ M₀ L B own m h) (k : ∀ a B' h', Ow h₀ B₀ M₀ L B' own m h' → Le B B' → B' a = some (tupO vs) → Q (.ref a) ⟨h', g, d, t, os⟩) (hsz : vs.length ≤ sizeLine := by size_fits) : wpAny M A (newTuple vs) Q E ⟨h, g, d, t, os⟩ :=
  wpAny_newTuple (s := ⟨h, g, d, t, os⟩) (k _ _ _ (O.add (o := tupO vs) rfl) (O.le_add _) (put_self ..)) hsz
theorem r_list {vs : List Value} (O : Ow h₀ B₀ M₀ L B own m h) (k : ∀ a h', Ow h₀ B₀ M₀ L B ((a, lstO vs 0) :: own) m h' → Q (.ref a) ⟨h', g, d, t, os⟩) (hsz : vs.length ≤ sizeLine := by size_fits) : wpAny M A (newList vs) Q E ⟨h, g, d, t, os⟩ :=
  wpAny_newList (s := ⟨h, g, d, t, os⟩) (k _ _ (O.mine (o := lstO vs 0) rfl)) hsz

/-! facts of the heap -/
theorem Ow.tup (O : Ow h₀ B₀ M₀ L B own m h) {vs : List Value} (e : B a = some (tupO vs)) : IsTup h a vs.toArray := ⟨_, O.g.keep _ _ e, rfl, _, rfl⟩
theorem Ow.tupl (O : Ow h₀ B₀ M₀ L B own m h) {vs : List Value} (e : B a = some (tupO vs)) : h.IsTuple a vs.toArray := ⟨_, O.g.keep _ _ e, rfl, _, rfl⟩
theorem Ow.lst (O : Ow h₀ B₀ M₀ L B own m h) {vs : List Value} {k : Nat} (e : B a = some (lstO vs k)) : h.IsList a vs.toArray := ⟨_, O.g.keep _ _ e, rfl, _, rfl⟩
theorem Ow.mlst (O : Ow h₀ B₀ M₀ L B own m h) {vs : List Value} {k : Nat} (e : (a, lstO vs k) ∈ own) : h.IsList a vs.toArray := ⟨_, (O.mn _ e).1, rfl, _, rfl⟩

/-! items -/
theorem r_tupItem {value slice : Expr} {vs : List Value} {i : Int} {u : Tok} {j : Nat} (ht : IsTup h a vs.toArray) (hj : seqIndex? i vs.length = some j) (hx : vs[j]? = some v) (k : Q v ⟨h, g, d, t, os⟩)
    (hlo : -(2 ^ 63) ≤ i := by decide) (hhi : i < 2 ^ 63 := by decide)
    (hs : subscripted slice false (.ref a) (.int i u) = operate [.ref a, .int i u] (getItem (.ref a) (.int i u)) := by with_unfolding_all rfl) :
    wpAny (model prog w) A (subscriptTail value slice (.ref a) (.int i u)) Q E ⟨h, g, d, t, os⟩ := item_tupleT (s := ⟨h, g, d, t, os⟩) ht hlo hhi hj hx k hs
theorem r_lstItem {value slice : Expr} {vs : List Value} {i : Int} {u : Tok} (ht : h.IsList a vs.toArray) (h0 : 0 ≤ i) (hhi : i < 2 ^ 63) (hx : vs[i.toNat]? = some v) (k : Q v ⟨h, g, d, t, os⟩)
    (hs : subscripted slice false (.ref a) (.int i u) = operate [.ref a, .int i u] (getItem (.ref a) (.int i u)) := by with_unfolding_all rfl) :
    wpAny (model prog w) A (subscriptTail value slice (.ref a) (.int i u)) Q E ⟨h, g, d, t, os⟩ :=
  tail_any (Heap.IsList.typeIs (s := ⟨h, g, d, t, os⟩) ht) slot_list_getitem.lookup (wpAny_getItem_list (s := ⟨h, g, d, t, os⟩) ht h0 hhi (by simpa using hx) k) hs
theorem r_lstItemN {value slice : Expr} {vs : List Value} {i : Int} {u : Tok} (ht : h.IsList a vs.toArray) (h0 : i < 0) (h1 : -(vs.length : Int) ≤ i) (hx : vs[(i + vs.length).toNat]? = some v) (k : Q v ⟨h, g, d, t, os⟩) (hlo : -(2 ^ 63) ≤ i := by decide)
    (hs : subscripted slice false (.ref a) (.int i u) = operate [.ref a, .int i u] (getItem (.ref a) (.int i u)) := by with_unfolding_all rfl) :
    wpAny (model prog w) A (subscriptTail value slice (.ref a) (.int i u)) Q E ⟨h, g, d, t, os⟩ :=
  tail_any (Heap.IsList.typeIs (s := ⟨h, g, d, t, os⟩) ht) slot_list_getitem.lookup (wpAny_getItem_list_neg (s := ⟨h, g, d, t, os⟩) ht h0 (by simpa using h1) hlo (by simpa using hx) k) hs
theorem r_len {vs : List Value} (ht : h.IsList a vs.toArray) (hfit : vs.length < 2 ^ 62) (k : ∀ u t', Q (.int vs.length u) ⟨h, g, d, t', os⟩) : wpAny (model prog w) A (call (.builtin "len") [.ref a]) Q E ⟨h, g, d, t, os⟩ :=
  call_len_list (s := ⟨h, g, d, t, os⟩) ht (by simp; (first | lia | omega)) (by simpa using k (t + 1) (t + 2))
theorem r_lenT {vs : List Value} (ht : IsTup h a vs.toArray) (hfit : vs.length < 2 ^ 62) (k : ∀ u t', Q (.int vs.length u) ⟨h, g, d, t', os⟩) : wpAny (model prog w) A (call (.builtin "len") [.ref a]) Q E ⟨h, g, d, t, os⟩ :=
  len_tuple (s := ⟨h, g, d, t, os⟩) ht (by simp; (first | lia | omega)) (by simpa using k (t + 1) (t + 2))

/-! list methods -/
theorem r_append (O : Ow h₀ B₀ M₀ L B own m h) {vs : List Value} {q : Nat} (i : Nat) (hi : own[i]? = some (a, lstO vs q)) (k : ∀ h', Ow h₀ B₀ M₀ L B (own.set i (a, lstO (vs ++ [v]) (q + 1))) m h' → Q .none ⟨h', g, d, t, os⟩) (hsz : vs.length ≤ sizeLine := by size_fits) :
    wpAny (model prog w) A (call (.builtin "list.append") [.ref a, v]) Q E ⟨h, g, d, t, os⟩ :=
  append_at (s := ⟨h, g, d, t, os⟩) (O.mn _ (List.mem_of_getElem? hi)).1 (fun h' hs e => k h' (O.turn i hi hs (by simpa using e))) (by simpa using hsz)

/-! a def of the text is entered -/
theorem enter {name qual : Str} {params : Arguments} {body : List Stmt} {scope : Scope} {dV kV doc pm cdv ct oc : Value} {an od : Option Addr} {osl : Array (Option Value)} {f : Addr} {args : Args} {binds : List (Str × Value)}
    (W : Wd K p loose mg mb H) (hH : Le H.get? B) (kp : ∀ b o, B b = some o → h.get? b = some o) (hown : ∀ p ∈ own, h.get? p.1 = some p.2 ∧ B p.1 = none) (nd : own.Pairwise fun p q => p.1 ≠ q.1)
    (ho : K.lookup f = some ⟨oc, od, .func (fnOf name qual params body scope dV kV doc pm an cdv ct), osl⟩) (hcd : codeIn K cdv qual = true) (hroom : A.depth < recursionLimit)
    (hbind : bindArgs (fnOf name qual params body scope dV kV doc pm an cdv ct) args = pure binds) (hloc : ∀ y ∈ binds, scope.names.lookup y.1 = some .local)
    (k : ∀ L h' t', Ow h B (own.map (·.1)) L B own (fun y => binds.reverse.lookup y) h' →
      wpAny (model prog w) (A.deeper (envOf qual scope L f cdv)) (execs body (envOf qual scope L f cdv)) (fun fl s' => R (.ok (.ret (match fl with | .ret v => v | _ => .none))) s') (fun _ _ => False) ⟨h', g, d, t', os⟩)
    (hcell : ∀ x ∈ scope.names, x.2 ≠ .cell) (hco : scope.isCoroutine = false := by rfl) (hgen : scope.isGenerator = false := by rfl) (hk : scope.kind = .function := by rfl) : codeAny (model prog w) A (.call (.ref f) args) R ⟨h, g, d, t, os⟩ := by
  have top : ∀ b o, H.get? b = some o → h.get? b = some o := fun b o e => kp b o (hH b o e)
  have X : K.In h := fun b o e => top b o (W.X b o e)
  refine codeAny_call_def (fd := fnOf name qual params body scope dV kV doc pm an cdv ct) (body := body) (binds := binds) hroom (X _ _ ho) rfl (W.T.nolimit.keeps top) (codeRec_of X hcd) rfl (BindsTo.of_eq hbind) hcell hloc (fun h₁ hns hk₁ => ?_) hco hgen hk
  have fr : h.get? h.objs.size = none := by
    cases q : h.get? h.objs.size with
    | none => rfl
    | some z => exact absurd (Heap.lt_size q) (Nat.lt_irrefl _)
  refine wpAny_mono (k h.objs.size h₁ _ ⟨⟨fun b o e => hk₁ b o (kp b o e), fun b o e _ => hk₁ b o e, Le.refl _, fun _ _ e => .inl e, fun b o e => ⟨o, hk₁ b o e⟩⟩, hns, ?_, .inr fr, fun p hp => ?_, nd⟩) (fun _ _ z => z) fun _ _ z => z.elim
  · cases q : B h.objs.size with
    | none => rfl
    | some z => rw [kp _ _ q] at fr; cases fr
  · exact ⟨hk₁ _ _ (hown p hp).1, Nat.ne_of_lt (Heap.lt_size (hown p hp).1), (hown p hp).2, .inl (List.mem_map_of_mem hp)⟩
end
end

section
open PySem PySem.W PySem.Calls PyProof.Rows PySem.SeqAt

theorem iteF {P R : Prop} (h : R) : if (false : Bool) = true then P else R := by simpa using h
theorem iteT {P R : Prop} (h : P) : if (true : Bool) = true then P else R := by simpa using h
/-! where the text's defs stand -/
abbrev pw := PySem.Challenge.pw_og0277_01
def stAt : Nat → List Stmt → Stmt
  | 0, s :: _ => s
  | n + 1, _ :: r => stAt n r
  | _, [] => .Pass ⟨0, 0, 0, 0⟩
def bodF : Stmt → List Stmt
  | .FunctionDef _ _ b _ _ _ _ _ _ _ => b
  | .ClassDef _ _ _ b _ _ _ _ _ _ _ => b
  | _ => []
def prmF : Stmt → Arguments
  | .FunctionDef _ a _ _ _ _ _ _ _ _ => a
  | _ => { posonlyargs := [], args := [], vararg := none, kwonlyargs := [], kw_defaults := [], kwarg := none, defaults := [] }
def scpF : Stmt → Scope
  | .FunctionDef _ _ _ _ _ _ s _ _ _ => s
  | _ => { kind := .function, names := [], isGenerator := false, isCoroutine := false }
def top (i : Nat) : Stmt := stAt i pw.main.body
def meth (i j : Nat) : Stmt := stAt j (bodF (top i))

/-- the def s of the text stands at f -/
def FnAt (K : Frag) (f : Addr) (qual : Str) (s : Stmt) : Prop := ∃ oc od osl name doc pm an cdv ct,
  K.lookup f = some ⟨oc, od, .func (fnOf name qual (prmF s) (bodF s) (scpF s) .none .none doc pm an cdv ct), osl⟩ ∧ codeIn K cdv qual = true

section
variable {prog : Program} {w : World} {A : Around} {R : Result → Shared → Prop} {E : Value → Shared → Prop}
variable {h : Heap} {B : Sto} {own : Own} {g : Array GenState} {d : Drawn} {t : Nat} {os : OsState}
variable {K : Frag} {p : Program} {loose : List Str} {mg mb : Str → Option Value} {H : Heap}
/-- what is known of a heap -/
abbrev Kp (B : Sto) (h : Heap) : Prop := ∀ b o, B b = some o → h.get? b = some o

theorem enterF {f : Addr} {qual : Str} {s : Stmt} {args : List Value} {binds : List (Str × Value)} {Q : Value → Shared → Prop}
    (W : Wd K p loose mg mb H) (hH : Le H.get? B) (kp : Kp B h) (hown : ∀ p ∈ own, h.get? p.1 = some p.2 ∧ B p.1 = none) (nd : own.Pairwise fun p q => p.1 ≠ q.1)
    (hf : FnAt K f qual s) (hroom : A.depth < recursionLimit)
    (k : ∀ L h' t' cdv, Ow h B (own.map (·.1)) L B own (fun y => binds.reverse.lookup y) h' →
      wpAny (model prog w) (A.deeper (envOf qual (scpF s) L f cdv)) (execs (bodF s) (envOf qual (scpF s) L f cdv)) (fun fl s' => Q (match fl with | .ret v => v | _ => .none) s') (fun _ _ => False) ⟨h', g, d, t', os⟩)
    (hbind : ∀ name doc pm an cdv ct, bindArgs (fnOf name qual (prmF s) (bodF s) (scpF s) .none .none doc pm an cdv ct) ⟨args, []⟩ = pure binds := by intros; rfl) (hloc : ∀ y ∈ binds, (scpF s).names.lookup y.1 = some .local := by exact locs rfl)
    (hcell : ∀ x ∈ (scpF s).names, x.2 ≠ .cell := by decide) (hco : (scpF s).isCoroutine = false := by rfl) (hgen : (scpF s).isGenerator = false := by rfl) (hk : (scpF s).kind = .function := by rfl) :
    wpAny (model prog w) A (call (.ref f) args) Q E ⟨h, g, d, t, os⟩ := by
  obtain ⟨oc, od, osl, name, doc, pm, an, cdv, ct, ho, hcd⟩ := hf
  refine wpAny_call (enter W hH kp hown nd ho hcd hroom (hbind _ _ _ _ _ _) hloc (fun L h' t' O => ?_) hcell hco hgen hk)
  exact k L h' t' cdv O
end


section
variable {prog : Program} {w : World} {M : Model} {A : Around} {R : Result → Shared → Prop} {E : Value → Shared → Prop} {Q : Value → Shared → Prop} {env : Env}
variable {h : Heap} {B : Sto} {own : Own} {g : Array GenState} {d : Drawn} {t : Nat} {os : OsState} {a b x dx C f : Addr} {vs ws : List Value} {v : Value} {name : Str} {es : List DictEntry} {n : Nat}
variable {K : Frag} {p : Program} {loose : List Str} {mg mb : Str → Option Value} {H : Heap}

/-! comparisons of tuples and lists -/
theorem r_eqNil (hl : h.IsTuple a vs.toArray) (hb : h.IsTuple b ([] : List Value).toArray) (hu : A.units < cLine) (k : Q (.bool vs.isEmpty) ⟨h, g, d, t, os⟩) : wpAny (model prog w) A (compareOp .Eq (.ref a) (.ref b)) Q E ⟨h, g, d, t, os⟩ :=
  eq_tupleAt (s := ⟨h, g, d, t, os⟩) (e := fun _ => true) hl hb hu (fun j _ h2 => absurd h2 (by simp)) (by
    have e : ((List.range (min vs.toArray.size ([] : List Value).toArray.size)).all (fun _ => true) && vs.toArray.size == ([] : List Value).toArray.size) = vs.isEmpty := by cases vs <;> simp
    rw [e]; exact k)
theorem r_neNil (hl : h.IsTuple a vs.toArray) (hb : h.IsTuple b ([] : List Value).toArray) (hu : A.units < cLine) (k : Q (.bool (!vs.isEmpty)) ⟨h, g, d, t, os⟩) : wpAny (model prog w) A (compareOp .NotEq (.ref a) (.ref b)) Q E ⟨h, g, d, t, os⟩ :=
  RcNeAt.tuples (s := ⟨h, g, d, t, os⟩) (e := fun _ => true) hl hb hu (fun j _ h2 => absurd h2 (by simp)) prog w E Q (by
    have e : (!((List.range (min vs.toArray.size ([] : List Value).toArray.size)).all (fun _ => true) && vs.toArray.size == ([] : List Value).toArray.size)) = !vs.isEmpty := by cases vs <;> simp
    rw [e]; exact k)
theorem r_lstEqNil {i j : Nat} (hl : h.get? a = some (lstO vs i)) (hb : h.get? b = some (lstO [] j)) (hu : A.units < cLine) (k : Q (.bool vs.isEmpty) ⟨h, g, d, t, os⟩) : wpAny (model prog w) A (compareOp .Eq (.ref a) (.ref b)) Q E ⟨h, g, d, t, os⟩ := by
  cases vs with
  | nil => exact eq_listAt (s := ⟨h, g, d, t, os⟩) (items := ([] : List Value).toArray) (items2 := ([] : List Value).toArray) (e := fun _ => true) ⟨_, hl, rfl, _, rfl⟩ ⟨_, hb, rfl, _, rfl⟩ rfl hu (fun j _ h2 => absurd h2 (by simp)) k
  | cons v r => exact eq_list_lengthsAt (s := ⟨h, g, d, t, os⟩) (items := (v :: r).toArray) (items2 := ([] : List Value).toArray) ⟨_, hl, rfl, _, rfl⟩ ⟨_, hb, rfl, _, rfl⟩ (by simp) hu k
theorem r_lstNeNil {i j : Nat} (hl : h.get? a = some (lstO vs i)) (hb : h.get? b = some (lstO [] j)) (hu : A.units < cLine) (k : Q (.bool (!vs.isEmpty)) ⟨h, g, d, t, os⟩) : wpAny (model prog w) A (compareOp .NotEq (.ref a) (.ref b)) Q E ⟨h, g, d, t, os⟩ := by
  cases vs with
  | nil => exact RcNeAt.lists (s := ⟨h, g, d, t, os⟩) (items := ([] : List Value).toArray) (items2 := ([] : List Value).toArray) (e := fun _ => true) ⟨_, hl, rfl, _, rfl⟩ ⟨_, hb, rfl, _, rfl⟩ rfl hu (fun j _ h2 => absurd h2 (by simp)) prog w E Q k
  | cons v r => exact RcNeAt.lists_lengths (s := ⟨h, g, d, t, os⟩) (items := (v :: r).toArray) (items2 := ([] : List Value).toArray) ⟨_, hl, rfl, _, rfl⟩ ⟨_, hb, rfl, _, rfl⟩ (by simp) hu prog w E Q k

def eqI (ns ms : List Int) (j : Nat) : Bool := match ns[j]?, ms[j]? with | some a, some b => a == b | _, _ => true
theorem eqI_all (ns ms : List Int) : ((List.range (min ns.length ms.length)).all (eqI ns ms) && ns.length == ms.length) = decide (ns = ms) := by
  rw [Bool.eq_iff_iff]
  simp only [Bool.and_eq_true, List.all_eq_true, List.mem_range, beq_iff_eq, decide_eq_true_eq]
  constructor
  · rintro ⟨h1, h2⟩
    apply List.ext_getElem h2
    intro i a b
    have := h1 i (by (first | lia | omega))
    unfold eqI at this
    rw [List.getElem?_eq_getElem a, List.getElem?_eq_getElem b] at this
    simpa using this
  · rintro rfl
    refine ⟨fun i hi => ?_, rfl⟩
    unfold eqI
    cases ns[i]? <;> simp
theorem eqI_at {ns ms : List Int} (hi : IntsAre vs ns) (hj : IntsAre ws ms) {s : Shared} {A : Around} (j : Nat) (h1 : j < vs.toArray.size) (h2 : j < ws.toArray.size) : EqAt A s vs.toArray[j] ws.toArray[j] (eqI ns ms j) := by
  have l1 := hi.length
  have l2 := hj.length
  simp only [List.size_toArray] at h1 h2
  obtain ⟨t1, e1⟩ := hi.get j (ns[j]'(by (first | lia | omega))) (by simp)
  obtain ⟨t2, e2⟩ := hj.get j (ms[j]'(by (first | lia | omega))) (by simp)
  have f1 : vs[j] = .int (ns[j]'(by (first | lia | omega))) t1 := by simpa [List.getElem?_eq_getElem h1] using e1
  have f2 : ws[j] = .int (ms[j]'(by (first | lia | omega))) t2 := by simpa [List.getElem?_eq_getElem h2] using e2
  simp only [List.getElem_toArray, f1, f2]
  have : eqI ns ms j = (ns[j]'(by (first | lia | omega)) == ms[j]'(by (first | lia | omega))) := by
    unfold eqI
    rw [List.getElem?_eq_getElem (by (first | lia | omega)), List.getElem?_eq_getElem (by (first | lia | omega))]
  rw [this]
  exact EqAt.int_int _ _ _ _
theorem r_eqInts {ns ms : List Int} (hl : h.IsTuple a vs.toArray) (hb : h.IsTuple b ws.toArray) (hi : IntsAre vs ns) (hj : IntsAre ws ms) (hu : A.units < cLine) (k : Q (.bool (decide (ns = ms))) ⟨h, g, d, t, os⟩) :
    wpAny (model prog w) A (compareOp .Eq (.ref a) (.ref b)) Q E ⟨h, g, d, t, os⟩ :=
  eq_tupleAt (s := ⟨h, g, d, t, os⟩) (e := eqI ns ms) hl hb hu (eqI_at hi hj) (by
    rw [List.size_toArray, List.size_toArray, hi.length, hj.length, eqI_all]; exact k)
theorem r_neInts {ns ms : List Int} (hl : h.IsTuple a vs.toArray) (hb : h.IsTuple b ws.toArray) (hi : IntsAre vs ns) (hj : IntsAre ws ms) (hu : A.units < cLine) (k : Q (.bool (!decide (ns = ms))) ⟨h, g, d, t, os⟩) :
    wpAny (model prog w) A (compareOp .NotEq (.ref a) (.ref b)) Q E ⟨h, g, d, t, os⟩ :=
  RcNeAt.tuples (s := ⟨h, g, d, t, os⟩) (e := eqI ns ms) hl hb hu (eqI_at hi hj) prog w E Q (by
    rw [List.size_toArray, List.size_toArray, hi.length, hj.length, eqI_all]; exact k)

/-! attributes, methods, calls -/
/-- an attribute of the object's own dict may be read -/
def AttrOk (K : Frag) (C : Addr) (name : Str) : Prop := plainGet K C name = true ∧ hasDictIn K C = true ∧ ∃ attr, findIn K (.ref C) name = some attr ∧ noGet K attr = true
def MethOk (K : Frag) (C : Addr) (name : Str) (f : Addr) : Prop := plainGet K C name = true ∧ findIn K (.ref C) name = some (some (.ref f)) ∧ isFn K (.ref f) = true
theorem r_attr (X : K.In h) (hx : h.get? x = some (instObj C dx)) (hd : h.get? dx = some (dictOf es n)) (F : AttrOk K C name) (hl : getL name es = some (some v)) (hv : handedIn v = true) (k : ∀ t', Q v ⟨h, g, d, t', os⟩) :
    wpAny (model prog w) A (getAttr (.ref x) name true) Q E ⟨h, g, d, t, os⟩ := by
  obtain ⟨f1, f2, attr, f3, f4⟩ := F
  exact get_value (s := ⟨h, g, d, t, os⟩) X ⟨hx, rfl, rfl, hd⟩ (plainGet_of f1).1 (findObj_own (od := dictOf es n) f2 f3 f4 (by rw [lookIn_dict]; exact hl)) hv (k _)
theorem r_meth {pl : Sem Bool} {QM : Value × List Value → Shared → Prop} (X : K.In h) (hx : h.get? x = some (instObj C dx)) (hd : h.get? dx = some (dictOf es n)) (F : MethOk K C name f) (hl : getL name es = some none) (k : QM (.ref f, [.ref x]) ⟨h, g, d, t, os⟩) :
    wpAny (model prog w) A (getMethod (.ref x) name pl) QM E ⟨h, g, d, t, os⟩ := by
  obtain ⟨f1, f2, f3⟩ := F
  exact method_fn (s := ⟨h, g, d, t, os⟩) (od := some (dictOf es n)) X ⟨hx, rfl, rfl, hd⟩ (plainGet_of f1).1 (plainGet_of f1).2 f2 (beq_iff_eq.mp f3) (by show (lookIn name (dictOf es n)).map _ = _; rw [lookIn_dict, hl]; rfl) k
theorem FnAt.keep {qual : Str} {s : Stmt} (hf : FnAt K f qual s) : keepIn K (.ref f) = true := by
  obtain ⟨oc, od, osl, nm, doc, pm, an, cdv, ct, ho, _⟩ := hf
  unfold keepIn
  dsimp only
  rw [ho]
theorem r_callW {qual : Str} {s : Stmt} {pos : Pos} {first : List Value} {e : Expr} {rest : List Expr} (hf : FnAt K f qual s) (X : K.In h)
    (k : wpAny M A (spliced (backTo pos (starEach (e :: rest) env))) (fun vs s₁ => K.In s₁.heap ∧ wpAny M A (call (.ref f) (first ++ vs)) Q E s₁) E ⟨h, g, d, t, os⟩)
    (he : starEach (e :: rest) env = (false, eval e env) :: starEach rest env := by rfl) (hplain : (backTo pos (starEach rest env)).any (·.1) = false := by rfl) :
    wpAny M A (callWith pos (.ref f) first (backTo pos (starEach (e :: rest) env)) []) Q E ⟨h, g, d, t, os⟩ := callWith_K X hf.keep k he hplain
theorem r_callW0 {qual : Str} {s : Stmt} {pos : Pos} {first : List Value} (hf : FnAt K f qual s) (X : K.In h) (k : wpAny M A (call (.ref f) (first ++ [])) Q E ⟨h, g, d, t, os⟩) :
    wpAny M A (callWith pos (.ref f) first (backTo pos (starEach [] env)) []) Q E ⟨h, g, d, t, os⟩ := callWith_K0 (s := ⟨h, g, d, t, os⟩) X hf.keep k
theorem r_attr0 {h₀ : Heap} {B₀ : Sto} {M₀ : List Addr} {L : Addr} {m : Str → Option Value} (W : Wd K p loose mg mb H) (hH : Le H.get? B₀) (O : Ow h₀ B₀ M₀ L B own m h) (hx : B₀ x = some (instObj C dx)) (hd : B₀ dx = some (dictOf es n)) (F : AttrOk K C name) (hl : getL name es = some (some v)) (hv : handedIn v = true) (k : ∀ t', Q v ⟨h, g, d, t', os⟩) :
    wpAny (model prog w) A (getAttr (.ref x) name true) Q E ⟨h, g, d, t, os⟩ := r_attr (O.inK W hH) (O.g.keep _ _ (O.g.sub _ _ hx)) (O.g.keep _ _ (O.g.sub _ _ hd)) F hl hv k
theorem r_attr1 {h₀ : Heap} {B₀ : Sto} {M₀ : List Addr} {L : Addr} {m : Str → Option Value} (W : Wd K p loose mg mb H) (hH : Le H.get? B₀) (O : Ow h₀ B₀ M₀ L B own m h) (hx : B x = some (instObj C dx)) (hd : B dx = some (dictOf es n)) (F : AttrOk K C name) (hl : getL name es = some (some v)) (hv : handedIn v = true) (k : ∀ t', Q v ⟨h, g, d, t', os⟩) :
    wpAny (model prog w) A (getAttr (.ref x) name true) Q E ⟨h, g, d, t, os⟩ := r_attr (O.inK W hH) (O.g.keep _ _ hx) (O.g.keep _ _ hd) F hl hv k
theorem r_meth0 {h₀ : Heap} {B₀ : Sto} {M₀ : List Addr} {L : Addr} {m : Str → Option Value} {pl : Sem Bool} {QM : Value × List Value → Shared → Prop} (W : Wd K p loose mg mb H) (hH : Le H.get? B₀) (O : Ow h₀ B₀ M₀ L B own m h) (hx : B₀ x = some (instObj C dx)) (hd : B₀ dx = some (dictOf es n)) (F : MethOk K C name f) (hl : getL name es = some none) (k : QM (.ref f, [.ref x]) ⟨h, g, d, t, os⟩) :
    wpAny (model prog w) A (getMethod (.ref x) name pl) QM E ⟨h, g, d, t, os⟩ := r_meth (O.inK W hH) (O.g.keep _ _ (O.g.sub _ _ hx)) (O.g.keep _ _ (O.g.sub _ _ hd)) F hl k
theorem r_meth1 {h₀ : Heap} {B₀ : Sto} {M₀ : List Addr} {L : Addr} {m : Str → Option Value} {pl : Sem Bool} {QM : Value × List Value → Shared → Prop} (W : Wd K p loose mg mb H) (hH : Le H.get? B₀) (O : Ow h₀ B₀ M₀ L B own m h) (hx : B x = some (instObj C dx)) (hd : B dx = some (dictOf es n)) (F : MethOk K C name f) (hl : getL name es = some none) (k : QM (.ref f, [.ref x]) ⟨h, g, d, t, os⟩) :
    wpAny (model prog w) A (getMethod (.ref x) name pl) QM E ⟨h, g, d, t, os⟩ := r_meth (O.inK W hH) (O.g.keep _ _ hx) (O.g.keep _ _ hd) F hl k
theorem r_callF {h₀ : Heap} {B₀ : Sto} {M₀ : List Addr} {L : Addr} {m : Str → Option Value} {qual : Str} {s : Stmt} {pos : Pos} {first : List Value} {e : Expr} {rest : List Expr} (W : Wd K p loose mg mb H) (hH : Le H.get? B₀) (O : Ow h₀ B₀ M₀ L B own m h) (hf : FnAt K f qual s)
    (k : wpAny M A (spliced (backTo pos (starEach (e :: rest) env))) (fun vs s₁ => K.In s₁.heap ∧ wpAny M A (call (.ref f) (first ++ vs)) Q E s₁) E ⟨h, g, d, t, os⟩)
    (he : starEach (e :: rest) env = (false, eval e env) :: starEach rest env := by rfl) (hplain : (backTo pos (starEach rest env)).any (·.1) = false := by rfl) :
    wpAny M A (callWith pos (.ref f) first (backTo pos (starEach (e :: rest) env)) []) Q E ⟨h, g, d, t, os⟩ := r_callW hf (O.inK W hH) k he hplain
theorem r_callF0 {h₀ : Heap} {B₀ : Sto} {M₀ : List Addr} {L : Addr} {m : Str → Option Value} {qual : Str} {s : Stmt} {pos : Pos} {first : List Value} (W : Wd K p loose mg mb H) (hH : Le H.get? B₀) (O : Ow h₀ B₀ M₀ L B own m h) (hf : FnAt K f qual s) (k : wpAny M A (call (.ref f) (first ++ [])) Q E ⟨h, g, d, t, os⟩) :
    wpAny M A (callWith pos (.ref f) first (backTo pos (starEach [] env)) []) Q E ⟨h, g, d, t, os⟩ := r_callW0 hf (O.inK W hH) k
theorem r_inK {h₀ : Heap} {B₀ : Sto} {M₀ : List Addr} {L : Addr} {m : Str → Option Value} {P : Prop} (W : Wd K p loose mg mb H) (hH : Le H.get? B₀) (O : Ow h₀ B₀ M₀ L B own m h) (k : P) : K.In (Shared.mk h g d t os).heap ∧ P := ⟨O.inK W hH, k⟩
theorem r_callB {s : Shared} {pos : Pos} {id : String} {first : List Value} {e : Expr} {rest : List Expr}
    (h : wpAny M A (spliced (backTo pos (starEach (e :: rest) env))) (fun vs s₁ => wpAny M A (call (.builtin id) (first ++ vs)) Q E s₁) E s)
    (he : starEach (e :: rest) env = (false, eval e env) :: starEach rest env := by rfl) (hplain : (backTo pos (starEach rest env)).any (·.1) = false := by rfl) :
    wpAny M A (callWith pos (.builtin id) first (backTo pos (starEach (e :: rest) env)) []) Q E s := by
  rw [he] at h ⊢
  exact callWith_builtin (by show (false || (backTo pos (starEach rest env)).any (·.1)) = false; rw [hplain]; rfl) (evalArgs_plain h)
theorem r_callB0 {s : Shared} {pos : Pos} {id : String} {first : List Value} (h : wpAny M A (call (.builtin id) (first ++ [])) Q E s) : wpAny M A (callWith pos (.builtin id) first (backTo pos (starEach [] env)) []) Q E s := callWith_builtin rfl (evalArgs_nil3 h)
theorem r_callT {s : Shared} {pos : Pos} {id : String} {e : Expr} {rest : List Expr}
    (h : wpAny M A (spliced (backTo pos (starEach (e :: rest) env))) (fun vs s₁ => wpAny M A (call (.type id) vs) Q E s₁) E s)
    (he : starEach (e :: rest) env = (false, eval e env) :: starEach rest env := by rfl) (hplain : (backTo pos (starEach rest env)).any (·.1) = false := by rfl) :
    wpAny M A (callWith pos (.type id) [] (backTo pos (starEach (e :: rest) env)) []) Q E s := by
  rw [he] at h ⊢
  exact PyProof.Rows.callWith_type (by show (false || (backTo pos (starEach rest env)).any (·.1)) = false; rw [hplain]; rfl) (evalArgs_plain h)
theorem r_intB {b : Bool} (k : ∀ u t', Q (.int (if b then 1 else 0) u) ⟨h, g, d, t', os⟩) : wpAny (model prog w) A (call (.type "int") [.bool b]) Q E ⟨h, g, d, t, os⟩ := call_int_bool (s := ⟨h, g, d, t, os⟩) (k _ _)
theorem r_intI {i : Int} {u : Tok} (k : Q (.int i u) ⟨h, g, d, t, os⟩) : wpAny (model prog w) A (call (.type "int") [.int i u]) Q E ⟨h, g, d, t, os⟩ := call_int_int (s := ⟨h, g, d, t, os⟩) k
end
end

section
open PySem PySem.W PySem.Calls PyProof.Rows PySem.SeqAt

structure Nm where
  lplace : Addr
  vwidth : Addr
  ccodes : Addr
  sbegin : Addr
  send : Addr
  vcodes : Addr
  fend : Addr
  isblank : Addr
  above : Addr
  rows : Addr
  vline : Addr
  joined : Addr
  Line : Addr
  View : Addr
  Grid : Addr
  History : Addr

/-- what the text's top has laid, as far as the view is asked -/
structure OkV (K : Frag) (N : Nm) : Prop where
  g_lplace : nsIn K mainGlobals "line_place" = some (some (.ref N.lplace))
  f_lplace : FnAt K N.lplace "line_place" (top 20)
  g_vwidth : nsIn K mainGlobals "view_width" = some (some (.ref N.vwidth))
  f_vwidth : FnAt K N.vwidth "view_width" (top 23)
  g_ccodes : nsIn K mainGlobals "cell_codes" = some (some (.ref N.ccodes))
  f_ccodes : FnAt K N.ccodes "cell_codes" (top 24)
  g_sbegin : nsIn K mainGlobals "sign_begin" = some (some (.ref N.sbegin))
  f_sbegin : FnAt K N.sbegin "sign_begin" (top 25)
  g_send : nsIn K mainGlobals "sign_end" = some (some (.ref N.send))
  f_send : FnAt K N.send "sign_end" (top 26)
  g_vcodes : nsIn K mainGlobals "view_codes" = some (some (.ref N.vcodes))
  f_vcodes : FnAt K N.vcodes "view_codes" (top 27)
  g_fend : nsIn K mainGlobals "found_end" = some (some (.ref N.fend))
  f_fend : FnAt K N.fend "found_end" (top 28)
  g_isblank : nsIn K mainGlobals "is_blank" = some (some (.ref N.isblank))
  f_isblank : FnAt K N.isblank "is_blank" (top 11)
  f_above : FnAt K N.above "View.above" (meth 22 1)
  f_rows : FnAt K N.rows "View.rows" (meth 22 2)
  f_vline : FnAt K N.vline "View.line" (meth 22 3)
  f_joined : FnAt K N.joined "View.is_joined" (meth 22 4)
  m_above : MethOk K N.View "above" N.above
  m_rows : MethOk K N.View "rows" N.rows
  m_vline : MethOk K N.View "line" N.vline
  m_joined : MethOk K N.View "is_joined" N.joined
  a_history : AttrOk K N.View "history"
  a_grid : AttrOk K N.View "grid"
  a_glines : AttrOk K N.Grid "lines"
  a_hlines : AttrOk K N.History "lines"
  a_cells : AttrOk K N.Line "cells"
  a_wrapped : AttrOk K N.Line "is_wrapped"
  b_len : nsIn K mainGlobals "len" = some none
  b_int : nsIn K mainGlobals "int" = some none
  b_range : nsIn K mainGlobals "range" = some none
  b_enumerate : nsIn K mainGlobals "enumerate" = some none
  v_BLANK : ∃ u, nsIn K mainGlobals "BLANK" = some (some (.int 32 u))
  v_LF : ∃ u, nsIn K mainGlobals "LINE_FEED" = some (some (.int 10 u))

structure Cell where
  codes : List Int
  w : Int

def IntsT (B : Sto) (a : Addr) (ns : List Int) : Prop := ∃ vs, B a = some (tupO vs) ∧ IntsAre vs ns
inductive CellV (B : Sto) (v : Value) (c : Cell) : Prop
  | mk (a ca : Addr) (u : Tok) (pv bv : Value) (e : v = .ref a) (f : B a = some (tupO [.ref ca, .int c.w u, pv, bv])) (i : IntsT B ca c.codes) : CellV B v c
def CellsV (B : Sto) (vs : List Value) (cs : List Cell) : Prop := vs.length = cs.length ∧ ∀ (i : Nat) (c : Cell), cs[i]? = some c → ∃ v, vs[i]? = some v ∧ CellV B v c
def blankC (c : Cell) : Bool := c.codes.isEmpty && c.w == 1

theorem IntsT.mono {B B' : Sto} {a : Addr} {ns : List Int} (x : IntsT B a ns) (le : Le B B') : IntsT B' a ns := let ⟨vs, e, i⟩ := x; ⟨vs, le _ _ e, i⟩
theorem CellV.mono {B B' : Sto} {v : Value} {c : Cell} (x : CellV B v c) (le : Le B B') : CellV B' v c := let ⟨a, ca, u, pv, bv, e, f, i⟩ := x; ⟨a, ca, u, pv, bv, e, le _ _ f, i.mono le⟩
theorem CellsV.mono {B B' : Sto} {vs : List Value} {cs : List Cell} (x : CellsV B vs cs) (le : Le B B') : CellsV B' vs cs := ⟨x.1, fun i c e => let ⟨v, a, b⟩ := x.2 i c e; ⟨v, a, b.mono le⟩⟩
theorem ints_empty {vs : List Value} {ns : List Int} (x : IntsAre vs ns) : vs.isEmpty = ns.isEmpty := by cases x <;> rfl

section
variable {prog : Program} {w : World} {A : Around} {E : Value → Shared → Prop} {Q : Value → Shared → Prop} {h : Heap} {g : Array GenState} {d : Drawn} {t : Nat} {os : OsState} {a b : Int} {x y : Tok}
theorem r_add (k : ∀ u t', Q (.int (a + b) u) ⟨h, g, d, t', os⟩) : wpAny (model prog w) A (binaryOp .Add (.int a x) (.int b y)) Q E ⟨h, g, d, t, os⟩ := PyProof.Rows.add_int (s := ⟨h, g, d, t, os⟩) (k _ _)
theorem r_iadd (k : ∀ u t', Q (.int (a + b) u) ⟨h, g, d, t', os⟩) : wpAny (model prog w) A (inplaceOp .Add (.int a x) (.int b y)) Q E ⟨h, g, d, t, os⟩ := PyProof.Rows.iadd_int (s := ⟨h, g, d, t, os⟩) (k _ _)
theorem r_isub (k : ∀ u t', Q (.int (a - b) u) ⟨h, g, d, t', os⟩) : wpAny (model prog w) A (inplaceOp .Sub (.int a x) (.int b y)) Q E ⟨h, g, d, t, os⟩ := PyProof.Rows.isub_int (s := ⟨h, g, d, t, os⟩) (k _ _)
theorem r_sub (k : ∀ u t', Q (.int (a - b) u) ⟨h, g, d, t', os⟩) : wpAny (model prog w) A (binaryOp .Sub (.int a x) (.int b y)) Q E ⟨h, g, d, t, os⟩ := PyProof.Rows.sub_int (s := ⟨h, g, d, t, os⟩) (k _ _)
theorem r_mod (hb : b ≠ 0) (k : ∀ u t', Q (.int (a.fmod b) u) ⟨h, g, d, t', os⟩) : wpAny (model prog w) A (binaryOp .Mod (.int a x) (.int b y)) Q E ⟨h, g, d, t, os⟩ := PyProof.Rows.mod_int (s := ⟨h, g, d, t, os⟩) hb (k _ _)
theorem r_fdiv (hb : b ≠ 0) (hq : Builtin.divisionGoesByPylong a b = false) (k : ∀ u t', Q (.int (a.fdiv b) u) ⟨h, g, d, t', os⟩) : wpAny (model prog w) A (binaryOp .FloorDiv (.int a x) (.int b y)) Q E ⟨h, g, d, t, os⟩ := PyProof.Rows.floordiv_int (s := ⟨h, g, d, t, os⟩) hb (k _ _) (.inl hq)
theorem r_mul (hm : IntMulOk a b) (k : ∀ u t', Q (.int (a * b) u) ⟨h, g, d, t', os⟩) : wpAny (model prog w) A (binaryOp .Mult (.int a x) (.int b y)) Q E ⟨h, g, d, t, os⟩ := PyProof.Rows.mul_int (s := ⟨h, g, d, t, os⟩) (k _ _) hm
theorem r_neg (k : ∀ u t', Q (.int (-a) u) ⟨h, g, d, t', os⟩) : wpAny (model prog w) A (unaryOp .USub (.int a x)) Q E ⟨h, g, d, t, os⟩ := PyProof.Rows.neg_int (s := ⟨h, g, d, t, os⟩) (k _ _)
end

section
variable {prog : Program} {w : World} {A : Around} {E : Value → Shared → Prop} {Q : Value → Shared → Prop}
variable {h : Heap} {B : Sto} {g : Array GenState} {d : Drawn} {t : Nat} {os : OsState} {v : Value}
variable {K : Frag} {N : Nm} {p : Program} {loose : List Str} {mg mb : Str → Option Value} {H : Heap}

set_option maxRecDepth 10000 in
theorem c_is_blank (W : Wd K p loose mg mb H) (Z : OkV K N) (hH : Le H.get? B) (kp : Kp B h) (r : Room A 2) {c : Cell} (hc : CellV B v c)
    (k : ∀ B' h' t', Grow h B [] B' h' → Q (.bool (blankC c)) ⟨h', g, d, t', os⟩) : wpAny (model prog w) A (call (.ref N.isblank) [v]) Q E ⟨h, g, d, t, os⟩ := by
  refine enterF (own := []) (binds := [("cell", v)]) W hH kp (by simp) .nil Z.f_isblank r.room fun L h1 t1 cdv O => ?_
  have r1 := (r.deeper (env := envOf "is_blank" (scpF (top 11)) L N.isblank cdv)).unit
  obtain ⟨a, ca, u, pv, bv, rfl, ea, vs, ec, ic⟩ := hc
  refine wpAny_execs_cons ?_
  refine wpAny_Return_some ?_
  refine BoolOp_and ?_
  refine wpAny_Compare1 ?_
  refine Subscript_ ?_
  refine r_local (by assumption) rfl ?_
  refine r_int ?_; intro _ _
  refine r_tupItem (O.tup ea) rfl rfl ?_
  refine Tuple_ ?_
  refine wpAny_items_nil ?_
  refine r_tuple O fun b B1 h2 O1 le1 e1 => ?_
  refine r_eqNil (O1.tupl (le1 _ _ ec)) (O1.tupl e1) r1 ?_
  refine wpAny_truthy_bool ?_
  rw [ints_empty ic]
  refine PyProof.Rows.split_bool (fun hT => ?_) (fun hF => ?_)
  · refine BoolOp_one ?_
    refine wpAny_Compare1 ?_
    refine Subscript_ ?_
    refine r_local (by assumption) rfl ?_
    refine r_int ?_; intro _ _
    refine r_tupItem (O1.tup (le1 _ _ ea)) rfl rfl ?_
    refine r_int ?_; intro _ _
    refine PySem.P.eq_int ?_
    have e : blankC c = (c.w == 1) := by simp [blankC, hT]
    rw [e] at k
    exact k _ _ _ O1.g
  · have e : blankC c = false := by simp [blankC, hF]
    rw [e] at k
    rw [hF]
    exact k _ _ _ O1.g
end
end

section
open PySem PySem.W PySem.Calls PyProof.Rows PySem.SeqAt

/-- what cell_codes gives -/
def ccod (c : Cell) : List Int := if c.w = 0 then [] else if c.codes = [] then [32] else c.codes

structure LineD where
  cells : List Cell
  wrap : Bool
/-- a Line that stays as it is -/
inductive LineV (N : Nm) (B : Sto) (v : Value) (l : LineD) : Prop
  | mk (x dx : Addr) (es : List DictEntry) (n : Nat) (c : Addr) (vs : List Value) (q : Nat) (e1 : v = .ref x) (e2 : B x = some (instObj N.Line dx)) (e3 : B dx = some (dictOf es n)) (e4 : getL "cells" es = some (some (.ref c)))
    (e5 : getL "is_wrapped" es = some (some (.bool l.wrap))) (e6 : B c = some (lstO vs q)) (e7 : CellsV B vs l.cells) : LineV N B v l
theorem LineV.mono {N : Nm} {B B' : Sto} {v : Value} {l : LineD} (x : LineV N B v l) (le : Le B B') : LineV N B' v l := by
  obtain ⟨a, dx, es, n, c, vs, q, e1, e2, e3, e4, e5, e6, e7⟩ := x
  exact ⟨a, dx, es, n, c, vs, q, e1, le _ _ e2, le _ _ e3, e4, e5, le _ _ e6, e7.mono le⟩

section
variable {prog : Program} {w : World} {A : Around} {E : Value → Shared → Prop} {Q : Value → Shared → Prop}
variable {h : Heap} {B : Sto} {g : Array GenState} {d : Drawn} {t : Nat} {os : OsState} {v : Value}
variable {K : Frag} {N : Nm} {p : Program} {loose : List Str} {mg mb : Str → Option Value} {H : Heap}

set_option maxRecDepth 10000 in
theorem c_cell_codes (W : Wd K p loose mg mb H) (Z : OkV K N) (hH : Le H.get? B) (kp : Kp B h) (r : Room A 2) {c : Cell} (hc : CellV B v c)
    (k : ∀ B' h' t' a, Grow h B [] B' h' → IntsT B' a (ccod c) → Q (.ref a) ⟨h', g, d, t', os⟩) : wpAny (model prog w) A (call (.ref N.ccodes) [v]) Q E ⟨h, g, d, t, os⟩ := by
  refine enterF (own := []) (binds := [("cell", v)]) W hH kp (by simp) .nil Z.f_ccodes r.room fun L h1 t1 cdv O => ?_
  have r1 := (r.deeper (env := envOf "cell_codes" (scpF (top 24)) L N.ccodes cdv)).unit
  obtain ⟨a, ca, u, pv, bv, rfl, ea, vs, ec, ic⟩ := hc
  refine wpAny_execs_cons ?_
  refine wpAny_If ?_
  refine wpAny_isTrue_Compare1 ?_
  refine Subscript_ ?_
  refine r_local (by assumption) rfl ?_
  refine r_int ?_; intro _ _
  refine r_tupItem (O.tup ea) rfl rfl ?_
  refine r_int ?_; intro _ _
  refine PySem.P.eq_int ?_
  refine wpAny_truthy_bool ?_
  refine PyProof.Rows.split_bool (fun hT => ?_) (fun hF => ?_)
  · have hw : c.w = 0 := by simpa using hT
    refine wpAny_execs_cons ?_
    refine wpAny_Return_some ?_
    refine Tuple_ ?_
    refine wpAny_items_nil ?_
    refine r_tuple O fun b B1 h2 O1 le1 e1 => ?_
    have e : ccod c = [] := by simp [ccod, hw]
    rw [e] at k
    exact k _ _ _ _ O1.g ⟨[], e1, .nil⟩
  · have hw : c.w ≠ 0 := by simpa using hF
    refine wpAny_execs_nil ?_
    refine wpAny_execs_cons ?_
    refine wpAny_Return_some ?_
    refine wpAny_IfExp ?_
    refine wpAny_isTrue_Compare1 ?_
    refine Subscript_ ?_
    refine r_local (by assumption) rfl ?_
    refine r_int ?_; intro _ _
    refine r_tupItem (O.tup ea) rfl rfl ?_
    refine Tuple_ ?_
    refine wpAny_items_nil ?_
    refine r_tuple O fun b B1 h2 O1 le1 e1 => ?_
    refine r_neNil (O1.tupl (le1 _ _ ec)) (O1.tupl e1) r1 ?_
    refine wpAny_truthy_bool ?_
    rw [ints_empty ic]
    refine PyProof.Rows.split_bool (fun hT => ?_) (fun hF => ?_)
    · refine Subscript_ ?_
      refine r_local (by assumption) rfl ?_
      refine r_int ?_; intro _ _
      refine r_tupItem (O1.tup (le1 _ _ ea)) rfl rfl ?_
      have e : ccod c = c.codes := by
        simp only [Bool.not_eq_true', List.isEmpty_eq_false_iff] at hT
        simp [ccod, hw, hT]
      rw [e] at k
      exact k _ _ _ _ O1.g ⟨vs, le1 _ _ ec, ic⟩
    · obtain ⟨ub, hb⟩ := Z.v_BLANK
      refine Tuple_ ?_
      refine wpAny_items_cons ?_
      refine r_global W hH O1 hb ?_
      refine wpAny_items_nil ?_
      refine r_tuple O1 fun b2 B2 h3 O2 le2 e2 => ?_
      have e : ccod c = [32] := by
        simp only [Bool.not_eq_false', List.isEmpty_iff] at hF
        simp [ccod, hw, hF]
      rw [e] at k
      exact k _ _ _ _ O2.g ⟨_, e2, .cons _ _ .nil⟩

/-- what line_place gives -/
def lplaceD (l : LineD) (c : Int) : Int := if 0 < c ∧ c < l.cells.length ∧ (l.cells[c.toNat]?).map (·.w) = some 0 then c - 1 else c

set_option maxHeartbeats 800000 in
set_option maxRecDepth 10000 in
theorem c_line_place (W : Wd K p loose mg mb H) (Z : OkV K N) (hH : Le H.get? B) (kp : Kp B h) (r : Room A 2) {l : LineD} (hl : LineV N B v l) (hsz : l.cells.length < 2 ^ 62) {c : Int} {uc : Tok}
    (k : ∀ B' h' t' u, Grow h B [] B' h' → Q (.int (lplaceD l c) u) ⟨h', g, d, t', os⟩) : wpAny (model prog w) A (call (.ref N.lplace) [v, .int c uc]) Q E ⟨h, g, d, t, os⟩ := by
  refine enterF (own := []) (binds := [("line", v), ("column", .int c uc)]) W hH kp (by simp) .nil Z.f_lplace r.room fun L h1 t1 cdv O => ?_
  obtain ⟨x, dx, es, n, ca, vs, q, rfl, ex, ed, gc, gw, ec, hlen, hcs⟩ := hl
  refine wpAny_execs_cons ?_
  refine wpAny_If ?_
  refine wpAny_isTrue_BoolOp ?_
  refine wpAny_allTrue_And_cons ?_
  refine isTrue_chain ?_
  refine r_int ?_; intro _ _
  refine test_link ?_
  refine r_local (by assumption) rfl ?_
  refine PySem.P.lt_int ?_
  refine wpAny_truthy_bool ?_
  refine PyProof.Rows.split_dec (fun h0 => ?_) (fun h0 => ?_)
  · refine test_last ?_
    refine Call_ ?_
    refine r_builtin (by assumption) (by assumption) (by assumption) (by exact OkV.b_len (by assumption)) (by boot_by_name) ?_
    refine r_callB ?_
    refine wpAny_items_cons ?_
    refine Attribute_any_ ?_
    refine r_local (by assumption) rfl ?_
    (refine r_attr0 (by assumption) (by assumption) (by assumption) (by assumption) (by assumption) (by exact OkV.a_cells (by assumption)) (by assumption) rfl ?_; intro _)
    refine wpAny_items_nil ?_
    skip
    refine r_len (O.lst ec) (by (first | lia | omega)) fun u t' => ?_
    refine PySem.P.lt_int ?_
    refine wpAny_truthy_bool ?_
    rw [hlen]
    refine PyProof.Rows.split_dec (fun h2 => ?_) (fun h2 => ?_)
    · refine wpAny_allTrue_And_cons ?_
      refine wpAny_isTrue_Compare1 ?_
      refine Subscript_ ?_
      refine Subscript_ ?_
      refine Attribute_any_ ?_
      refine r_local (by assumption) rfl ?_
      (refine r_attr0 (by assumption) (by assumption) (by assumption) (by assumption) (by assumption) (by exact OkV.a_cells (by assumption)) (by assumption) rfl ?_; intro _)
      refine r_local (by assumption) rfl ?_
      skip
      have hc : c.toNat < l.cells.length := by (first | lia | omega)
      obtain ⟨v', ev, a, cc, u', pv, bv, rfl, ea, ic⟩ := hcs c.toNat _ (List.getElem?_eq_getElem hc)
      refine r_lstItem (O.lst ec) (by (first | lia | omega)) (by (first | lia | omega)) ev ?_
      refine r_int ?_; intro _ _
      refine r_tupItem (O.tup ea) rfl rfl ?_
      refine r_int ?_; intro _ _
      refine PySem.P.eq_int ?_
      refine wpAny_truthy_bool ?_
      refine PyProof.Rows.split_bool (fun hT => ?_) (fun hF => ?_)
      · refine wpAny_allTrue_And_nil ?_
        refine iteT ?_
        refine wpAny_execs_cons ?_
        refine wpAny_Return_some ?_
        refine wpAny_BinOp ?_
        refine r_local (by assumption) rfl ?_
        refine r_int ?_; intro _ _
        refine r_sub ?_; intro _ _
        have e : lplaceD l c = c - 1 := by
          unfold lplaceD
          rw [if_pos]
          refine ⟨h0, h2, ?_⟩
          rw [List.getElem?_eq_getElem hc]
          simpa using hT
        rw [e] at k
        exact k _ _ _ _ O.g
      · refine iteF ?_
        refine wpAny_execs_nil ?_
        refine wpAny_execs_cons ?_
        refine wpAny_Return_some ?_
        refine r_local (by assumption) rfl ?_
        have e : lplaceD l c = c := by
          unfold lplaceD
          rw [if_neg]
          rintro ⟨_, _, h3⟩
          rw [List.getElem?_eq_getElem hc] at h3
          simp at hF
          exact hF (by simpa using h3)
        rw [e] at k
        exact k _ _ _ _ O.g
    · refine iteF ?_
      refine wpAny_execs_nil ?_
      refine wpAny_execs_cons ?_
      refine wpAny_Return_some ?_
      refine r_local (by assumption) rfl ?_
      have e : lplaceD l c = c := by
        unfold lplaceD
        rw [if_neg]
        rintro ⟨_, h3, _⟩
        exact h2 h3
      rw [e] at k
      exact k _ _ _ _ O.g
  · refine iteF ?_
    refine iteF ?_
    refine wpAny_execs_nil ?_
    refine wpAny_execs_cons ?_
    refine wpAny_Return_some ?_
    refine r_local (by assumption) rfl ?_
    have e : lplaceD l c = c := by
      unfold lplaceD
      rw [if_neg]
      rintro ⟨h3, _⟩
      exact h0 h3
    rw [e] at k
    exact k _ _ _ _ O.g
end
end

section
open PySem PySem.W PySem.Calls PyProof.Rows PySem.SeqAt

def LinesV (N : Nm) (B : Sto) (vs : List Value) (ls : List LineD) : Prop := vs.length = ls.length ∧ ∀ (i : Nat) (l : LineD), ls[i]? = some l → ∃ v, vs[i]? = some v ∧ LineV N B v l
theorem LinesV.mono {N : Nm} {B B' : Sto} {vs : List Value} {ls : List LineD} (x : LinesV N B vs ls) (le : Le B B') : LinesV N B' vs ls := ⟨x.1, fun i l e => let ⟨v, a, b⟩ := x.2 i l e; ⟨v, a, b.mono le⟩⟩
/-- a View whose lines stay as they are: so many of them in the history -/
inductive ViewV (N : Nm) (B : Sto) (v : Value) (ab : Nat) (ls : List LineD) : Prop
  | mk (x dx : Addr) (es : List DictEntry) (n : Nat) (hh dh : Addr) (hes : List DictEntry) (hn : Nat) (hl : Addr) (hq : Nat) (gg dg : Addr) (ges : List DictEntry) (gn : Nat) (gl : Addr) (gq : Nat) (hvs gvs : List Value)
    (e1 : v = .ref x) (e2 : B x = some (instObj N.View dx)) (e3 : B dx = some (dictOf es n)) (e4 : getL "history" es = some (some (.ref hh))) (e5 : getL "grid" es = some (some (.ref gg))) (e6 : getL "above" es = some none) (e7 : getL "rows" es = some none) (e8 : getL "line" es = some none) (e9 : getL "is_joined" es = some none)
    (f1 : B hh = some (instObj N.History dh)) (f2 : B dh = some (dictOf hes hn)) (f3 : getL "lines" hes = some (some (.ref hl))) (f4 : B hl = some (lstO hvs hq)) (f5 : B gg = some (instObj N.Grid dg)) (f6 : B dg = some (dictOf ges gn)) (f7 : getL "lines" ges = some (some (.ref gl))) (f8 : B gl = some (lstO gvs gq))
    (f9 : hvs.length = ab) (g1 : LinesV N B (hvs ++ gvs) ls) : ViewV N B v ab ls
theorem ViewV.mono {N : Nm} {B B' : Sto} {v : Value} {ab : Nat} {ls : List LineD} (x : ViewV N B v ab ls) (le : Le B B') : ViewV N B' v ab ls := by
  obtain ⟨a, dx, es, n, hh, dh, hes, hn, hl, hq, gg, dg, ges, gn, gl, gq, hvs, gvs, e1, e2, e3, e4, e5, e6, e7, e8, e9, f1, f2, f3, f4, f5, f6, f7, f8, f9, g1⟩ := x
  exact ⟨a, dx, es, n, hh, dh, hes, hn, hl, hq, gg, dg, ges, gn, gl, gq, hvs, gvs, e1, le _ _ e2, le _ _ e3, e4, e5, e6, e7, e8, e9, le _ _ f1, le _ _ f2, f3, le _ _ f4, le _ _ f5, le _ _ f6, f7, le _ _ f8, f9, g1.mono le⟩

section
variable {prog : Program} {w : World} {A : Around} {E : Value → Shared → Prop} {Q : Value → Shared → Prop}
variable {h : Heap} {B : Sto} {g : Array GenState} {d : Drawn} {t : Nat} {os : OsState} {v : Value} {ab : Nat} {ls : List LineD}
variable {K : Frag} {N : Nm} {p : Program} {loose : List Str} {mg mb : Str → Option Value} {H : Heap}

set_option maxRecDepth 10000 in
theorem c_above (W : Wd K p loose mg mb H) (Z : OkV K N) (hH : Le H.get? B) (kp : Kp B h) (r : Room A 1) (hv : ViewV N B v ab ls) (hsz : ls.length < 2 ^ 61)
    (k : ∀ B' h' t' u, Grow h B [] B' h' → Q (.int ab u) ⟨h', g, d, t', os⟩) : wpAny (model prog w) A (call (.ref N.above) [v]) Q E ⟨h, g, d, t, os⟩ := by
  refine enterF (own := []) (binds := [("self", v)]) W hH kp (by simp) .nil Z.f_above r.room fun L h1 t1 cdv O => ?_
  obtain ⟨x, dx, es, n, hh, dh, hes, hn, hl, hq, gg, dg, ges, gn, gl, gq, hvs, gvs, rfl, e2, e3, e4, e5, e6, e7, e8, e9, f1, f2, f3, f4, f5, f6, f7, f8, f9, g1, g2⟩ := hv
  refine wpAny_execs_cons ?_
  refine wpAny_Return_some ?_
  refine wpAny_IfExp ?_
  refine wpAny_isTrue_Compare1 ?_
  refine Attribute_any_ ?_
  refine r_local (by assumption) rfl ?_
  (refine r_attr0 (by assumption) (by assumption) (by assumption) (by assumption) (by assumption) (by exact OkV.a_history (by assumption)) (by assumption) rfl ?_; intro _)
  refine wpAny_Constant_none ?_
  refine is_ref_none ?_
  refine wpAny_truthy_bool ?_
  refine iteF ?_
  refine Call_ ?_
  refine r_builtin (by assumption) (by assumption) (by assumption) (by exact OkV.b_len (by assumption)) (by boot_by_name) ?_
  refine r_callB ?_
  refine wpAny_items_cons ?_
  refine Attribute_any_ ?_
  refine Attribute_any_ ?_
  refine r_local (by assumption) rfl ?_
  (refine r_attr0 (by assumption) (by assumption) (by assumption) (by assumption) (by assumption) (by exact OkV.a_history (by assumption)) (by assumption) rfl ?_; intro _)
  (refine r_attr0 (by assumption) (by assumption) (by assumption) (by assumption) (by assumption) (by exact OkV.a_hlines (by assumption)) (by assumption) rfl ?_; intro _)
  refine wpAny_items_nil ?_
  have hl : hvs.length ≤ ls.length := by rw [← g1, List.length_append]; (first | lia | omega)
  refine r_len (O.lst f4) (by (first | lia | omega)) fun u t' => ?_
  rw [f9]
  exact k _ _ _ _ O.g

set_option maxRecDepth 10000 in
theorem c_rows (W : Wd K p loose mg mb H) (Z : OkV K N) (hH : Le H.get? B) (kp : Kp B h) (r : Room A 2) (hv : ViewV N B v ab ls) (hsz : ls.length < 2 ^ 61)
    (k : ∀ B' h' t' u, Grow h B [] B' h' → Q (.int ls.length u) ⟨h', g, d, t', os⟩) : wpAny (model prog w) A (call (.ref N.rows) [v]) Q E ⟨h, g, d, t, os⟩ := by
  refine enterF (own := []) (binds := [("self", v)]) W hH kp (by simp) .nil Z.f_rows r.room fun L h1 t1 cdv O => ?_
  have hv0 := hv
  obtain ⟨x, dx, es, n, hh, dh, hes, hn, hl, hq, gg, dg, ges, gn, gl, gq, hvs, gvs, rfl, e2, e3, e4, e5, e6, e7, e8, e9, f1, f2, f3, f4, f5, f6, f7, f8, f9, g1, g2⟩ := hv
  refine wpAny_execs_cons ?_
  refine wpAny_Return_some ?_
  refine wpAny_BinOp ?_
  refine MethodCall_ ?_
  refine r_local (by assumption) rfl ?_
  refine r_meth0 (by assumption) (by assumption) (by assumption) (by assumption) (by assumption) (by exact OkV.m_above (by assumption)) (by assumption) ?_
  refine r_callF0 (by assumption) (by assumption) (by assumption) (by exact OkV.f_above (by assumption)) ?_
  refine c_above W Z (Le.trans hH O.g.sub) O.g.keep (r.deeper (env := _)) hv0 hsz fun B' h' t' u G => ?_
  have O1 := O.call G
  have le := G.sub
  refine Call_ ?_
  refine r_builtin (by assumption) (by assumption) (by assumption) (by exact OkV.b_len (by assumption)) (by boot_by_name) ?_
  refine r_callB ?_
  refine wpAny_items_cons ?_
  refine Attribute_any_ ?_
  refine Attribute_any_ ?_
  refine r_local (by assumption) rfl ?_
  (refine r_attr0 (by assumption) (by assumption) (by assumption) (by assumption) (by assumption) (by exact OkV.a_grid (by assumption)) (by assumption) rfl ?_; intro _)
  (refine r_attr0 (by assumption) (by assumption) (by assumption) (by assumption) (by assumption) (by exact OkV.a_glines (by assumption)) (by assumption) rfl ?_; intro _)
  refine wpAny_items_nil ?_
  have hl : hvs.length + gvs.length = ls.length := by rw [← g1, List.length_append]
  refine r_len (O1.lst (le _ _ f8)) (by (first | lia | omega)) fun u t' => ?_
  refine r_add ?_; intro _ _
  rw [show (ab : Int) + gvs.length = ls.length by (first | lia | omega)]
  exact k _ _ _ _ O1.g

set_option maxRecDepth 10000 in
theorem c_vline (W : Wd K p loose mg mb H) (Z : OkV K N) (hH : Le H.get? B) (kp : Kp B h) (r : Room A 2) (hv : ViewV N B v ab ls) (hsz : ls.length < 2 ^ 61) {row : Nat} {uc : Tok} {l : LineD} (hr : ls[row]? = some l)
    (k : ∀ B' h' t' x, Grow h B [] B' h' → LineV N B' x l → Q x ⟨h', g, d, t', os⟩) : wpAny (model prog w) A (call (.ref N.vline) [v, .int row uc]) Q E ⟨h, g, d, t, os⟩ := by
  refine enterF (own := []) (binds := [("self", v), ("row", .int row uc)]) W hH kp (by simp) .nil Z.f_vline r.room fun L h1 t1 cdv O => ?_
  have hv0 := hv
  obtain ⟨x, dx, es, n, hh, dh, hes, hn, hl, hq, gg, dg, ges, gn, gl, gq, hvs, gvs, rfl, e2, e3, e4, e5, e6, e7, e8, e9, f1, f2, f3, f4, f5, f6, f7, f8, f9, g1, g2⟩ := hv
  obtain ⟨y, ey, hy⟩ := g2 _ _ hr
  have hlt : row < ls.length := (List.getElem?_eq_some_iff.mp hr).1
  have hln : hvs.length + gvs.length = ls.length := by rw [← g1, List.length_append]
  refine wpAny_execs_cons ?_
  refine wpAny_Assign_Name ?_
  refine MethodCall_ ?_
  refine r_local (by assumption) rfl ?_
  refine r_meth0 (by assumption) (by assumption) (by assumption) (by assumption) (by assumption) (by exact OkV.m_above (by assumption)) (by assumption) ?_
  refine r_callF0 (by assumption) (by assumption) (by assumption) (by exact OkV.f_above (by assumption)) ?_
  refine c_above W Z (Le.trans hH O.g.sub) O.g.keep (r.deeper (env := _)) hv0 hsz fun B' h' t' u G => ?_
  have O1 := O.call G
  have le := G.sub
  refine r_store O1 fun h2 t2 O2 => ?_
  refine wpAny_execs_cons ?_
  refine wpAny_Return_some ?_
  refine wpAny_IfExp ?_
  refine wpAny_isTrue_Compare1 ?_
  refine r_local (by assumption) rfl ?_
  refine r_local (by assumption) rfl ?_
  refine PySem.P.lt_int ?_
  refine wpAny_truthy_bool ?_
  refine PyProof.Rows.split_dec (fun h0 => ?_) (fun h0 => ?_)
  · refine Subscript_ ?_
    refine Attribute_any_ ?_
    refine Attribute_any_ ?_
    refine r_local (by assumption) rfl ?_
    (refine r_attr0 (by assumption) (by assumption) (by assumption) (by assumption) (by assumption) (by exact OkV.a_history (by assumption)) (by assumption) rfl ?_; intro _)
    (refine r_attr0 (by assumption) (by assumption) (by assumption) (by assumption) (by assumption) (by exact OkV.a_hlines (by assumption)) (by assumption) rfl ?_; intro _)
    refine r_local (by assumption) rfl ?_
    skip
    refine r_lstItem (O2.lst (le _ _ f4)) (by (first | lia | omega)) (by (first | lia | omega)) (v := y) ?_ ?_
    · rw [List.getElem?_append_left (by (first | lia | omega))] at ey; simpa using ey
    · exact k _ _ _ _ O2.g (hy.mono O2.g.sub)
  · refine Subscript_ ?_
    refine Attribute_any_ ?_
    refine Attribute_any_ ?_
    refine r_local (by assumption) rfl ?_
    (refine r_attr0 (by assumption) (by assumption) (by assumption) (by assumption) (by assumption) (by exact OkV.a_grid (by assumption)) (by assumption) rfl ?_; intro _)
    (refine r_attr0 (by assumption) (by assumption) (by assumption) (by assumption) (by assumption) (by exact OkV.a_glines (by assumption)) (by assumption) rfl ?_; intro _)
    refine wpAny_BinOp ?_
    refine r_local (by assumption) rfl ?_
    refine r_local (by assumption) rfl ?_
    refine r_sub ?_; intro _ _
    skip
    refine r_lstItem (O2.lst (le _ _ f8)) (by (first | lia | omega)) (by (first | lia | omega)) (v := y) ?_ ?_
    · rw [List.getElem?_append_right (by (first | lia | omega)), f9] at ey; rw [← ey]; congr 1; (first | lia | omega)
    · exact k _ _ _ _ O2.g (hy.mono O2.g.sub)
end
end

section
open PySem PySem.W PySem.Calls PyProof.Rows PySem.SeqAt

section
variable {prog : Program} {w : World} {A : Around} {R : Result → Shared → Prop} {env : Env} {E : Value → Shared → Prop}
variable {h₀ h h' : Heap} {B₀ B B' : Sto} {M₀ : List Addr} {L : Addr} {own own' : Own} {m m' : Str → Option Value}
variable {g : Array GenState} {d : Drawn} {t : Nat} {os : OsState} {n : Nat}

/-- how a turn of a while loop ends -/
def WhileEnd (h₀ : Heap) (B₀ : Sto) (M₀ : List Addr) (L : Addr) (B : Sto) (g : Array GenState) (d : Drawn) (os : OsState) (Inv : Nat → Sto → Own → (Str → Option Value) → Prop) (n : Nat) (s : Shared) : Prop :=
  ∃ i B' own m h t, i < n ∧ s = ⟨h, g, d, t, os⟩ ∧ Ow h₀ B₀ M₀ L B' own m h ∧ Le B B' ∧ Inv i B' own m
theorem while_own {test : Expr} {body orelse : List Stmt} (O : Ow h₀ B₀ M₀ L B own m h) (Inv : Nat → Sto → Own → (Str → Option Value) → Prop) (n : Nat) (h0 : Inv n B own m)
    (turn : ∀ i B' own' m' h' t', Inv i B' own' m' → Le B B' → Ow h₀ B₀ M₀ L B' own' m' h' →
      wpAny (model prog w) A (isTrue test env (eval test env)) (fun b s₂ =>
        if b = true then wpAny (model prog w) A (execs body env) (fun f s₃ => match f with
            | .next | .cont => WhileEnd h₀ B₀ M₀ L B g d os Inv i s₃
            | .brk => R (.ok .next) s₃
            | .ret v => R (.ok (.ret v)) s₃) (notedBy (model prog w) A env fun e s' => R (.error e) s') s₂
        else wpAny (model prog w) A (execs orelse env) (fun f s₃ => R (.ok f) s₃) (notedBy (model prog w) A env fun e s' => R (.error e) s') s₂)
        (notedBy (model prog w) A env fun e s' => R (.error e) s') ⟨h', g, d, t', os⟩) :
    codeAny (model prog w) A (.whileLoop test body orelse env) R ⟨h, g, d, t, os⟩ := by
  refine codeAny_whileLoop (fun i s' => ∃ B' own' m' h' t', s' = ⟨h', g, d, t', os⟩ ∧ Ow h₀ B₀ M₀ L B' own' m' h' ∧ Le B B' ∧ Inv i B' own' m') ?_ n ⟨B, own, m, h, t, rfl, O, Le.refl _, h0⟩
  rintro i s' ⟨B₁, own₁, m₁, h₁, t₁, rfl, O₁, le, inv⟩
  have fin : ∀ s₃, WhileEnd h₀ B₀ M₀ L B g d os Inv i s₃ → ∃ m, m < i ∧ ∃ B' own' m' h' t', s₃ = ⟨h', g, d, t', os⟩ ∧ Ow h₀ B₀ M₀ L B' own' m' h' ∧ Le B B' ∧ Inv m B' own' m' := by
    rintro s₃ ⟨j, B₂, own₂, m₂, h₂, t₂, hj, rfl, O₂, le₂, inv₂⟩
    exact ⟨j, hj, B₂, own₂, m₂, h₂, t₂, rfl, O₂, le₂, inv₂⟩
  refine wpAny_mono (turn i B₁ own₁ m₁ h₁ t₁ inv le O₁) (fun b s₂ y => ?_) fun _ _ e => e
  cases b with
  | false => exact y
  | true =>
    refine wpAny_mono y (fun f s₃ z => ?_) fun _ _ e => e
    cases f with
    | next => exact fin _ z
    | cont => exact fin _ z
    | brk => exact z
    | ret v => exact z
end

/-- so many cells are left when blanks are taken off behind -/
def trimN (cs : List Cell) : Nat → Nat
  | 0 => 0
  | n + 1 => if (cs[n]?).map blankC = some true then trimN cs n else n + 1
def joinedD (ls : List LineD) (r : Nat) : Bool := match ls[r]? with
  | some l => decide (r + 1 < ls.length) && l.wrap
  | none => false
/-- what view_width gives -/
def widthD (ls : List LineD) (r : Nat) : Nat := match ls[r]? with
  | none => 0
  | some l => if joinedD ls r then
      (match ls[r + 1]? with
        | none => 0
        | some l' => l.cells.length - (if (match l.cells.getLast? with | some c => blankC c | none => false) && (match l'.cells.head? with | some c => c.w == 2 | none => false) then 1 else 0))
    else trimN l.cells l.cells.length

section
variable {prog : Program} {w : World} {A : Around} {E : Value → Shared → Prop} {Q : Value → Shared → Prop}
variable {h : Heap} {B : Sto} {g : Array GenState} {d : Drawn} {t : Nat} {os : OsState} {v : Value} {ab : Nat} {ls : List LineD}
variable {K : Frag} {N : Nm} {p : Program} {loose : List Str} {mg mb : Str → Option Value} {H : Heap}

set_option maxRecDepth 10000 in
theorem c_joined (W : Wd K p loose mg mb H) (Z : OkV K N) (hH : Le H.get? B) (kp : Kp B h) (r : Room A 3) (hv : ViewV N B v ab ls) (hsz : ls.length < 2 ^ 61) {row : Nat} {uc : Tok} (hr : row < ls.length)
    (k : ∀ B' h' t', Grow h B [] B' h' → Q (.bool (joinedD ls row)) ⟨h', g, d, t', os⟩) : wpAny (model prog w) A (call (.ref N.joined) [v, .int row uc]) Q E ⟨h, g, d, t, os⟩ := by
  refine enterF (own := []) (binds := [("self", v), ("row", .int row uc)]) W hH kp (by simp) .nil Z.f_joined r.room fun L h1 t1 cdv O => ?_
  have hv0 := hv
  obtain ⟨x, dx, es, n, hh, dh, hes, hn, hl, hq, gg, dg, ges, gn, gl, gq, hvs, gvs, rfl, e2, e3, e4, e5, e6, e7, e8, e9, f1, f2, f3, f4, f5, f6, f7, f8, f9, g1, g2⟩ := hv
  refine wpAny_execs_cons ?_
  refine wpAny_Return_some ?_
  refine BoolOp_and ?_
  refine Compare_chain ?_
  refine r_int ?_; intro _ _
  refine chain_link ?_
  refine r_local (by assumption) rfl ?_
  refine PySem.P.le_int ?_
  refine wpAny_truthy_bool ?_
  refine PyProof.Rows.split_dec (fun h0 => ?_) (fun h0 => absurd (by (first | lia | omega)) h0)
  refine chain_last ?_
  refine wpAny_BinOp ?_
  refine MethodCall_ ?_
  refine r_local (by assumption) rfl ?_
  refine r_meth0 (by assumption) (by assumption) (by assumption) (by assumption) (by assumption) (by exact OkV.m_rows (by assumption)) (by assumption) ?_
  refine r_callF0 (by assumption) (by assumption) (by assumption) (by exact OkV.f_rows (by assumption)) ?_
  refine c_rows W Z (Le.trans hH O.g.sub) O.g.keep (r.deeper (env := _)) hv0 hsz fun B' h' t' u G => ?_
  have O1 := O.call G
  have le := G.sub
  refine r_int ?_; intro _ _
  refine r_sub ?_; intro _ _
  refine PySem.P.lt_int ?_
  refine wpAny_truthy_bool ?_
  have hl : ls[row]? = some ls[row] := List.getElem?_eq_getElem hr
  have ej : joinedD ls row = (decide (row + 1 < ls.length) && ls[row].wrap) := by unfold joinedD; rw [hl]
  rw [ej] at k
  have ed : decide ((row : Int) < ls.length - 1) = decide (row + 1 < ls.length) := decide_eq_decide.mpr (by (first | lia | omega))
  rw [ed]
  refine PyProof.Rows.split_dec (fun h2 => ?_) (fun h2 => ?_)
  · rw [decide_eq_true h2, Bool.true_and] at k
    refine BoolOp_one ?_
    refine Attribute_any_ ?_
    refine MethodCall_ ?_
    refine r_local (by assumption) rfl ?_
    refine r_meth0 (by assumption) (by assumption) (by assumption) (by assumption) (by assumption) (by exact OkV.m_vline (by assumption)) (by assumption) ?_
    refine r_callF (by assumption) (by assumption) (by assumption) (by exact OkV.f_vline (by assumption)) ?_
    refine wpAny_items_cons ?_
    refine r_local (by assumption) rfl ?_
    refine wpAny_items_nil ?_
    refine r_inK (by assumption) (by assumption) (by assumption) ?_
    refine c_vline W Z (Le.trans hH O1.g.sub) O1.g.keep (r.deeper (env := _)) (hv0.mono le) hsz hl fun B2 h2 t2 x G2 hx => ?_
    have O2 := O1.call G2
    obtain ⟨x, dx, es, n, ca, vs, q, rfl, ex, ed, gc, gw, ec, hcs⟩ := hx
    (refine r_attr1 (by assumption) (by assumption) (by assumption) (by assumption) (by assumption) (by exact OkV.a_wrapped (by assumption)) (by assumption) rfl ?_; intro _)
    exact k _ _ _ O2.g
  · rw [decide_eq_false h2, Bool.false_and] at k
    rw [decide_eq_false h2]
    exact k _ _ _ O1.g
end
end

section
open PySem PySem.W PySem.Calls PyProof.Rows PySem.SeqAt

section
variable {prog : Program} {w : World} {A : Around} {E : Value → Shared → Prop} {Q : Value → Shared → Prop}
variable {h : Heap} {B : Sto} {g : Array GenState} {d : Drawn} {t : Nat} {os : OsState} {v : Value} {ab : Nat} {ls : List LineD}
variable {K : Frag} {N : Nm} {p : Program} {loose : List Str} {mg mb : Str → Option Value} {H : Heap}

set_option maxRecDepth 10000 in
theorem c_width (W : Wd K p loose mg mb H) (Z : OkV K N) (hH : Le H.get? B) (kp : Kp B h) (r : Room A 4) (hv : ViewV N B v ab ls) (hsz : ls.length < 2 ^ 61) (hcz : ∀ l ∈ ls, l.cells.length < 2 ^ 61) {row : Nat} {uc : Tok} (hr : row < ls.length)
    (k : ∀ B' h' t' u, Grow h B [] B' h' → Q (.int (widthD ls row) u) ⟨h', g, d, t', os⟩) : wpAny (model prog w) A (call (.ref N.vwidth) [v, .int row uc]) Q E ⟨h, g, d, t, os⟩ := by
  refine enterF (own := []) (binds := [("view", v), ("row", .int row uc)]) W hH kp (by simp) .nil Z.f_vwidth r.room fun L h1 t1 cdv O => ?_
  have hv0 := hv
  have rd := r.deeper (env := envOf "view_width" (scpF (top 23)) L N.vwidth cdv)
  obtain ⟨x, dx, es, n, hh, dh, hes, hn, hl, hq, gg, dg, ges, gn, gl, gq, hvs, gvs, rfl, e2, e3, e4, e5, e6, e7, e8, e9, f1, f2, f3, f4, f5, f6, f7, f8, f9, g1, g2⟩ := hv
  have hl : ls[row]? = some ls[row] := List.getElem?_eq_getElem hr
  have hsz1 := hcz ls[row] (List.getElem_mem hr)
  refine wpAny_execs_cons ?_
  refine wpAny_Assign_Name ?_
  refine Attribute_any_ ?_
  refine MethodCall_ ?_
  refine r_local (by assumption) rfl ?_
  refine r_meth0 (by assumption) (by assumption) (by assumption) (by assumption) (by assumption) (by exact OkV.m_vline (by assumption)) (by assumption) ?_
  refine r_callF (by assumption) (by assumption) (by assumption) (by exact OkV.f_vline (by assumption)) ?_
  refine wpAny_items_cons ?_
  refine r_local (by assumption) rfl ?_
  refine wpAny_items_nil ?_
  refine r_inK (by assumption) (by assumption) (by assumption) ?_
  refine c_vline W Z (Le.trans hH O.g.sub) O.g.keep (rd.less (by decide)) (hv0.mono O.g.sub) hsz hl fun B1 h1 t1 y G1 hy => ?_
  have O1 := O.call G1
  have le1 := O1.g.sub
  obtain ⟨x1, dx1, es1, n1, ca, vs, q, rfl, ex, ed, gc, gw, ec, hcs⟩ := hy
  (refine r_attr1 (by assumption) (by assumption) (by assumption) (by assumption) (by assumption) (by exact OkV.a_cells (by assumption)) (by assumption) rfl ?_; intro _)
  refine r_store O1 fun h2 t2 O2 => ?_
  refine wpAny_execs_cons ?_
  refine wpAny_If ?_
  refine wpAny_isTrue_value ?_
  refine MethodCall_ ?_
  refine r_local (by assumption) rfl ?_
  refine r_meth0 (by assumption) (by assumption) (by assumption) (by assumption) (by assumption) (by exact OkV.m_joined (by assumption)) (by assumption) ?_
  refine r_callF (by assumption) (by assumption) (by assumption) (by exact OkV.f_joined (by assumption)) ?_
  refine wpAny_items_cons ?_
  refine r_local (by assumption) rfl ?_
  refine wpAny_items_nil ?_
  refine r_inK (by assumption) (by assumption) (by assumption) ?_
  refine c_joined W Z (Le.trans hH O2.g.sub) O2.g.keep rd (hv0.mono O2.g.sub) hsz hr fun B3 h3 t3 G3 => ?_
  have O3 := O2.call G3
  have le3 := G3.sub
  have ec3 := le3 _ _ ec
  have hcs3 := hcs.mono le3
  have le03 := O3.g.sub
  refine wpAny_truthy_bool ?_
  refine PyProof.Rows.split_bool (fun hT => ?_) (fun hF => ?_)
  · have hj : row + 1 < ls.length := by
      unfold joinedD at hT
      rw [hl] at hT
      simp only [Bool.and_eq_true, decide_eq_true_eq] at hT
      exact hT.1
    have hl' : ls[row + 1]? = some ls[row + 1] := List.getElem?_eq_getElem hj
    have e : widthD ls row = ls[row].cells.length - (if (match ls[row].cells.getLast? with | some c => blankC c | none => false) && (match ls[row + 1].cells.head? with | some c => c.w == 2 | none => false) then 1 else 0) := by
      unfold widthD
      rw [hl, hT, hl']
      rfl
    rw [e] at k
    refine wpAny_execs_cons ?_
    refine wpAny_Assign_Name ?_
    refine Attribute_any_ ?_
    refine MethodCall_ ?_
    refine r_local (by assumption) rfl ?_
    refine r_meth0 (by assumption) (by assumption) (by assumption) (by assumption) (by assumption) (by exact OkV.m_vline (by assumption)) (by assumption) ?_
    refine r_callF (by assumption) (by assumption) (by assumption) (by exact OkV.f_vline (by assumption)) ?_
    refine wpAny_items_cons ?_
    refine wpAny_BinOp ?_
    refine r_local (by assumption) rfl ?_
    refine r_int ?_; intro _ _
    refine r_add ?_; intro _ _
    refine wpAny_items_nil ?_
    refine r_inK (by assumption) (by assumption) (by assumption) ?_
    rw [show (row : Int) + 1 = ((row + 1 : Nat) : Int) by (first | lia | omega)]
    refine c_vline W Z (Le.trans hH O3.g.sub) O3.g.keep (rd.less (by decide)) (hv0.mono O3.g.sub) hsz hl' fun B4 h4 t4 y' G4 hy' => ?_
    have O4 := O3.call G4
    have le4 := G4.sub
    have ec4 := le4 _ _ ec3
    have hcs4 := hcs3.mono le4
    obtain ⟨x2, dx2, es2, n2, ca2, vs2, q2, rfl, ex2, ed2, gc2, gw2, ec2, hcs2⟩ := hy'
    (refine r_attr1 (by assumption) (by assumption) (by assumption) (by assumption) (by assumption) (by exact OkV.a_cells (by assumption)) (by assumption) rfl ?_; intro _)
    refine r_store O4 fun h5 t5 O5 => ?_
    refine wpAny_execs_cons ?_
    refine wpAny_Assign_Name ?_
    refine wpAny_mono (Q := fun v s => ∃ own6 h6 t6, v = .bool ((match ls[row].cells.getLast? with | some c => blankC c | none => false) && (match ls[row + 1].cells.head? with | some c => c.w == 2 | none => false)) ∧ s = ⟨h6, g, d, t6, os⟩ ∧
      ∃ B6 m6, Le B4 B6 ∧ m6 "cells" = some (.ref ca) ∧ Ow h B [] L B6 own6 m6 h6) ?_ ?_ fun _ _ e => e
    · refine BoolOp_and ?_
      refine wpAny_Compare1 ?_
      refine r_local (by assumption) rfl ?_
      refine List_ ?_
      refine wpAny_items_nil ?_
      refine r_list O5 fun b1 h6 O6 => ?_
      refine r_lstNeNil (O6.g.keep _ _ ec4) (O6.mn _ (.head _)).1 rd.unit ?_
      refine wpAny_truthy_bool ?_
      refine PyProof.Rows.split_bool (fun hn => ?_) (fun hn => ?_)
      · obtain ⟨lc, hlc⟩ : ∃ lc, ls[row].cells.getLast? = some lc := by
          cases q : ls[row].cells.getLast? with
          | some c => exact ⟨c, rfl⟩
          | none =>
            rw [List.getLast?_eq_none_iff] at q
            have := hcs.1
            rw [q] at this
            cases vs with
            | nil => cases hn
            | cons _ _ => cases this
        rw [List.getLast?_eq_getElem?] at hlc
        rw [List.getLast?_eq_getElem?, hlc]
        have hpos := (List.getElem?_eq_some_iff.mp hlc).1
        obtain ⟨cv, ecv, hcv⟩ := hcs4.2 _ _ hlc
        have hvl := hcs4.1
        refine BoolOp_and ?_
        refine Call_ ?_
        refine r_global (by assumption) (by assumption) (by assumption) (by exact OkV.g_isblank (by assumption)) ?_
        refine r_callF (by assumption) (by assumption) (by assumption) (by exact OkV.f_isblank (by assumption)) ?_
        refine wpAny_items_cons ?_
        refine Subscript_ ?_
        refine r_local (by assumption) rfl ?_
        refine wpAny_UnaryOp ?_
        refine r_int ?_; intro _ _
        refine r_neg ?_; intro _ _
        refine r_lstItemN (O6.lst ec4) (v := cv) (by decide) (by (first | lia | omega)) (by rw [← ecv]; congr 1; (first | lia | omega)) ?_
        refine wpAny_items_nil ?_
        refine r_inK (by assumption) (by assumption) (by assumption) ?_
        refine c_is_blank W Z (Le.trans hH O6.g.sub) O6.g.keep (rd.less (by decide)) hcv fun B7 h7 t7 G7 => ?_
        have O7 := O6.call G7
        have le7 := G7.sub
        refine wpAny_truthy_bool ?_
        refine PyProof.Rows.split_bool (fun hb => ?_) (fun hb => ?_)
        · refine BoolOp_and ?_
          refine wpAny_Compare1 ?_
          refine r_local (by assumption) rfl ?_
          refine List_ ?_
          refine wpAny_items_nil ?_
          refine r_list O7 fun b1 h8 O8 => ?_
          refine r_lstNeNil (O8.g.keep _ _ (le7 _ _ ec2)) (O8.mn _ (.head _)).1 rd.unit ?_
          refine wpAny_truthy_bool ?_
          refine PyProof.Rows.split_bool (fun hn2 => ?_) (fun hn2 => ?_)
          · obtain ⟨fc, hfc⟩ : ∃ fc, ls[row + 1].cells[0]? = some fc := by
              cases q : ls[row + 1].cells[0]? with
              | some c => exact ⟨c, rfl⟩
              | none =>
                have := hcs2.1
                rw [List.getElem?_eq_none_iff] at q
                cases vs2 with
                | nil => cases hn2
                | cons _ _ => simp only [List.length_cons] at this; (first | lia | omega)
            obtain ⟨cv2, ecv2, a, cc, uu, pv, bv, rfl, ea, ic⟩ := hcs2.2 _ _ hfc
            refine BoolOp_one ?_
            refine wpAny_Compare1 ?_
            refine Subscript_ ?_
            refine Subscript_ ?_
            refine r_local (by assumption) rfl ?_
            refine r_int ?_; intro _ _
            refine r_lstItem (O8.lst (le7 _ _ ec2)) (v := .ref a) (by decide) (by decide) (by rw [← ecv2]; rfl) ?_
            refine r_int ?_; intro _ _
            refine r_tupItem (O8.tup (le7 _ _ ea)) rfl rfl ?_
            refine r_int ?_; intro _ _
            refine PySem.P.eq_int ?_
            refine ⟨_, _, _, ?_, rfl, _, _, le7, rfl, O8⟩
            show _ = Value.bool (blankC lc && _)
            rw [hb, List.head?_eq_getElem?, hfc, Bool.true_and]
          · refine ⟨_, _, _, ?_, rfl, _, _, le7, rfl, O8⟩
            have : ls[row + 1].cells = [] := by
              cases vs2 with
              | nil => exact List.length_eq_zero_iff.mp hcs2.1.symm
              | cons _ _ => cases hn2
            rw [this, hn2]
            simp
        · refine ⟨_, _, _, ?_, rfl, _, _, le7, rfl, O7⟩
          show _ = Value.bool (blankC lc && _)
          rw [hb, Bool.false_and]
      · refine ⟨_, _, _, ?_, rfl, _, _, Le.refl _, rfl, O6⟩
        have : ls[row].cells = [] := by
          cases vs with
          | nil => exact List.length_eq_zero_iff.mp hcs.1.symm
          | cons _ _ => cases hn
        rw [this, hn]
        rfl
    · rintro v s ⟨own6, h6, t6, rfl, rfl, B6, m6, le6, hm6, O6⟩
      refine r_store O6 fun h7 t7 O7 => ?_
      refine wpAny_execs_cons ?_
      refine wpAny_Return_some ?_
      refine wpAny_BinOp ?_
      refine Call_ ?_
      refine r_builtin (by assumption) (by assumption) (by assumption) (by exact OkV.b_len (by assumption)) (by boot_by_name) ?_
      refine r_callB ?_
      refine wpAny_items_cons ?_
      refine r_local (by assumption) (by assumption) ?_
      refine wpAny_items_nil ?_
      refine r_len (O7.lst (le6 _ _ ec4)) (by have := hcs.1; (first | lia | omega)) fun u t' => ?_
      rw [hcs.1]
      refine Call_ ?_
      refine r_builtin (by assumption) (by assumption) (by assumption) (by exact OkV.b_int (by assumption)) (by boot_by_name) ?_
      refine r_callT ?_
      refine wpAny_items_cons ?_
      refine r_local (by assumption) rfl ?_
      refine wpAny_items_nil ?_
      (refine r_intB ?_; intro _ _)
      refine r_sub ?_; intro _ _
      have hge : ∀ fb : Bool, (fb = true → ls[row].cells ≠ []) → ((ls[row].cells.length : Int) - (if fb = true then 1 else 0)) = ((ls[row].cells.length - (if fb = true then 1 else 0) : Nat) : Int) := by
        intro fb hfb
        cases fb with
        | false => rfl
        | true =>
          have := List.length_pos_iff.mpr (hfb rfl)
          simp only [if_true]
          (first | lia | omega)
      rw [hge _ (by intro z q; rw [q] at z; cases z)]
      exact k _ _ _ _ O7.g
  · have e : widthD ls row = trimN ls[row].cells ls[row].cells.length := by
      unfold widthD
      rw [hl, hF]
      rfl
    rw [e] at k
    refine wpAny_execs_nil ?_
    refine wpAny_execs_cons ?_
    refine wpAny_Assign_Name ?_
    refine Call_ ?_
    refine r_builtin (by assumption) (by assumption) (by assumption) (by exact OkV.b_len (by assumption)) (by boot_by_name) ?_
    refine r_callB ?_
    refine wpAny_items_cons ?_
    refine r_local (by assumption) rfl ?_
    refine wpAny_items_nil ?_
    refine r_len (O3.lst ec3) (by have := hcs.1; (first | lia | omega)) fun u t' => ?_
    rw [hcs.1]
    refine r_store O3 fun h4 t4 O4 => ?_
    refine wpAny_execs_cons ?_
    refine wpAny_While ?_
    refine while_own O4 (fun i B' own' m' => (∃ u, m' "last" = some (.int i u)) ∧ m' "cells" = some (.ref ca) ∧ trimN ls[row].cells i = trimN ls[row].cells ls[row].cells.length ∧ i ≤ ls[row].cells.length) _ ⟨⟨_, rfl⟩, rfl, rfl, Nat.le_refl _⟩ fun i B5 own5 m5 h5 t5 inv le5 O5 => ?_
    obtain ⟨⟨u, i1⟩, i2, i3, i4⟩ := inv
    refine wpAny_isTrue_BoolOp ?_
    refine wpAny_allTrue_And_cons ?_
    refine wpAny_isTrue_Compare1 ?_
    refine r_local (by assumption) (by assumption) ?_
    refine r_int ?_; intro _ _
    refine PySem.P.gt_int ?_
    refine wpAny_truthy_bool ?_
    refine PyProof.Rows.split_dec (fun h0 => ?_) (fun h0 => ?_)
    · obtain ⟨i, rfl⟩ : ∃ i', i = i' + 1 := ⟨i - 1, by (first | lia | omega)⟩
      have ho : i < ls[row].cells.length := by (first | lia | omega)
      refine wpAny_allTrue_And_cons ?_
      refine wpAny_isTrue_value ?_
      refine Call_ ?_
      refine r_global (by assumption) (by assumption) (by assumption) (by exact OkV.g_isblank (by assumption)) ?_
      refine r_callF (by assumption) (by assumption) (by assumption) (by exact OkV.f_isblank (by assumption)) ?_
      refine wpAny_items_cons ?_
      refine Subscript_ ?_
      refine r_local (by assumption) (by assumption) ?_
      refine wpAny_BinOp ?_
      refine r_local (by assumption) (by assumption) ?_
      refine r_int ?_; intro _ _
      refine r_sub ?_; intro _ _
      obtain ⟨cv, ecv, hcv⟩ := hcs3.2 i _ (List.getElem?_eq_getElem ho)
      refine r_lstItem (O5.lst (le5 _ _ ec3)) (v := cv) (by (first | lia | omega)) (by (first | lia | omega)) (by rw [← ecv]; congr 1; (first | lia | omega)) ?_
      refine wpAny_items_nil ?_
      refine r_inK (by assumption) (by assumption) (by assumption) ?_
      refine c_is_blank W Z (Le.trans hH O5.g.sub) O5.g.keep (rd.less (by decide)) (hcv.mono le5) fun B6 h6 t6 G6 => ?_
      have O6 := O5.call G6
      have le6 := G6.sub
      have tr : trimN ls[row].cells (i + 1) = if blankC ls[row].cells[i] then trimN ls[row].cells i else i + 1 := by
        show (if (ls[row].cells[i]?).map blankC = some true then _ else _) = _
        rw [List.getElem?_eq_getElem ho]
        simp
      refine wpAny_truthy_bool ?_
      refine PyProof.Rows.split_bool (fun hb => ?_) (fun hb => ?_)
      · rw [hb] at tr
        refine wpAny_allTrue_And_nil ?_
        refine iteT ?_
        refine wpAny_execs_cons ?_
        refine r_aug (by assumption) (by assumption) ?_
        refine r_int ?_; intro _ _
        refine r_isub ?_; intro _ _
        rw [show ((i + 1 : Nat) : Int) - 1 = (i : Int) by (first | lia | omega)]
        refine r_store O6 fun h7 t7 O7 => ?_
        refine wpAny_execs_nil ?_
        refine ⟨i, _, _, _, _, _, Nat.lt_succ_self _, rfl, O7, Le.trans le5 le6, ⟨_, rfl⟩, i2, ?_, by (first | lia | omega)⟩
        rw [← i3, tr]; rfl
      · rw [hb] at tr
        refine iteF ?_
        refine wpAny_execs_nil ?_
        refine wpAny_execs_cons ?_
        refine wpAny_Return_some ?_
        refine r_local (by assumption) (by assumption) ?_
        rw [← i3, tr, if_neg Bool.false_ne_true] at k
        exact k _ _ _ _ O6.g
    · refine iteF ?_
      refine wpAny_execs_nil ?_
      refine wpAny_execs_cons ?_
      refine wpAny_Return_some ?_
      refine r_local (by assumption) (by assumption) ?_
      obtain rfl : i = 0 := by (first | lia | omega)
      rw [← i3] at k
      exact k _ _ _ _ O5.g
end
end

section
open PySem PySem.W PySem.Calls PyProof.Rows PySem.SeqAt

theorem rs1 (i : Nat) : Builtin.Range.rangeSize 0 i 1 = i := by
  unfold Builtin.Range.rangeSize
  rw [if_pos (by decide)]
  split
  · simp
  · (first | lia | omega)
theorem rs2 (i : Nat) (hi : i < 2 ^ 60) : Builtin.Range.small 0 i 1 = true := by
  unfold Builtin.Range.small Builtin.Range.rangeFitsLong
  rw [rs1, if_pos (by decide)]
  simp only [Bool.and_eq_true, Bool.or_eq_true, decide_eq_true_eq]
  refine ⟨⟨⟨⟨by decide, ?_⟩, by decide⟩, ?_⟩, .inr ?_⟩ <;> constructor <;> (first | lia | omega)

/-- an iterator that hands out n items, apart from the frame's own -/
def Sourced (prog : Program) (w : World) (A : Around) (I : Addr) (h₀ : Heap) (L : Addr) (B : Sto) (own : Own) (h : Heap) (n : Nat) (P : Nat → Value → Prop) : Prop :=
  ∃ fp wr St, Walks prog w A I fp wr n P St ∧ (∀ i h, St i h → ∀ b ∈ wr, ∃ o, h.get? b = some o) ∧ St 0 h ∧ Apart fp L own h ∧ (∀ b ∈ wr, B b = none) ∧ ∀ b ∈ wr, h₀.get? b = none
/-- the same, each item a tuple that is taken apart -/
def SourcedT (prog : Program) (w : World) (A : Around) (I : Addr) (h₀ : Heap) (L : Addr) (B : Sto) (own : Own) (h : Heap) (n : Nat) (P : Nat → Array Value → Prop) : Prop :=
  ∃ fp wr St Mid, WalksU prog w A I fp wr n P St Mid ∧ (∀ i h, St i h → ∀ b ∈ wr, ∃ o, h.get? b = some o) ∧ St 0 h ∧ Apart fp L own h ∧ (∀ b ∈ wr, B b = none) ∧ ∀ b ∈ wr, h₀.get? b = none

theorem walks_imp {prog : Program} {w : World} {A : Around} {I : Addr} {fp wr : List Addr} {n : Nat} {P P' : Nat → Value → Prop} {St : Nat → Heap → Prop} (W : Walks prog w A I fp wr n P St) (hi : ∀ i v, P i v → P' i v) : Walks prog w A I fp wr n P' St where
  sub := W.sub
  frame := W.frame
  item := fun i s Q E hj st hQ => W.item i s Q E hj st fun v h' tk hP => hQ v h' tk (hi _ _ hP)
  done := W.done
  self := W.self
theorem walksU_imp {prog : Program} {w : World} {A : Around} {I : Addr} {fp wr : List Addr} {n : Nat} {P P' : Nat → Array Value → Prop} {St : Nat → Heap → Prop} {Mid : Nat → Addr → Heap → Prop} (W : WalksU prog w A I fp wr n P St Mid) (hi : ∀ i v, P i v → P' i v) : WalksU prog w A I fp wr n P' St Mid where
  sub := W.sub
  frame := W.frame
  item := fun i s Q E hj st hQ => W.item i s Q E hj st fun T v h' tk hP => hQ T v h' tk (hi _ _ hP)
  go := W.go
  apart := W.apart
  done := W.done
  self := W.self
section
variable {prog : Program} {w : World} {A : Around} {R : Result → Shared → Prop} {env : Env} {E : Value → Shared → Prop} {Q : Value → Shared → Prop}
variable {h₀ h h' : Heap} {B₀ B B' : Sto} {M₀ : List Addr} {L I a l C D : Addr} {own own' : Own} {m m' mc : Str → Option Value} {o o' oL oC : Obj}
variable {g : Array GenState} {d : Drawn} {t : Nat} {os : OsState} {n : Nat} {P : Nat → Value → Prop} {PT : Nat → Array Value → Prop}

theorem r_range {i : Nat} {u : Tok} (hh : A.handled = none) (O : Ow h₀ B₀ M₀ L B own m h) (hi : i < 2 ^ 60)
    (k : ∀ I h' t', Ow h₀ B₀ M₀ L B own m h' → Sourced prog w A I h₀ L B own h' i (fun j v => ∃ u, v = .int j u) → Q (.ref I) ⟨h', g, d, t', os⟩) :
    wpAny (model prog w) A (call (.type "range") [.int i u]) (fun x s₁ => wpAny (model prog w) A (pyIter x) Q E s₁) E ⟨h, g, d, t, os⟩ := by
  refine call_range_1 (s := ⟨h, g, d, t, os⟩) ?_
  dsimp only
  refine wpAny_pyIter_range (s := ⟨h.push _, g, d, _, os⟩) (Heap.get?_push_size _ rfl) (rs2 i hi) ?_
  rw [rs1]
  have O1 := O.ext (h' := (h.push { cls := .type "range", data := .fields #[.int 0 t, .int i u, .int 1 (t + 1)] }).push { cls := .type "range_iterator", data := .fields #[rawInt 0, rawInt i, rawInt 1] })
    (fun b o e => Heap.get?_push_of_some _ (Heap.get?_push_of_some _ e))
  have s1 : (h.push { cls := .type "range", data := .fields #[.int 0 t, .int i u, .int 1 (t + 1)] }).objs.size = h.objs.size + 1 := Heap.size_push ..
  have fr : ∀ b o, h.get? b = some o → b ≠ (h.push { cls := .type "range", data := .fields #[.int 0 t, .int i u, .int 1 (t + 1)] }).objs.size := fun b o e q => by
    rw [s1] at q
    exact absurd (get_lt e) (Nat.not_lt_of_le (q ▸ Nat.le_succ _))
  refine k _ _ _ O1 ⟨_, _, _, walks_imp (Walks.range hh _ 0 1 i) (fun j v hP => by obtain ⟨t, rfl⟩ := hP; exact ⟨t, by simp⟩), ?_, ?_, ?_, ?_, ?_⟩
  · intro j h st b hb
    rw [List.mem_singleton.mp hb]
    exact ⟨_, st⟩
  · show IsRangeIter _ _ _ _ _
    rw [Int.natCast_zero, Int.zero_mul, Int.add_zero, Int.sub_zero]
    exact Heap.get?_push_size _ rfl
  · intro b hb
    rw [List.mem_singleton.mp hb]
    refine ⟨?_, fun p hp e => fr _ _ (O.mn p hp).1 e, _, Heap.get?_push_size _ rfl⟩
    rw [s1]
    exact Nat.ne_of_gt (Nat.lt_succ_of_lt O.ltL)
  · intro b hb
    rw [List.mem_singleton.mp hb]
    cases q : B _ with
    | none => rfl
    | some x => exact absurd rfl (fr _ _ (O.g.keep _ _ q))
  · intro b hb
    rw [List.mem_singleton.mp hb]
    cases q : h₀.get? _ with
    | none => rfl
    | some x => obtain ⟨o', e'⟩ := O.g.live _ _ q; exact absurd rfl (fr _ _ e')

theorem r_iterList {vs : List Value} {q : Nat} (hh : A.handled = none) (O : Ow h₀ B₀ M₀ L B own m h) (e : B a = some (lstO vs q))
    (k : ∀ I h' t', Ow h₀ B₀ M₀ L B own m h' → Sourced prog w A I h₀ L B own h' vs.length (fun j v => vs[j]? = some v) → Q (.ref I) ⟨h', g, d, t', os⟩) :
    wpAny (model prog w) A (pyIter (.ref a)) Q E ⟨h, g, d, t, os⟩ := by
  have hl : h.IsList a vs.toArray := O.lst e
  have ha := O.g.keep _ _ e
  refine wpAny_pyIter_list (s := ⟨h, g, d, t, os⟩) hl ?_
  dsimp only
  have O1 := O.ext (h' := h.push { cls := .type "list_iterator", data := .fields #[.ref a, .int 0 0] }) (fun b o e => Heap.get?_push_of_some _ e)
  have hne : a ≠ h.objs.size := Nat.ne_of_lt (get_lt ha)
  refine k _ _ _ O1 ⟨_, _, _, walks_imp (Walks.list hh h.objs.size a hne vs.toArray) (fun j v hP => by simpa using hP), ?_, ⟨⟨_, Heap.get?_push_size _ rfl, rfl, rfl⟩, hl.push _⟩, ?_, ?_, ?_⟩
  · intro j h st b hb
    rw [List.mem_singleton.mp hb]
    obtain ⟨o, x, _⟩ := st.1
    exact ⟨o, x⟩
  · intro b hb
    rcases List.mem_cons.mp hb with rfl | hb
    · exact ⟨Nat.ne_of_gt O.ltL, fun p hp => Nat.ne_of_lt (get_lt (O.mn p hp).1), _, Heap.get?_push_size _ rfl⟩
    · rw [List.mem_singleton.mp hb]
      refine ⟨fun q => ?_, fun p hp q => ?_, _, Heap.get?_push_of_some _ ha⟩
      · rw [q, O.offL] at e; cases e
      · have := (O.mn p hp).2.2.1
        rw [q, e] at this; cases this
  · intro b hb
    rw [List.mem_singleton.mp hb]
    exact O.B_size
  · intro b hb
    rw [List.mem_singleton.mp hb]
    exact O.g.fresh

theorem r_iterTup {vs : List Value} (hh : A.handled = none) (O : Ow h₀ B₀ M₀ L B own m h) (e : B a = some (tupO vs))
    (k : ∀ I h' t', Ow h₀ B₀ M₀ L B own m h' → Sourced prog w A I h₀ L B own h' vs.length (fun j v => vs[j]? = some v) → Q (.ref I) ⟨h', g, d, t', os⟩) :
    wpAny (model prog w) A (pyIter (.ref a)) Q E ⟨h, g, d, t, os⟩ := by
  have hl : h.IsTuple a vs.toArray := O.tupl e
  have ha := O.g.keep _ _ e
  refine wpAny_pyIter_tuple (s := ⟨h, g, d, t, os⟩) hl ?_
  dsimp only
  have O1 := O.ext (h' := h.push { cls := .type "tuple_iterator", data := .fields #[.ref a, .int 0 0] }) (fun b o e => Heap.get?_push_of_some _ e)
  have hne : a ≠ h.objs.size := Nat.ne_of_lt (get_lt ha)
  refine k _ _ _ O1 ⟨_, _, _, walks_imp (Walks.tuple hh h.objs.size a hne vs.toArray) (fun j v hP => by simpa using hP), ?_, ⟨⟨_, Heap.get?_push_size _ rfl, rfl, rfl⟩, hl.at fun o e => Heap.get?_push_of_some _ e⟩, ?_, ?_, ?_⟩
  · intro j h st b hb
    rw [List.mem_singleton.mp hb]
    obtain ⟨o, x, _⟩ := st.1
    exact ⟨o, x⟩
  · intro b hb
    rcases List.mem_cons.mp hb with rfl | hb
    · exact ⟨Nat.ne_of_gt O.ltL, fun p hp => Nat.ne_of_lt (get_lt (O.mn p hp).1), _, Heap.get?_push_size _ rfl⟩
    · rw [List.mem_singleton.mp hb]
      refine ⟨fun q => ?_, fun p hp q => ?_, _, Heap.get?_push_of_some _ ha⟩
      · rw [q, O.offL] at e; cases e
      · have := (O.mn p hp).2.2.1
        rw [q, e] at this; cases this
  · intro b hb
    rw [List.mem_singleton.mp hb]
    exact O.B_size
  · intro b hb
    rw [List.mem_singleton.mp hb]
    exact O.g.fresh

/-- a list of pairs -/
theorem r_iterPairs {vs : List Value} {q : Nat} {xs : Nat → List Value} (hh : A.handled = none) (O : Ow h₀ B₀ M₀ L B own m h) (e : B a = some (lstO vs q)) (ht : ∀ i v, vs[i]? = some v → ∃ T, v = .ref T ∧ B T = some (tupO (xs i)))
    (k : ∀ I h' t', Ow h₀ B₀ M₀ L B own m h' → SourcedT prog w A I h₀ L B own h' vs.length (fun j v => v = (xs j).toArray) → Q (.ref I) ⟨h', g, d, t', os⟩) :
    wpAny (model prog w) A (pyIter (.ref a)) Q E ⟨h, g, d, t, os⟩ := by
  have hl : h.IsList a vs.toArray := O.lst e
  have ha := O.g.keep _ _ e
  refine wpAny_pyIter_list (s := ⟨h, g, d, t, os⟩) hl ?_
  dsimp only
  have O1 := O.ext (h' := h.push { cls := .type "list_iterator", data := .fields #[.ref a, .int 0 0] }) (fun b o e => Heap.get?_push_of_some _ e)
  have hne : a ≠ h.objs.size := Nat.ne_of_lt (get_lt ha)
  let Ts : Nat → Addr := fun i => match vs[i]? with | some (.ref T) => T | _ => 0
  have hT : ∀ j, j < vs.length → vs[j]? = some (.ref (Ts j)) ∧ B (Ts j) = some (tupO (xs j)) := fun j hj => by
    obtain ⟨T, e1, e2⟩ := ht j _ (List.getElem?_eq_getElem hj)
    have e3 : Ts j = T := by
      show (match vs[j]? with | some (.ref T) => T | _ => 0) = T
      rw [List.getElem?_eq_getElem hj, e1]
    rw [e3]
    exact ⟨by rw [List.getElem?_eq_getElem hj, e1], e2⟩
  have known : ∀ b x, B b = some x → b ≠ L ∧ (∀ p ∈ own, p.1 ≠ b) ∧ ∃ o, (h.push { cls := .type "list_iterator", data := .fields #[.ref a, .int 0 0] }).get? b = some o := fun b x e => by
    refine ⟨fun q => ?_, fun p hp q => ?_, _, Heap.get?_push_of_some _ (O.g.keep _ _ e)⟩
    · rw [q, O.offL] at e; cases e
    · have := (O.mn p hp).2.2.1
      rw [q, e] at this; cases this
  refine k _ _ _ O1 ⟨_, _, _, _, WalksU.listOfTuples hh h.objs.size a hne vs.toArray Ts (fun j => (xs j).toArray) (fun j hj => by simpa using (hT j (by simpa using hj)).1) (fun j hj => Nat.ne_of_lt (get_lt (O.g.keep _ _ (hT j (by simpa using hj)).2))), ?_, ⟨⟨_, Heap.get?_push_size _ rfl, rfl, rfl⟩, hl.push _, fun j hj => (O.tupl (hT j hj).2).at fun o e => Heap.get?_push_of_some _ e⟩, ?_, ?_, ?_⟩
  · intro j h st b hb
    rw [List.mem_singleton.mp hb]
    obtain ⟨o, x, _⟩ := st.1
    exact ⟨o, x⟩
  · intro b hb
    rcases List.mem_cons.mp hb with rfl | hb
    · exact ⟨Nat.ne_of_gt O.ltL, fun p hp => Nat.ne_of_lt (get_lt (O.mn p hp).1), _, Heap.get?_push_size _ rfl⟩
    · rcases List.mem_cons.mp hb with rfl | hb
      · exact known _ _ e
      · obtain ⟨j, hj, rfl⟩ := List.mem_map.mp hb
        exact known _ _ (hT j (List.mem_range.mp hj)).2
  · intro b hb
    rw [List.mem_singleton.mp hb]
    exact O.B_size
  · intro b hb
    rw [List.mem_singleton.mp hb]
    exact O.g.fresh

theorem r_enum {vs : List Value} {q : Nat} (hh : A.handled = none) (O : Ow h₀ B₀ M₀ L B own m h) (e : B a = some (lstO vs q))
    (k : ∀ I h' t', Ow h₀ B₀ M₀ L B own m h' → SourcedT prog w A I h₀ L B own h' vs.length (fun j v => ∃ u x, vs[j]? = some x ∧ v = #[.int j u, x]) → Q (.ref I) ⟨h', g, d, t', os⟩) :
    wpAny (model prog w) A (call (.type "enumerate") [.ref a]) (fun x s₁ => wpAny (model prog w) A (pyIter x) Q E s₁) E ⟨h, g, d, t, os⟩ := by
  have ha := O.g.keep _ _ e
  have hlt := get_lt ha
  refine call_enumerate_1 (s := ⟨h, g, d, t, os⟩) (items := vs.toArray) ha fun h' he hit hs up => ?_
  dsimp only at he hit hs up ⊢
  refine wpAny_pyIter_enum (s := ⟨h', g, d, t, os⟩) he ?_
  have O1 := O.ext up
  have known : ∀ b x, B b = some x → b ≠ L ∧ (∀ p ∈ own, p.1 ≠ b) ∧ ∃ o, h'.get? b = some o := fun b x e => by
    refine ⟨fun q => ?_, fun p hp q => ?_, _, up _ _ (O.g.keep _ _ e)⟩
    · rw [q, O.offL] at e; cases e
    · have := (O.mn p hp).2.2.1
      rw [q, e] at this; cases this
  have noB : ∀ b, h.objs.size ≤ b → B b = none ∧ h₀.get? b = none := fun b hb => by
    constructor
    · cases q : B b with
      | none => rfl
      | some x => exact absurd (get_lt (O.g.keep _ _ q)) (Nat.not_lt_of_le hb)
    · cases q : h₀.get? b with
      | none => rfl
      | some x => obtain ⟨o', e'⟩ := O.g.live _ _ q; exact absurd (get_lt e') (Nat.not_lt_of_le hb)
  refine k _ _ _ O1 ⟨_, _, _, _, walksU_imp (WalksT.enumerate hh (h.objs.size + 1) h.objs.size a (Nat.ne_of_gt (Nat.lt_succ_self _)) (Nat.ne_of_lt (Nat.lt_succ_of_lt hlt)) (Nat.ne_of_lt hlt) vs.toArray).toU (fun j v hP => by simpa using hP), ?_, ⟨⟨_, by simpa using he⟩, hit, ⟨_, up _ _ ha, rfl, _, rfl⟩⟩, ?_, ?_, ?_⟩
  · intro j h st b hb
    obtain ⟨⟨old, s1⟩, ⟨o2, s2, _⟩, s3⟩ := st
    rcases List.mem_cons.mp hb with rfl | hb
    · exact ⟨_, s1⟩
    · rw [List.mem_singleton.mp hb]; exact ⟨_, s2⟩
  · intro b hb
    have new : ∀ b, h.objs.size ≤ b → b ≠ L ∧ ∀ p ∈ own, p.1 ≠ b := fun b hb => ⟨fun q => Nat.not_lt_of_le hb (q ▸ O.ltL), fun p hp q => Nat.not_lt_of_le hb (q ▸ get_lt (O.mn p hp).1)⟩
    rcases List.mem_cons.mp hb with rfl | hb
    · exact ⟨(new _ (Nat.le_succ _)).1, (new _ (Nat.le_succ _)).2, _, he⟩
    · rcases List.mem_cons.mp hb with rfl | hb
      · obtain ⟨o2, s2, _⟩ := hit
        exact ⟨(new _ (Nat.le_refl _)).1, (new _ (Nat.le_refl _)).2, _, s2⟩
      · rw [List.mem_singleton.mp hb]
        exact known _ _ e
  · intro b hb
    rcases List.mem_cons.mp hb with rfl | hb
    · exact (noB _ (Nat.le_succ _)).1
    · rw [List.mem_singleton.mp hb]; exact (noB _ (Nat.le_refl _)).1
  · intro b hb
    rcases List.mem_cons.mp hb with rfl | hb
    · exact (noB _ (Nat.le_succ _)).2
    · rw [List.mem_singleton.mp hb]; exact (noB _ (Nat.le_refl _)).2
end
end

section
open PySem PySem.W PySem.Calls PyProof.Rows PySem.SeqAt

section
variable {prog : Program} {w : World} {M : Model} {A : Around} {R : Result → Shared → Prop} {env : Env} {E : Value → Shared → Prop} {Q : Value → Shared → Prop}
variable {h₀ h h' : Heap} {B₀ B B' : Sto} {M₀ : List Addr} {L I a l C D : Addr} {own own' : Own} {m m' mc : Str → Option Value} {o o' oL oC : Obj}
variable {g : Array GenState} {d : Drawn} {t : Nat} {os : OsState} {n : Nat} {P : Nat → Value → Prop} {PT : Nat → Array Value → Prop} {P2 : Nat → Value → Value → Prop}

theorem for_name {x : Str} {px : Pos} {body : List Stmt} (S : Sourced prog w A I h₀ env.locals B own h n P) (O : Ow h₀ B₀ M₀ env.locals B own m h) (Inv : Nat → Sto → Own → (Str → Option Value) → Prop) (h0 : Inv 0 B own m)
    (turn : ∀ i v B' own' m' h' t' E', i < n → P i v → Inv i B' own' m' → Le B B' → Ow h₀ B₀ M₀ env.locals B' own' m' h' → Ow h' B' (env.locals :: own'.map (·.1)) env.locals B' own' m' h' →
      wpAny (model prog w) A (storeName env x v) (fun _ s₂ => wpAny (model prog w) A (execs body env) (fun f s₃ => match f with
        | .next | .cont => TurnEnd h' B' own' env.locals g d os (Inv (i + 1)) s₃
        | .brk => R (.ok .next) s₃
        | .ret v => R (.ok (.ret v)) s₃) E' s₂) E' ⟨h', g, d, t', os⟩)
    (done : ∀ B' own' m' h' t', Inv n B' own' m' → Le B B' → Ow h₀ B₀ M₀ env.locals B' own' m' h' → R (.ok .next) ⟨h', g, d, t', os⟩) :
    codeAny (model prog w) A (.forLoop (.Name x px) (.ref I) body [] env) R ⟨h, g, d, t, os⟩ := by
  obtain ⟨fp, wr, St, W, live, st, ap, hB, h0'⟩ := S
  exact for_walk W live st O ap hB h0' Inv h0 (fun i v B' own' m' h' t' hi hP inv le O' N => assign_Name (turn i v B' own' m' h' t' _ hi hP inv le O' N)) done

theorem for_pair {x y : Str} {px py tpos : Pos} {tk : Nat} {body : List Stmt} (hh : A.handled = none) (S : SourcedT prog w A I h₀ env.locals B own h n PT) (h2 : ∀ i vals, PT i vals → ∃ v1 v2, vals = #[v1, v2] ∧ P2 i v1 v2)
    (O : Ow h₀ B₀ M₀ env.locals B own m h) (Inv : Nat → Sto → Own → (Str → Option Value) → Prop) (h0 : Inv 0 B own m)
    (turn : ∀ i v1 v2 B' own' m' h' t' E', i < n → P2 i v1 v2 → Inv i B' own' m' → Le B B' → Ow h₀ B₀ M₀ env.locals B' own' m' h' → Ow h' B' (env.locals :: own'.map (·.1)) env.locals B' own' m' h' →
      wpAny (model prog w) A (storeName env x v1) (fun _ s₁ => wpAny (model prog w) A (storeName env y v2) (fun _ s₂ => wpAny (model prog w) A (execs body env) (fun f s₃ => match f with
        | .next | .cont => TurnEnd h' B' own' env.locals g d os (Inv (i + 1)) s₃
        | .brk => R (.ok .next) s₃
        | .ret v => R (.ok (.ret v)) s₃) E' s₂) E' s₁) E' ⟨h', g, d, t', os⟩)
    (done : ∀ B' own' m' h' t', Inv n B' own' m' → Le B B' → Ow h₀ B₀ M₀ env.locals B' own' m' h' → R (.ok .next) ⟨h', g, d, t', os⟩) :
    codeAny (model prog w) A (.forLoop (.Tuple [.Name x px, .Name y py] tk tpos) (.ref I) body [] env) R ⟨h, g, d, t, os⟩ := by
  obtain ⟨fp, wr, St, Mid, W, live, st, ap, hB, h0'⟩ := S
  refine for_walkT hh W live st O ap hB h0' Inv h0 rfl (fun i vals hP => ?_) (fun i vals B' own' m' h' t' hi hP inv le O' N => ?_) done
  · obtain ⟨v1, v2, rfl, _⟩ := h2 i vals hP; rfl
  · obtain ⟨v1, v2, rfl, hp⟩ := h2 i vals hP
    show wpAny _ A (assignInOrder [assign (.Name x px) env, assign (.Name y py) env] [v1, v2]) _ _ _
    exact assignInOrder_cons (assign_Name (wpAny_mono (turn i v1 v2 B' own' m' h' t' _ hi hp inv le O' N) (fun _ s₁ y => assignInOrder_cons (assign_Name (wpAny_mono y (fun _ s₂ z => assignInOrder_nil z) fun _ _ e => e))) fun _ _ e => e))

/-- the rest of a comprehension once its iterator stands -/
abbrev CompRest (M : Model) (A : Around) (E : Value → Shared → Prop) (use : Option (Value → Sem Unit)) (Q : Value → Shared → Prop) (e : Expr) (scope : Scope) (cl : List (Str × Addr)) (env : Env) (it : Value) (s₂ : Shared) : Prop :=
  wpAny M A (newList []) (fun acc s₃ => wpAny M A (newFunctionEnv scope env.globals cl [] env.qual none .none (some env)) (fun cenv s₄ =>
    codeAny M A (.compStart e 0 it acc { cenv with scope := relabel scope env }) (compPost M A E use Q acc cenv.locals) s₄) E s₃) E s₂

theorem r_comp {elt target iter : Expr} {ifs : List Expr} {scope : Scope} {cl : List (Str × Addr)} {pos : Pos} {s : Shared}
    (h : wpAny M A (eval iter env) (fun x s₁ => wpAny M A (pyIter x) (fun it s₂ => CompRest M A E none Q (.ListComp elt [⟨target, iter, ifs, 0⟩] scope pos) scope cl env it s₂) E s₁) E s)
    (hclos : closureFor scope env = pure cl := by rfl) (hkind : scope.kind = .function := by rfl) (hnames : ∀ x ∈ scope.names, x.2 = .local → scope.names.lookup x.1 = some .local := by decide)
    (hs : ∀ x, foldedSetIterable iter env x = pure x := by intro _; rfl) :
    wpAny M A (eval (.ListComp elt [⟨target, iter, ifs, 0⟩] scope pos) env) Q E s := by
  rw [eval_ListComp]
  exact wpAny_comprehension_free (use := none) rfl hs hclos hkind hnames h

theorem r_compTo {elt target iter : Expr} {ifs : List Expr} {scope : Scope} {cl : List (Str × Addr)} {y : Str} {py pos spos : Pos} {s : Shared} {QF : Flow → Shared → Prop}
    (h : wpAny M A (eval iter env) (fun x s₁ => wpAny M A (pyIter x) (fun it s₂ => CompRest M A E (some (assign (.Name y py) env)) (fun _ s' => QF .next s') (.ListComp elt [⟨target, iter, ifs, 0⟩] scope pos) scope cl env it s₂) E s₁) E s)
    (hsw : swapsWith (.ListComp elt [⟨target, iter, ifs, 0⟩] scope pos) (some (.Name y py)) spos.line env = pure true := by rfl)
    (hclos : closureFor scope env = pure cl := by rfl) (hkind : scope.kind = .function := by rfl) (hnames : ∀ x ∈ scope.names, x.2 = .local → scope.names.lookup x.1 = some .local := by decide)
    (hs : ∀ x, foldedSetIterable iter env x = pure x := by intro _; rfl) :
    wpAny M A (exec (.Assign [.Name y py] (.ListComp elt [⟨target, iter, ifs, 0⟩] scope pos) spos) env) QF E s := by
  rw [exec_Assign_Name_used _ _ _ _ hsw]
  refine wpAny_bind (wpAny_standAt (wpAny_bind ?_))
  show wpAny _ A (do let _ ← comprehension (.ListComp elt [⟨target, iter, ifs, 0⟩] scope pos) scope env _ (newList []) false (eval iter env) (some (assign (.Name y py) env))) _ _ s
  exact wpAny_bind (wpAny_mono (wpAny_comprehension_free (use := some (assign (.Name y py) env)) (Q := fun _ s' => QF .next s') rfl hs hclos hkind hnames h) (fun _ s' hq => wpAny_pure (wpAny_pure hq)) fun _ _ e => e)

theorem Apart.into {fp : List Addr} (x : Apart fp L own h) (up : ∀ b o, h.get? b = some o → h'.get? b = some o) (hD : h.objs.size ≤ D) (hC : h.objs.size ≤ C) : Apart fp C ((L, oL) :: (D, o) :: own) h' := fun b hb => by
  obtain ⟨a1, a2, o2, a3⟩ := x b hb
  have lt := get_lt a3
  refine ⟨Nat.ne_of_lt (Nat.lt_of_lt_of_le lt hC), fun p hp => ?_, o2, up _ _ a3⟩
  rcases List.mem_cons.mp hp with rfl | hp
  · exact Ne.symm a1
  · rcases List.mem_cons.mp hp with rfl | hp
    · exact Nat.ne_of_gt (Nat.lt_of_lt_of_le lt hD)
    · exact a2 p hp

/-- how a turn of a comprehension ends -/
def CompEnd (h₁ : Heap) (B₁ : Sto) (own₁ : Own) (C L D : Addr) (oL oD : Obj) (g : Array GenState) (d : Drawn) (os : OsState) (Inv : Sto → Own → Prop) (s : Shared) : Prop :=
  ∃ B own m h t, s = ⟨h, g, d, t, os⟩ ∧ Ow h₁ B₁ (C :: L :: D :: own₁.map (·.1)) C B ((L, oL) :: (D, oD) :: own) m h ∧ Inv B own

/-- what is done with the list of a comprehension -/
def UseEnd (env : Env) (m : Str → Option Value) (g : Array GenState) (d : Drawn) (os : OsState) (Q : Value → Shared → Prop) (v : Value) (Ok : (Str → Option Value) → Heap → Prop) : Option (Value → Sem Unit) → Prop
  | none => ∀ h' t', Ok m h' → Q v ⟨h', g, d, t', os⟩
  | some u => ∃ y py, u = assign (.Name y py) env ∧ env.kindOf y = some .local ∧ (env.scope.kind == .class || (env.scope.kind == .module && env.locals != env.globals)) = false ∧ ∀ h' t', Ok (upd m y v) h' → Q .none ⟨h', g, d, t', os⟩

theorem comp_post {use : Option (Value → Sem Unit)} {Q : Value → Shared → Prop} {xs : List Value} {q : Nat} (O : Ow h₀ B₀ M₀ C B ((L, oL) :: (D, lstO xs q) :: own) mc h) (hL : HasNs oL m) (h0 : h₀.get? C = none) (hLe : env.locals = L)
    (done : UseEnd env m g d os Q (.ref D) (fun m' h' => Ow h₀ B₀ M₀ L B ((D, lstO xs q) :: own) m' h') use) :
    compPost (model prog w) A E use Q (.ref D) C (.ok .next) ⟨h, g, d, t, os⟩ := by
  obtain ⟨oC, nC, O2⟩ := O.swap hL
  cases use with
  | none => exact ⟨mc, nC.ns (O2.mn _ (.head _)).1, fun h' hs => done h' t (O2.gone h0 hs)⟩
  | some u =>
    obtain ⟨y, py, rfl, hy, hp, done⟩ := done
    subst hLe
    exact assign_Name (wpAny_storeName_local hy O2.ns (fun h2 hn2 hs2 => by
      have O3 := O2.same (m' := upd m y (.ref D)) hn2 hs2
      exact ⟨mc, nC.ns (O3.mn _ (.head _)).1, fun h' hs => done h' _ (O3.gone h0 hs)⟩) hp)

theorem comp_name {elt iter : Expr} {x : Str} {px pos : Pos} {scope : Scope} {cl : List (Str × Addr)} {use : Option (Value → Sem Unit)} {Q : Value → Shared → Prop} (S : Sourced prog w A I h₀ L B own h n P) (O : Ow h₀ B₀ M₀ L B own m h) (hLe : env.locals = L)
    (Inv : Nat → List Value → Sto → Own → Prop) (h0 : Inv 0 [] B own)
    (turn : ∀ i v xs B' own' C D oL q mc h' h1 t' E', i < n → P i v → xs.length = i → Inv i xs B' own' → Le B B' → HasNs oL m → (∀ b o, B' b = some o → h'.get? b = some o) → Ow h' B' (C :: L :: D :: own'.map (·.1)) C B' ((L, oL) :: (D, lstO xs q) :: own') (upd mc x v) h1 →
      wpAny (model prog w) A (eval elt (compEnvC scope cl C env)) (fun r s₃ => CompEnd h' B' own' C L D oL (lstO xs q) g d os (Inv (i + 1) (xs ++ [r])) s₃) E' ⟨h1, g, d, t', os⟩)
    (done : ∀ xs B' own' D q, xs.length = n → Inv n xs B' own' → Le B B' → UseEnd env m g d os Q (.ref D) (fun m' h' => Ow h₀ B₀ M₀ L B' ((D, lstO xs q) :: own') m' h') use)
    (hsz : n ≤ sizeLine) (hx : scope.names.lookup x = some .local := by rfl) (hkind : scope.kind = .function := by rfl) (hcell : ∀ y ∈ scope.names, y.2 ≠ .cell := by decide) (hh : A.handled = none) :
    CompRest (model prog w) A E use Q (.ListComp elt [⟨.Name x px, iter, [], 0⟩] scope pos) scope cl env (.ref I) ⟨h, g, d, t, os⟩ := by
  obtain ⟨fp, wr, St, W, live, st, ap, hB, h0'⟩ := S
  subst hLe
  refine comp_in (RR := fun acc C => compPost (model prog w) A E use Q acc C) O hkind hcell (fun h' t' Q E up q => W.self 0 _ _ _ (W.frame _ _ _ st fun b _ o e => up b o e) q) fun D C oL h1 t1 hC hD nL up leD leC O1 => ?_
  refine comp_loop W live (W.frame _ _ _ st fun b _ o e => up b o e) O1 (ap.into up leD leC) hB h0' (fun i B' own' m' => ∃ xs q ownr, own' = (env.locals, oL) :: (D, lstO xs q) :: ownr ∧ xs.length = i ∧ Inv i xs B' ownr)
    ⟨[], 0, own, rfl, rfl, h0⟩ (fun i v B' own' m' h' t' hi hP inv le O' N => ?_) (fun B' own' m' h' t' inv le O' => ?_)
  · obtain ⟨xs, q, ownr, rfl, hl, inv⟩ := inv
    refine assign_Name (wpAny_storeName_local (lookup_relabel_local hx) N.ns (fun h2 hn2 hs2 => ?_) (by show (scope.kind == .class || (scope.kind == .module && _)) = false; rw [hkind]; rfl))
    have N2 := N.same (m' := upd m' x v) hn2 hs2
    refine wpAny_mono (turn i v xs B' ownr C D oL q m' h' h2 _ _ hi hP hl inv le nL N.g.keep N2) (fun r s₃ y => ?_) fun _ _ e => e
    obtain ⟨B3, own3, m3, h3, t3, rfl, N3, inv3⟩ := y
    refine r_append N3 1 rfl (fun h4 N4 => ?_) (by rw [hl]; exact Nat.le_of_lt (Nat.lt_of_lt_of_le hi hsz))
    exact ⟨_, _, _, _, _, rfl, N4, _, _, _, rfl, by simp [hl], inv3⟩
  · obtain ⟨xs, q, ownr, rfl, hl, inv⟩ := inv
    exact comp_post O' nL hC rfl (done xs B' ownr D q hl inv le)

theorem comp_pair {elt iter c : Expr} {x y : Str} {px py tpos pos : Pos} {tk : Nat} {scope : Scope} {cl : List (Str × Addr)} {use : Option (Value → Sem Unit)} {Q : Value → Shared → Prop} (S : SourcedT prog w A I h₀ L B own h n PT) (h2 : ∀ i vals, PT i vals → ∃ v1 v2, vals = #[v1, v2] ∧ P2 i v1 v2)
    (O : Ow h₀ B₀ M₀ L B own m h) (hLe : env.locals = L)
    (Inv : Nat → List Value → Sto → Own → Prop) (h0 : Inv 0 [] B own)
    (turn : ∀ i v1 v2 xs B' own' C D oL q mc h' h1 t' E', i < n → P2 i v1 v2 → xs.length ≤ i → Inv i xs B' own' → Le B B' → HasNs oL m → (∀ b o, B' b = some o → h'.get? b = some o) → Ow h' B' (C :: L :: D :: own'.map (·.1)) C B' ((L, oL) :: (D, lstO xs q) :: own') (upd (upd mc x v1) y v2) h1 →
      wpAny (model prog w) A (isTrue c (compEnvC scope cl C env) (eval c (compEnvC scope cl C env))) (fun ok s₃ => if ok = true then wpAny (model prog w) A (eval elt (compEnvC scope cl C env)) (fun r s₃ => CompEnd h' B' own' C L D oL (lstO xs q) g d os (Inv (i + 1) (xs ++ [r])) s₃) E' s₃
        else CompEnd h' B' own' C L D oL (lstO xs q) g d os (Inv (i + 1) xs) s₃) E' ⟨h1, g, d, t', os⟩)
    (done : ∀ xs B' own' D q, xs.length ≤ n → Inv n xs B' own' → Le B B' → UseEnd env m g d os Q (.ref D) (fun m' h' => Ow h₀ B₀ M₀ L B' ((D, lstO xs q) :: own') m' h') use)
    (hsz : n ≤ sizeLine) (hh : A.handled = none) (hx : scope.names.lookup x = some .local := by rfl) (hy : scope.names.lookup y = some .local := by rfl) (hkind : scope.kind = .function := by rfl) (hcell : ∀ y ∈ scope.names, y.2 ≠ .cell := by decide) :
    CompRest (model prog w) A E use Q (.ListComp elt [⟨.Tuple [.Name x px, .Name y py] tk tpos, iter, [c], 0⟩] scope pos) scope cl env (.ref I) ⟨h, g, d, t, os⟩ := by
  obtain ⟨fp, wr, St, Mid, W, live, st, ap, hB, h0'⟩ := S
  subst hLe
  refine comp_in (RR := fun acc C => compPost (model prog w) A E use Q acc C) O hkind hcell (fun h' t' Q E up q => W.self 0 _ _ _ (W.frame _ _ _ st fun b _ o e => up b o e) q) fun D C oL h1 t1 hC hD nL up leD leC O1 => ?_
  have hp : ∀ C, ((compEnvC scope cl C env).scope.kind == .class || ((compEnvC scope cl C env).scope.kind == .module && (compEnvC scope cl C env).locals != (compEnvC scope cl C env).globals)) = false := fun C => by
    show (scope.kind == .class || (scope.kind == .module && _)) = false; rw [hkind]; rfl
  refine comp_loopT hh W live (W.frame _ _ _ st fun b _ o e => up b o e) O1 (ap.into up leD leC) hB h0' (fun i B' own' m' => ∃ xs q ownr, own' = (env.locals, oL) :: (D, lstO xs q) :: ownr ∧ xs.length ≤ i ∧ Inv i xs B' ownr)
    ⟨[], 0, own, rfl, Nat.le_refl _, h0⟩ rfl (fun i vals hP => ?_) (fun i vals B' own' m' h' t' hi hP inv le O' N => ?_) (fun B' own' m' h' t' inv le O' => ?_)
  · obtain ⟨v1, v2, rfl, _⟩ := h2 i vals hP; rfl
  · obtain ⟨xs, q, ownr, rfl, hl, inv⟩ := inv
    obtain ⟨v1, v2, rfl, hP2⟩ := h2 i vals hP
    show wpAny _ A (assignInOrder [assign (.Name x px) _, assign (.Name y py) _] [v1, v2]) _ _ _
    refine assignInOrder_cons (assign_Name (wpAny_storeName_local (lookup_relabel_local hx) N.ns (fun h2 hn2 hs2 => ?_) (hp C)))
    have N2 := N.same (m' := upd m' x v1) hn2 hs2
    refine assignInOrder_cons (assign_Name (wpAny_storeName_local (lookup_relabel_local hy) N2.ns (fun h3 hn3 hs3 => ?_) (hp C)))
    have N3 := N2.same (m' := upd (upd m' x v1) y v2) hn3 hs3
    refine assignInOrder_nil ?_
    refine wpAny_mono (turn i v1 v2 xs B' ownr C D oL q m' h' h3 _ _ hi hP2 hl inv le nL N.g.keep N3) (fun ok s₃ z => ?_) fun _ _ e => e
    cases ok with
    | false =>
      obtain ⟨B3, own3, m3, h3, t3, rfl, N3, inv3⟩ := z
      exact ⟨_, _, _, _, _, rfl, N3, _, _, _, rfl, Nat.le_succ_of_le hl, inv3⟩
    | true =>
      refine wpAny_mono z (fun r s₃ y => ?_) fun _ _ e => e
      obtain ⟨B3, own3, m3, h3, t3, rfl, N3, inv3⟩ := y
      refine r_append N3 1 rfl (fun h4 N4 => ?_) (Nat.le_of_lt (Nat.lt_of_le_of_lt hl (Nat.lt_of_lt_of_le hi hsz)))
      exact ⟨_, _, _, _, _, rfl, N4, _, _, _, rfl, by rw [List.length_append]; exact Nat.succ_le_succ hl, inv3⟩
  · obtain ⟨xs, q, ownr, rfl, hl, inv⟩ := inv
    exact comp_post O' nL hC rfl (done xs B' ownr D q hl inv le)

/-- a def with cells is entered -/
def CellsOwn (cm : Str → Option Value) : List (Str × Addr) → Own → Prop
  | [], own => own = []
  | (n, c) :: r, own => ∃ o rest, own = (c, o) :: rest ∧ o.data = .cell (cm n) ∧ CellsOwn cm r rest

theorem cellsOwn_of {cm : Str → Option Value} : ∀ (cs : List (Str × Addr)), (∀ p ∈ cs, h.IsCell p.2 (cm p.1)) → ∃ own, CellsOwn cm cs own ∧ own.map (·.1) = cs.map (·.2) ∧ ∀ p ∈ own, h.get? p.1 = some p.2
  | [], _ => ⟨[], rfl, rfl, by simp⟩
  | (n, c) :: r, x => by
    obtain ⟨o, e, ed⟩ := x (n, c) (.head _)
    obtain ⟨own, h1, h2, h3⟩ := cellsOwn_of r (fun p hp => x p (.tail _ hp))
    refine ⟨(c, o) :: own, ⟨o, own, rfl, ed, h1⟩, by simp [h2], fun p hp => ?_⟩
    rcases List.mem_cons.mp hp with rfl | hp
    · exact e
    · exact h3 p hp

variable {K : Frag} {p : Program} {loose : List Str} {mg mb : Str → Option Value} {H : Heap}
/-- the call's frame where the def has cells -/
abbrev envC (qual : Str) (scope : Scope) (L f : Addr) (cdv : Value) : Env := envOfC qual scope L f cdv
theorem enterC {f : Addr} {qual : Str} {st : Stmt} {args : List Value} {binds : List (Str × Value)}
    (W : Wd K p loose mg mb H) (hH : Le H.get? B) (kp : Kp B h) (hown : ∀ p ∈ own, h.get? p.1 = some p.2 ∧ B p.1 = none) (nd : own.Pairwise fun p q => p.1 ≠ q.1)
    (hf : FnAt K f qual st) (hroom : A.depth < recursionLimit)
    (k : ∀ L h' t' cdv cown, CellsOwn (bindC (envC qual (scpF st) L f cdv).kindOf binds fun _ => none) (cellsFrom (L + 1) (scpF st).names []) cown →
      Ow h B (own.map (·.1)) L B (cown ++ own) (bindL (envC qual (scpF st) L f cdv).kindOf binds fun _ => none) h' →
      wpAny (model prog w) (A.deeper (envC qual (scpF st) L f cdv)) (execs (bodF st) (envC qual (scpF st) L f cdv)) (fun fl s' => Q (match fl with | .ret v => v | _ => .none) s') (fun _ _ => False) ⟨h', g, d, t', os⟩)
    (hbind : ∀ name doc pm an cdv ct, bindArgs (fnOf name qual (prmF st) (bodF st) (scpF st) .none .none doc pm an cdv ct) ⟨args, []⟩ = pure binds := by intros; rfl)
    (hkind : ∀ n, ∀ x ∈ binds, (scpF st).names.lookup x.1 = some .local ∨ ((scpF st).names.lookup x.1 = some .cell ∧ ((cellsFrom (n + 1) (scpF st).names []).lookup x.1).isSome = true))
    (hlk : ∀ n, ∀ p ∈ cellsFrom (n + 1) (scpF st).names [], (cellsFrom (n + 1) (scpF st).names []).lookup p.1 = some p.2)
    (hco : (scpF st).isCoroutine = false := by rfl) (hgen : (scpF st).isGenerator = false := by rfl) (hk : (scpF st).kind = .function := by rfl) :
    wpAny (model prog w) A (call (.ref f) args) Q E ⟨h, g, d, t, os⟩ := by
  obtain ⟨oc, od, osl, name, doc, pm, an, cdv, ct, ho, hcd⟩ := hf
  have top : ∀ b o, H.get? b = some o → h.get? b = some o := fun b o e => kp b o (hH b o e)
  have X : K.In h := fun b o e => top b o (W.X b o e)
  refine wpAny_call (codeAny_call_cells (fd := fnOf name qual (prmF st) (bodF st) (scpF st) .none .none doc pm an cdv ct) (body := bodF st) (binds := binds) hroom (X _ _ ho) rfl (W.T.nolimit.keeps top) (codeRec_of X hcd) rfl (hbind _ _ _ _ _ _) rfl (hkind _) (fun s₁ x => ?_) hco hgen hk)
  obtain ⟨⟨⟨h1, tk, rfl⟩, ns, keep, fresh⟩, cell, apart, above⟩ := x
  dsimp only at ns keep fresh cell
  have nothing : ∀ b, h.objs.size ≤ b → h.get? b = none := fun b hb => by
    cases q : h.get? b with
    | none => rfl
    | some z => exact absurd (get_lt q) (Nat.not_lt_of_le hb)
  have noB : ∀ b, h.objs.size ≤ b → B b = none := fun b hb => by
    cases q : B b with
    | none => rfl
    | some z => have := kp _ _ q; rw [nothing b hb] at this; cases this
  obtain ⟨cown, c1, c2, c3⟩ := cellsOwn_of (h := h1) (cm := bindC (callEnvC (fnOf name qual (prmF st) (bodF st) (scpF st) .none .none doc pm an cdv ct) h.objs.size f).kindOf binds fun _ => none) (cellsFrom (h.objs.size + 1) (scpF st).names []) (fun p hp => cell _ _ (hlk _ p hp))
  have cab : ∀ p ∈ cown, h.objs.size < p.1 := fun p hp => by
    have : p.1 ∈ (cellsFrom (h.objs.size + 1) (scpF st).names []).map (·.2) := c2 ▸ List.mem_map_of_mem hp
    obtain ⟨q, hq, e⟩ := List.mem_map.mp this
    rw [← e]
    exact above q.1 q.2 hq
  refine wpAny_mono (k h.objs.size h1 tk cdv cown c1 ⟨⟨fun b o e => keep b o (kp b o e), fun b o e _ => keep b o e, Le.refl _, fun _ _ e => .inl e, fun b o e => ⟨o, keep b o e⟩⟩, ns, noB _ (Nat.le_refl _), .inr (nothing _ (Nat.le_refl _)), fun p hp => ?_, ?_⟩) (fun _ _ z => z) fun _ _ z => z.elim
  · rcases List.mem_append.mp hp with hp | hp
    · exact ⟨c3 p hp, Nat.ne_of_gt (cab p hp), noB _ (Nat.le_of_lt (cab p hp)), .inr (nothing _ (Nat.le_of_lt (cab p hp)))⟩
    · exact ⟨keep _ _ (hown p hp).1, Nat.ne_of_lt (get_lt (hown p hp).1), (hown p hp).2, .inl (List.mem_map_of_mem hp)⟩
  · rw [List.pairwise_append]
    refine ⟨?_, nd, fun p hp q hq e => ?_⟩
    · have : (cown.map (·.1)).Pairwise (· ≠ ·) := by
        rw [c2]
        exact List.pairwise_map.mpr apart
      exact List.pairwise_map.mp this
    · have := cab p hp
      rw [e] at this
      exact absurd (get_lt (hown q hq).1) (Nat.not_lt_of_le (Nat.le_of_lt this))
end
end

section
open PySem PySem.W PySem.Calls PyProof.Rows PySem.SeqAt

/-- values and what they mean, one by one -/
inductive Each {α : Type} (R : Value → α → Prop) : List Value → List α → Prop
  | nil : Each R [] []
  | cons {v x vs xs} : R v x → Each R vs xs → Each R (v :: vs) (x :: xs)
theorem Each.length {α : Type} {R : Value → α → Prop} {vs : List Value} {xs : List α} (e : Each R vs xs) : vs.length = xs.length := by
  induction e with
  | nil => rfl
  | cons _ _ ih => simp [ih]
theorem Each.mono {α : Type} {R R' : Value → α → Prop} {vs : List Value} {xs : List α} (e : Each R vs xs) (h : ∀ v x, R v x → R' v x) : Each R' vs xs := by
  induction e with
  | nil => exact .nil
  | cons a _ ih => exact .cons (h _ _ a) ih
theorem Each.append {α : Type} {R : Value → α → Prop} {vs ws : List Value} {xs ys : List α} (e : Each R vs xs) (f : Each R ws ys) : Each R (vs ++ ws) (xs ++ ys) := by
  induction e with
  | nil => exact f
  | cons a _ ih => exact .cons a ih
theorem Each.get {α : Type} {R : Value → α → Prop} {vs : List Value} {xs : List α} (e : Each R vs xs) : ∀ (i : Nat) (x : α), xs[i]? = some x → ∃ v, vs[i]? = some v ∧ R v x := by
  induction e with
  | nil => intro i x h; simp at h
  | cons a _ ih =>
    intro i x h
    cases i with
    | zero => simp at h; subst h; exact ⟨_, by simp, a⟩
    | succ i => simp at h; obtain ⟨v, h1, h2⟩ := ih i x h; exact ⟨v, by simpa using h1, h2⟩
theorem Each.take {α : Type} {R : Value → α → Prop} {vs : List Value} {xs : List α} (e : Each R vs xs) : ∀ n, Each R (vs.take n) (xs.take n) := by
  induction e with
  | nil => intro n; simp; exact .nil
  | cons a _ ih => intro n; cases n with
    | zero => exact .nil
    | succ n => exact .cons a (ih n)
theorem Each.drop {α : Type} {R : Value → α → Prop} {vs : List Value} {xs : List α} (e : Each R vs xs) : ∀ n, Each R (vs.drop n) (xs.drop n) := by
  induction e with
  | nil => intro n; simp; exact .nil
  | cons a r ih => intro n; cases n with
    | zero => exact .cons a r
    | succ n => exact ih n
theorem Each.of {α : Type} {R : Value → α → Prop} : ∀ {vs : List Value} {xs : List α}, vs.length = xs.length → (∀ (i : Nat) (x : α), xs[i]? = some x → ∃ v, vs[i]? = some v ∧ R v x) → Each R vs xs
  | [], [], _, _ => .nil
  | [], _ :: _, h, _ => by simp at h
  | _ :: _, [], h, _ => by simp at h
  | v :: vs, x :: xs, h, f => by
    refine .cons ?_ (Each.of (by simpa using h) fun i y hy => ?_)
    · obtain ⟨w, h1, h2⟩ := f 0 x (by simp); simp at h1; subst h1; exact h2
    · obtain ⟨w, h1, h2⟩ := f (i + 1) y (by simpa using hy); exact ⟨w, by simpa using h1, h2⟩

section
variable {prog : Program} {w : World} {M : Model} {A : Around} {E : Value → Shared → Prop} {Q : Value → Shared → Prop} {env : Env}
variable {h₀ h h' : Heap} {B₀ B B' : Sto} {M₀ : List Addr} {L a b l C D : Addr} {own own' : Own} {m m' mc : Str → Option Value} {o o' oL oC : Obj}
variable {g : Array GenState} {d : Drawn} {t : Nat} {os : OsState} {n : Nat} {v : Value} {vs ws : List Value}

theorem r_partNone {s : Shared} (k : Q .none s) : wpAny M A (evalPart none env) Q E s := wpAny_pure k
theorem r_partSome {s : Shared} {e : Expr} (k : wpAny M A (eval e env) Q E s) : wpAny M A (evalPart (some e) env) Q E s := k

/-! list methods -/
theorem r_mAppend {pl : Sem Bool} {QM : Value × List Value → Shared → Prop} {i : Nat} (O : Ow h₀ B₀ M₀ L B own m h) (hm : (a, lstO vs i) ∈ own) (k : QM (.builtin "list.append", [.ref a]) ⟨h, g, d, t, os⟩) :
    wpAny (model prog w) A (getMethod (.ref a) "append" pl) QM E ⟨h, g, d, t, os⟩ := getMethod_list_append (s := ⟨h, g, d, t, os⟩) (O.mn _ hm).1 rfl rfl k
theorem r_mExtend {pl : Sem Bool} {QM : Value × List Value → Shared → Prop} {i : Nat} (O : Ow h₀ B₀ M₀ L B own m h) (hm : (a, lstO vs i) ∈ own) (k : QM (.builtin "list.extend", [.ref a]) ⟨h, g, d, t, os⟩) :
    wpAny (model prog w) A (getMethod (.ref a) "extend" pl) QM E ⟨h, g, d, t, os⟩ := getMethod_list_of (s := ⟨h, g, d, t, os⟩) F.slot_list_extend rfl (O.mlst hm) ⟨_, (O.mn _ hm).1, rfl⟩ k
theorem r_mPop {pl : Sem Bool} {QM : Value × List Value → Shared → Prop} {i : Nat} (O : Ow h₀ B₀ M₀ L B own m h) (hm : (a, lstO vs i) ∈ own) (k : QM (.builtin "list.pop", [.ref a]) ⟨h, g, d, t, os⟩) :
    wpAny (model prog w) A (getMethod (.ref a) "pop" pl) QM E ⟨h, g, d, t, os⟩ := getMethod_list_of (s := ⟨h, g, d, t, os⟩) F.slot_list_pop rfl (O.mlst hm) ⟨_, (O.mn _ hm).1, rfl⟩ k

theorem r_extend (O : Ow h₀ B₀ M₀ L B own m h) {q q2 : Nat} (i : Nat) (hi : own[i]? = some (a, lstO vs q)) (hb : h.get? b = some (lstO ws q2)) (k : ∀ h' q', Ow h₀ B₀ M₀ L B (own.set i (a, lstO (vs ++ ws) q')) m h' → Q .none ⟨h', g, d, t, os⟩)
    (hsz : vs.length + ws.length ≤ sizeLine) : wpAny (model prog w) A (call (.builtin "list.extend") [.ref a, .ref b]) Q E ⟨h, g, d, t, os⟩ := by
  have hl := (O.mn _ (List.mem_of_getElem? hi)).1
  refine call_meets F.slot_list_extend ⟨_, hl, rfl⟩ F.entry_list_extend (F.args_list_extend_2 _ _) (AutoSeq1.list_extend_list_list_0 a vs.toArray q b ws.toArray q2 ?_ ?_ ?_) ⟨hl, hb, ?_⟩
  · intro x
    simp only [Builtin.List.listTooLong, List.size_toArray, Bool.and_eq_true, decide_eq_true_eq] at x
    have := x.2
    (first | lia | omega)
  · simp only [List.size_toArray]; (first | lia | omega)
  · simp only [List.size_toArray]; (first | lia | omega)
  · exact k _ (if (vs.toArray ++ ws.toArray).size == vs.toArray.size then q else q + 1) (O.turn i hi (Heap.SameBut.update ..) ((Heap.get?_update_self _ hl rfl).trans (by simp [Obj.mapSeq])))

theorem r_popAt (O : Ow h₀ B₀ M₀ L B own m h) {q : Nat} {u : Tok} (i : Nat) (hi : own[i]? = some (a, lstO (v :: vs) q)) (k : ∀ h' q', Ow h₀ B₀ M₀ L B (own.set i (a, lstO vs q')) m h' → Q v ⟨h', g, d, t, os⟩)
    (hsz : (v :: vs).length ≤ sizeLine) : wpAny (model prog w) A (call (.builtin "list.pop") [.ref a, .int 0 u]) Q E ⟨h, g, d, t, os⟩ := by
  have hl := (O.mn _ (List.mem_of_getElem? hi)).1
  refine call_meets F.slot_list_pop ⟨_, hl, rfl⟩ F.entry_list_pop (F.args_list_pop_2 _ _) (PySem.MeetsSeq.list_pop_at a (v :: vs).toArray q 0 u 0 v rfl (by simp [seqIndex?]) (by simp) hsz) ⟨hl, ?_⟩
  exact k _ (q + 1) (O.turn i hi (Heap.SameBut.update ..) ((Heap.get?_update_self _ hl rfl).trans (by simp [Obj.mapSeq])))
theorem r_popLast (O : Ow h₀ B₀ M₀ L B own m h) {q : Nat} (i : Nat) (hi : own[i]? = some (a, lstO (vs ++ [v]) q)) (k : ∀ h' q', Ow h₀ B₀ M₀ L B (own.set i (a, lstO vs q')) m h' → Q v ⟨h', g, d, t, os⟩)
    (hsz : (vs ++ [v]).length ≤ sizeLine) : wpAny (model prog w) A (call (.builtin "list.pop") [.ref a]) Q E ⟨h, g, d, t, os⟩ := by
  have hl := (O.mn _ (List.mem_of_getElem? hi)).1
  refine call_meets F.slot_list_pop ⟨_, hl, rfl⟩ F.entry_list_pop (F.args_list_pop_1 _) (PySem.MeetsSeq.list_pop_last a (vs ++ [v]).toArray q v (by simp) hsz) ⟨hl, ?_⟩
  exact k _ (q + 1) (O.turn i hi (Heap.SameBut.update ..) ((Heap.get?_update_self _ hl rfl).trans (by simp [Obj.mapSeq, List.eraseIdx_append_of_length_le])))

/-! slices -/
theorem adjust_upto (a n : Nat) (ha : a ≤ n) : Builtin.Slice.sliceAdjust none (some (a : Int)) 1 (n : Int) = (0, (a : Int)) := by
  unfold Builtin.Slice.sliceAdjust
  have h1 : ¬ ((1 : Int) < 0) := by (first | lia | omega)
  have h2 : ¬ ((a : Int) < 0) := by (first | lia | omega)
  simp only [h1, h2, if_false]
  congr 1
  (first | lia | omega)
theorem places_upto (a : Nat) : Builtin.Slice.slicePlaces 0 (a : Int) 1 = a := by
  unfold Builtin.Slice.slicePlaces
  have h1 : (1 : Int) > 0 := by (first | lia | omega)
  simp only [h1, if_true, Int.ediv_one]
  split <;> (first | lia | omega)
theorem applied_upto {s : Shared} {sl : Addr} {a n : Nat} {u : Tok} {QT : Int × Int × Nat → Shared → Prop} (hs : s.heap.IsSliceOf sl .none (.int a u) .none) (ha : a ≤ n) (k : QT (0, 1, a) s) :
    wpAny (model prog w) A (Builtin.Slice.sliceApplied (.ref sl) (pure (n : Int))) QT E s := by
  obtain ⟨os, hos, hcs, hds⟩ := id hs
  unfold Builtin.Slice.sliceApplied Builtin.Slice.sliceFields
  refine wpAny_bind (wpAny_bind (wpAny_field hos hds (x := .none) rfl (wpAny_bind (wpAny_field hos hds (x := .int a u) rfl (wpAny_bind (wpAny_field hos hds (x := .none) rfl (wpAny_pure ?_)))))))
  refine wpAny_bind (slicePart_none ?_)
  show wpAny _ _ (if ((1 : Int) == 0) = true then _ else _) _ _ s
  rw [if_neg (by decide)]
  refine wpAny_bind (slicePart_none (wpAny_bind (slicePart_int (wpAny_bind (wpAny_pure ?_)))))
  show wpAny _ _ (match Builtin.Slice.sliceAdjust none (some (a : Int)) 1 (n : Int) with | (lo, hi) => pure (lo, (1 : Int), Builtin.Slice.slicePlaces lo hi 1)) _ _ s
  rw [adjust_upto a n ha]
  show wpAny _ _ (pure ((0 : Int), (1 : Int), Builtin.Slice.slicePlaces 0 (a : Int) 1)) _ _ s
  rw [places_upto a]
  exact wpAny_pure k
theorem pick_upto (xs : List Value) (a : Nat) : ((List.range a).filterMap fun (k : Nat) => xs.toArray[((0 : Int) + (k : Int) * 1).toNat]?).toArray = (xs.take a).toArray := by
  have e : (fun (k : Nat) => xs.toArray[((0 : Int) + (k : Int) * 1).toNat]?) = fun k => xs[k]? := by
    funext k
    have : ((0 : Int) + (k : Int) * 1).toNat = k := by (first | lia | omega)
    rw [this]; simp
  rw [e]
  congr 1
  induction a with
  | zero => simp
  | succ a ih => rw [List.range_succ, List.filterMap_append, ih, List.take_add_one]; cases h : xs[a]? <;> simp [h]

theorem r_tupUpto {value slice : Expr} {k : Nat} {u : Tok} (O : Ow h₀ B₀ M₀ L B own m h) (e : B a = some (tupO vs)) (hk : k < vs.length)
    (kk : ∀ c B' h', Ow h₀ B₀ M₀ L B' own m h' → Le B B' → B' c = some (tupO (vs.take k)) → Q (.ref c) ⟨h', g, d, t, os⟩)
    (hs : subscripted slice false (.ref a) (.ref h.objs.size) = operate [.ref h.objs.size, .ref a] (getItem (.ref a) (.ref h.objs.size)) := by with_unfolding_all rfl)
    (hsz : vs.length ≤ sizeLine := by size_fits) :
    wpAny (model prog w) A (subscriptTail value slice (.ref a) (.ref h.objs.size)) Q E ⟨h.push { cls := .type "slice", data := .fields #[.none, .int k u, .none] }, g, d, t, os⟩ := by
  have O1 := O.ext (h' := h.push { cls := .type "slice", data := .fields #[.none, .int k u, .none] }) (fun b o e => Heap.get?_push_of_some _ e)
  have ht := O1.tup e
  have hsl : (h.push { cls := .type "slice", data := .fields #[.none, .int k u, .none] }).IsSliceOf h.objs.size .none (.int k u) .none := Heap.IsSliceOf.new ..
  refine tail_any (s := ⟨_, g, d, t, os⟩) ht.typeIs slot_tuple_getitem.lookup ?_ hs
  obtain ⟨oz, hos, hcs, hds⟩ := id hsl
  have hTs : (Shared.mk (h.push { cls := .type "slice", data := .fields #[.none, .int k u, .none] }) g d t os).TypeIs (.ref h.objs.size) "slice" := ⟨oz, hos, hcs⟩
  have hdrop : sizeOk (.seq (vs.take k).toArray) := by
    show (vs.take k).toArray.size ≤ sizeLine
    rw [List.size_toArray, List.length_take]
    (first | lia | omega)
  unfold getItem
  try with_reducible refine wpAny_holding ?_
  first | refine wpAny_bind (wpAny_pure ?_) | skip
  refine wpAny_bind (wpAny_sequenceKey ht.typeIs (by decide) ?_)
  refine wpAny_bind (wpAny_callSpecial?_slot (name := Str.ofString "__getitem__") ht.typeIs slot_tuple_getitem
    (wpAny_call_entry slot_tuple_getitem ht.typeIs entry_tuple_getitem ?_ (args_tuple_getitem _ _)))
  show wpAny _ _ (Builtin.Tuple.tupleItemsOf (.ref a) >>= _) _ _ _
  refine wpAny_bind (tupleItemsOf_ ht ?_)
  refine wpAny_bind (wpAny_typeOf hTs ?_)
  rw [if_pos (by decide)]
  refine wpAny_bind (applied_upto (n := vs.toArray.size) hsl (by simpa using Nat.le_of_lt hk) ?_)
  have hno : ¬ (((0 : Int) == 0 && (1 : Int) == 1 && k == vs.toArray.size) = true) := by
    simp only [List.size_toArray, beq_self_eq_true, Bool.true_and, beq_iff_eq]
    (first | lia | omega)
  show wpAny _ _ (if ((0 : Int) == 0 && (1 : Int) == 1 && k == vs.toArray.size) = true then _ else _) _ _ _
  rw [if_neg hno, pick_upto vs k]
  have fin := kk _ _ _ (O1.add (o := tupO (vs.take k)) rfl) (O1.le_add _) (put_self ..)
  first
    | exact wpAny_bind (m := Builtin.Tuple.tupleExact _) (wpAny_newObj_type (wpAny_pure ⟨_, rfl, wpAny_pure fin⟩) hdrop)
    | exact wpAny_bind (m := Builtin.Tuple.tupleExact _) (wpAny_newObj_type (wpAny_bind (wpAny_pure (wpAny_pure ⟨_, rfl, wpAny_pure fin⟩))) hdrop)
    | exact wpAny_bind (wpAny_bind (m := Builtin.Tuple.tupleExact _) (wpAny_newObj_type (wpAny_pure (wpAny_pure ⟨_, rfl, wpAny_pure fin⟩)) hdrop))
    | exact wpAny_bind (wpAny_bind (m := Builtin.Tuple.tupleExact _) (wpAny_newObj_type (wpAny_pure ⟨_, rfl, wpAny_pure fin⟩) hdrop))

theorem r_tupFrom {value slice : Expr} {k : Nat} {u : Tok} (O : Ow h₀ B₀ M₀ L B own m h) (e : B a = some (tupO vs)) (h1 : 1 ≤ k) (hk : k ≤ vs.length)
    (kk : ∀ c B' h', Ow h₀ B₀ M₀ L B' own m h' → Le B B' → B' c = some (tupO (vs.drop k)) → Q (.ref c) ⟨h', g, d, t, os⟩)
    (hs : subscripted slice false (.ref a) (.ref h.objs.size) = operate [.ref h.objs.size, .ref a] (getItem (.ref a) (.ref h.objs.size)) := by with_unfolding_all rfl)
    (hsz : vs.length ≤ sizeLine := by size_fits) :
    wpAny (model prog w) A (subscriptTail value slice (.ref a) (.ref h.objs.size)) Q E ⟨h.push { cls := .type "slice", data := .fields #[.int k u, .none, .none] }, g, d, t, os⟩ := by
  have O1 := O.ext (h' := h.push { cls := .type "slice", data := .fields #[.int k u, .none, .none] }) (fun b o e => Heap.get?_push_of_some _ e)
  refine tail_any (s := ⟨_, g, d, t, os⟩) (O1.tup e).typeIs slot_tuple_getitem.lookup
    (getItem_tuple_from (O1.tup e) (Heap.IsSliceOf.new ..) h1 (by simpa using hk) ?_ (by simpa using hsz)) hs
  exact kk _ _ _ (O1.add (o := tupO (vs.drop k)) rfl) (O1.le_add _) (put_self ..)

theorem r_lstUpto {value slice : Expr} {k : Nat} {u : Tok} (O : Ow h₀ B₀ M₀ L B own m h) (hl : h.IsList a vs.toArray)
    (kk : ∀ c h', Ow h₀ B₀ M₀ L B ((c, lstO (vs.take k) 0) :: own) m h' → Q (.ref c) ⟨h', g, d, t, os⟩)
    (hs : subscripted slice false (.ref a) (.ref h.objs.size) = operate [.ref h.objs.size, .ref a] (getItem (.ref a) (.ref h.objs.size)) := by with_unfolding_all rfl)
    (hsz : vs.length ≤ sizeLine := by size_fits) :
    wpAny (model prog w) A (subscriptTail value slice (.ref a) (.ref h.objs.size)) Q E ⟨h.push { cls := .type "slice", data := .fields #[.none, .int k u, .none] }, g, d, t, os⟩ := by
  have O1 := O.ext (h' := h.push { cls := .type "slice", data := .fields #[.none, .int k u, .none] }) (fun b o e => Heap.get?_push_of_some _ e)
  refine tail_any (s := ⟨_, g, d, t, os⟩) (Heap.IsList.typeIs (s := ⟨h.push { cls := .type "slice", data := .fields #[.none, .int k u, .none] }, g, d, t, os⟩) (hl.push _)) slot_list_getitem.lookup
    (wpAny_getItem_list_slice (s := ⟨_, g, d, t, os⟩) (hl.push _) (Heap.IsSliceOf.new ..) .none (.int _ _) .none (by simp) ?_ (by simpa using hsz)) hs
  dsimp only
  rw [slicePick_upto']
  exact kk _ _ (O1.mine (o := lstO (vs.take k) 0) rfl)

/-- a slice that will not turn -/
theorem r_lstUptoB {value slice : Expr} {k : Nat} {u : Tok} (O : Ow h₀ B₀ M₀ L B own m h) (hl : h.IsList a vs.toArray)
    (kk : ∀ c B' h', Ow h₀ B₀ M₀ L B' own m h' → Le B B' → B' c = some (lstO (vs.take k) 0) → Q (.ref c) ⟨h', g, d, t, os⟩)
    (hs : subscripted slice false (.ref a) (.ref h.objs.size) = operate [.ref h.objs.size, .ref a] (getItem (.ref a) (.ref h.objs.size)) := by with_unfolding_all rfl)
    (hsz : vs.length ≤ sizeLine := by size_fits) :
    wpAny (model prog w) A (subscriptTail value slice (.ref a) (.ref h.objs.size)) Q E ⟨h.push { cls := .type "slice", data := .fields #[.none, .int k u, .none] }, g, d, t, os⟩ := by
  have O1 := O.ext (h' := h.push { cls := .type "slice", data := .fields #[.none, .int k u, .none] }) (fun b o e => Heap.get?_push_of_some _ e)
  refine tail_any (s := ⟨_, g, d, t, os⟩) (Heap.IsList.typeIs (s := ⟨h.push { cls := .type "slice", data := .fields #[.none, .int k u, .none] }, g, d, t, os⟩) (hl.push _)) slot_list_getitem.lookup
    (wpAny_getItem_list_slice (s := ⟨_, g, d, t, os⟩) (hl.push _) (Heap.IsSliceOf.new ..) .none (.int _ _) .none (by simp) ?_ (by simpa using hsz)) hs
  dsimp only
  rw [slicePick_upto']
  exact kk _ _ _ (O1.add (o := lstO (vs.take k) 0) rfl) (O1.le_add _) (put_self ..)
end
end

section
open PySem PySem.W PySem.Calls PyProof.Rows PySem.SeqAt

section
variable {prog : Program} {w : World} {A : Around} {E : Value → Shared → Prop} {Q : Value → Shared → Prop}
variable {h : Heap} {B : Sto} {g : Array GenState} {d : Drawn} {t : Nat} {os : OsState} {v : Value} {ab : Nat} {ls : List LineD}
variable {K : Frag} {N : Nm} {p : Program} {loose : List Str} {mg mb : Str → Option Value} {H : Heap}

theorem ViewV.ref {N : Nm} {B : Sto} {v : Value} (hv : ViewV N B v ab ls) : ∃ x, v = .ref x := by
  obtain ⟨x, _, _, _, _, _, _, _, _, _, _, _, _, _, _, _, _, _, e, _⟩ := hv
  exact ⟨x, e⟩

theorem lplaceD_range {l : LineD} {c : Int} (h0 : 0 ≤ c) (h1 : c < l.cells.length) : 0 ≤ lplaceD l c ∧ lplaceD l c < l.cells.length := by
  unfold lplaceD
  split <;> (first | lia | omega)
/-- the column that sign_end gives -/
def sendD (l : LineD) (c : Int) : Int := lplaceD l c + (if (match l.cells[(lplaceD l c).toNat]? with | some x => x.w == 2 | none => false) = true then 1 else 0)

set_option maxRecDepth 10000 in
theorem c_sbegin (W : Wd K p loose mg mb H) (Z : OkV K N) (hH : Le H.get? B) (kp : Kp B h) (r : Room A 3) (hv : ViewV N B v ab ls) (hsz : ls.length < 2 ^ 61) {row : Nat} {l : LineD} (hr : ls[row]? = some l) (hsl : l.cells.length < 2 ^ 61)
    {pa : Addr} {c : Int} {u1 u2 : Tok} (hp : B pa = some (tupO [.int row u1, .int c u2]))
    (k : ∀ B' h' t' a u1 u2, Grow h B [] B' h' → B' a = some (tupO [.int row u1, .int (lplaceD l c) u2]) → Q (.ref a) ⟨h', g, d, t', os⟩) : wpAny (model prog w) A (call (.ref N.sbegin) [v, .ref pa]) Q E ⟨h, g, d, t, os⟩ := by
  refine enterF (own := []) (binds := [("view", v), ("place", .ref pa)]) W hH kp (by simp) .nil Z.f_sbegin r.room fun L h1 t1 cdv O => ?_
  have rd := r.deeper (env := envOf "sign_begin" (scpF (top 25)) L N.sbegin cdv)
  have hv0 := hv
  obtain ⟨x, dx, es, n, hh, dh, hes, hn, hl, hq, gg, dg, ges, gn, gl, gq, hvs, gvs, rfl, e2, e3, e4, e5, e6, e7, e8, e9, f1, f2, f3, f4, f5, f6, f7, f8, f9, g1, g2⟩ := hv
  refine wpAny_execs_cons ?_
  refine wpAny_Return_some ?_
  refine Tuple_ ?_
  refine wpAny_items_cons ?_
  refine Subscript_ ?_
  refine r_local (by assumption) rfl ?_
  refine r_int ?_; intro _ _
  refine r_tupItem (O.tup hp) rfl rfl ?_
  refine wpAny_items_cons ?_
  refine Call_ ?_
  refine r_global (by assumption) (by assumption) (by assumption) (by exact OkV.g_lplace (by assumption)) ?_
  refine r_callF (by assumption) (by assumption) (by assumption) (by exact OkV.f_lplace (by assumption)) ?_
  refine wpAny_items_cons ?_
  refine MethodCall_ ?_
  refine r_local (by assumption) rfl ?_
  refine r_meth0 (by assumption) (by assumption) (by assumption) (by assumption) (by assumption) (by exact OkV.m_vline (by assumption)) (by assumption) ?_
  refine r_callF (by assumption) (by assumption) (by assumption) (by exact OkV.f_vline (by assumption)) ?_
  refine wpAny_items_cons ?_
  refine Subscript_ ?_
  refine r_local (by assumption) rfl ?_
  refine r_int ?_; intro _ _
  refine r_tupItem (O.tup hp) rfl rfl ?_
  refine wpAny_items_nil ?_
  refine r_inK (by assumption) (by assumption) (by assumption) ?_
  refine c_vline W Z (Le.trans hH O.g.sub) O.g.keep rd (hv0.mono O.g.sub) hsz hr fun B2 h2 t2 x2 G2 hx => ?_
  have O2 := O.call G2
  refine wpAny_items_cons ?_
  refine Subscript_ ?_
  refine r_local (by assumption) rfl ?_
  refine r_int ?_; intro _ _
  refine r_tupItem (O2.tup (O2.g.sub _ _ hp)) rfl rfl ?_
  refine wpAny_items_nil ?_
  refine r_inK (by assumption) (by assumption) (by assumption) ?_
  refine c_line_place W Z (Le.trans hH O2.g.sub) O2.g.keep rd hx (by (first | lia | omega)) fun B3 h3 t3 u G3 => ?_
  have O3 := O2.call G3
  refine wpAny_items_nil ?_
  refine r_tuple O3 fun b B4 h4 O4 le4 e4 => ?_
  exact k _ _ _ _ _ _ O4.g e4

set_option maxRecDepth 10000 in
theorem c_send (W : Wd K p loose mg mb H) (Z : OkV K N) (hH : Le H.get? B) (kp : Kp B h) (r : Room A 4) (hv : ViewV N B v ab ls) (hsz : ls.length < 2 ^ 61) {row : Nat} {l : LineD} (hr : ls[row]? = some l) (hsl : l.cells.length < 2 ^ 61)
    {pa : Addr} {c : Int} (hc0 : 0 ≤ c) (hc1 : c < l.cells.length) {u1 u2 : Tok} (hp : B pa = some (tupO [.int row u1, .int c u2]))
    (k : ∀ B' h' t' a u1 u2, Grow h B [] B' h' → B' a = some (tupO [.int row u1, .int (sendD l c) u2]) → Q (.ref a) ⟨h', g, d, t', os⟩) : wpAny (model prog w) A (call (.ref N.send) [v, .ref pa]) Q E ⟨h, g, d, t, os⟩ := by
  refine enterF (own := []) (binds := [("view", v), ("place", .ref pa)]) W hH kp (by simp) .nil Z.f_send r.room fun L h1 t1 cdv O => ?_
  have rd := r.deeper (env := envOf "sign_end" (scpF (top 26)) L N.send cdv)
  have hv0 := hv
  obtain ⟨x, dx, es, n, hh, dh, hes, hn, hl, hq, gg, dg, ges, gn, gl, gq, hvs, gvs, rfl, e2, e3, e4, e5, e6, e7, e8, e9, f1, f2, f3, f4, f5, f6, f7, f8, f9, g1, g2⟩ := hv
  refine wpAny_execs_cons ?_
  refine Assign_Tuple ?_
  refine Call_ ?_
  refine r_global (by assumption) (by assumption) (by assumption) (by exact OkV.g_sbegin (by assumption)) ?_
  refine r_callF (by assumption) (by assumption) (by assumption) (by exact OkV.f_sbegin (by assumption)) ?_
  refine wpAny_items_cons ?_
  refine r_local (by assumption) rfl ?_
  refine wpAny_items_cons ?_
  refine r_local (by assumption) rfl ?_
  refine wpAny_items_nil ?_
  refine r_inK (by assumption) (by assumption) (by assumption) ?_
  refine c_sbegin W Z (Le.trans hH O.g.sub) O.g.keep rd (hv0.mono O.g.sub) hsz hr hsl (O.g.sub _ _ hp) fun B2 h2 t2 a u3 u4 G2 ha => ?_
  have O2 := O.call G2
  refine assign_Tuple_tuple (s := ⟨h2, g, d, t2, os⟩) rd.handled (O2.tup ha) rfl rfl fun h3 hx => ?_
  have O3 := O2.ext (h' := h3) fun b o e => hx b o (Nat.ne_of_lt (get_lt e)) e
  refine assignInOrder_cons (assign_Name ?_)
  refine r_store O3 fun h4 t4 O4 => ?_
  refine assignInOrder_cons (assign_Name ?_)
  refine r_store O4 fun h5 t5 O5 => assignInOrder_nil ?_
  refine wpAny_execs_cons ?_
  refine wpAny_Return_some ?_
  refine Tuple_ ?_
  refine wpAny_items_cons ?_
  refine r_local (by assumption) rfl ?_
  refine wpAny_items_cons ?_
  refine wpAny_BinOp ?_
  refine r_local (by assumption) rfl ?_
  refine Call_ ?_
  refine r_builtin (by assumption) (by assumption) (by assumption) (by exact OkV.b_int (by assumption)) (by boot_by_name) ?_
  refine r_callT ?_
  refine wpAny_items_cons ?_
  refine wpAny_Compare1 ?_
  refine Subscript_ ?_
  refine Subscript_ ?_
  refine Attribute_any_ ?_
  refine MethodCall_ ?_
  refine r_local (by assumption) rfl ?_
  refine r_meth0 (by assumption) (by assumption) (by assumption) (by assumption) (by assumption) (by exact OkV.m_vline (by assumption)) (by assumption) ?_
  refine r_callF (by assumption) (by assumption) (by assumption) (by exact OkV.f_vline (by assumption)) ?_
  refine wpAny_items_cons ?_
  refine r_local (by assumption) rfl ?_
  refine wpAny_items_nil ?_
  refine r_inK (by assumption) (by assumption) (by assumption) ?_
  refine c_vline W Z (Le.trans hH O5.g.sub) O5.g.keep (rd.less (by decide)) (hv0.mono O5.g.sub) hsz hr fun B6 h6 t6 y G6 hy => ?_
  have O6 := O5.call G6
  obtain ⟨x1, dx1, es1, n1, ca, vs, q, rfl, ex, ed, gc, gw, ec, hcs⟩ := hy
  (refine r_attr1 (by assumption) (by assumption) (by assumption) (by assumption) (by assumption) (by exact OkV.a_cells (by assumption)) (by assumption) rfl ?_; intro _)
  refine r_local (by assumption) rfl ?_
  obtain ⟨hb0, hb1⟩ := lplaceD_range hc0 hc1
  have hc : (lplaceD l c).toNat < l.cells.length := by (first | lia | omega)
  obtain ⟨v', ev, a', cc, u', pv, bv, rfl, ea, ic⟩ := hcs.2 (lplaceD l c).toNat _ (List.getElem?_eq_getElem hc)
  refine r_lstItem (O6.lst ec) hb0 (by (first | lia | omega)) ev ?_
  refine r_int ?_; intro _ _
  refine r_tupItem (O6.tup ea) rfl rfl ?_
  refine r_int ?_; intro _ _
  refine PySem.P.eq_int ?_
  refine wpAny_items_nil ?_
  (refine r_intB ?_; intro _ _)
  refine r_add ?_; intro _ _
  refine wpAny_items_nil ?_
  refine r_tuple O6 fun b B7 h7 O7 le7 e7 => ?_
  have es : sendD l c = lplaceD l c + (if (l.cells[(lplaceD l c).toNat].w == 2) = true then 1 else 0) := by
    unfold sendD
    rw [List.getElem?_eq_getElem hc]
  rw [es] at k
  exact k _ _ _ b _ _ O7.g e7
end
end

section
open PySem PySem.W PySem.Calls PyProof.Rows PySem.SeqAt

/-- a code of a view with its place -/
inductive TokV (B : Sto) (v : Value) (x : Int × Nat × Nat) : Prop
  | mk (a : Addr) (u1 u2 u3 : Tok) (e : v = .ref a) (f : B a = some (tupO [.int x.1 u1, .int x.2.1 u2, .int x.2.2 u3])) : TokV B v x
theorem TokV.mono {B B' : Sto} {v : Value} {x : Int × Nat × Nat} (t : TokV B v x) (le : Le B B') : TokV B' v x := let ⟨a, u1, u2, u3, e, f⟩ := t; ⟨a, u1, u2, u3, e, le _ _ f⟩
def colCodes (r : Nat) (cs : List Cell) : Nat → List (Int × Nat × Nat)
  | 0 => []
  | j + 1 => colCodes r cs j ++ (match cs[j]? with | some c => (ccod c).map (fun k => (k, r, j)) | none => [])
def rowD (ls : List LineD) (r : Nat) : List (Int × Nat × Nat) := match ls[r]? with
  | none => []
  | some l => colCodes r (l.cells.take (widthD ls r)) (l.cells.take (widthD ls r)).length ++ (if joinedD ls r then [] else [(10, r, widthD ls r)])
/-- the codes of the first rows -/
def toldD (ls : List LineD) : Nat → List (Int × Nat × Nat)
  | 0 => []
  | r + 1 => toldD ls r ++ rowD ls r
theorem colCodes_mono (r : Nat) (cs : List Cell) {i j : Nat} (h : i ≤ j) : (colCodes r cs i).length ≤ (colCodes r cs j).length := by
  induction h with
  | refl => exact Nat.le_refl _
  | step _ ih => refine Nat.le_trans ih ?_; rw [colCodes, List.length_append]; exact Nat.le_add_right ..
theorem toldD_mono (ls : List LineD) {i j : Nat} (h : i ≤ j) : (toldD ls i).length ≤ (toldD ls j).length := by
  induction h with
  | refl => exact Nat.le_refl _
  | step _ ih => refine Nat.le_trans ih ?_; rw [toldD, List.length_append]; exact Nat.le_add_right ..

theorem told_bound {ls : List LineD} {i j : Nat} {l : LineD} (hl : ls[i]? = some l) (hj : j ≤ (l.cells.take (widthD ls i)).length) (hi : i < ls.length) : (toldD ls i ++ colCodes i (l.cells.take (widthD ls i)) j).length ≤ (toldD ls ls.length).length := by
  refine Nat.le_trans ?_ (toldD_mono ls hi)
  have e : toldD ls (i + 1) = toldD ls i ++ (colCodes i (l.cells.take (widthD ls i)) (l.cells.take (widthD ls i)).length ++ (if joinedD ls i then [] else [(10, i, widthD ls i)])) := by
    rw [toldD, rowD, hl]
  rw [e, List.length_append, List.length_append, List.length_append]
  have := colCodes_mono i (l.cells.take (widthD ls i)) hj
  (first | lia | omega)
section
variable {prog : Program} {w : World} {A : Around} {E : Value → Shared → Prop} {Q : Value → Shared → Prop}
variable {h : Heap} {B : Sto} {g : Array GenState} {d : Drawn} {t : Nat} {os : OsState} {v : Value} {ab : Nat} {ls : List LineD}
variable {K : Frag} {N : Nm} {p : Program} {loose : List Str} {mg mb : Str → Option Value} {H : Heap}

set_option maxHeartbeats 1000000 in
set_option maxRecDepth 10000 in
theorem c_vcodes (W : Wd K p loose mg mb H) (Z : OkV K N) (hH : Le H.get? B) (kp : Kp B h) (r : Room A 5) (hv : ViewV N B v ab ls) (hsz : ls.length < 2 ^ 20) (hcz : ∀ l ∈ ls, l.cells.length ≤ 2 ^ 20) (hbig : (toldD ls ls.length).length ≤ 2 ^ 20)
    (k : ∀ B' h' t' a vs q, Grow h B [] B' h' → B' a = some (lstO vs q) → Each (TokV B') vs (toldD ls ls.length) → Q (.ref a) ⟨h', g, d, t', os⟩) : wpAny (model prog w) A (call (.ref N.vcodes) [v]) Q E ⟨h, g, d, t, os⟩ := by
  refine enterC (own := []) (binds := [("view", v)]) W hH kp (by simp) .nil Z.f_vcodes r.room (fun L h1 t1 cdv cown hco O => ?_) (hkind := ?_) (hlk := ?_)
  · have rd := r.deeper (env := envC "view_codes" (scpF (top 27)) L N.vcodes cdv)
    have hv0 := hv
    obtain ⟨x, dx, es, n, hh, dh, hes, hn, hl, hq, gg, dg, ges, gn, gl, gq, hvs, gvs, rfl, e2, e3, e4, e5, e6, e7, e8, e9, f1, f2, f3, f4, f5, f6, f7, f8, f9, g1, g2⟩ := hv
    obtain ⟨o1, _, rfl, d1, o2, _, rfl, d2, rfl⟩ := hco
    refine wpAny_execs_cons ?_
    refine wpAny_Assign_Name ?_
    refine List_ ?_
    refine wpAny_items_nil ?_
    refine r_list O fun F h2 O2 => ?_
    refine r_store O2 fun h3 t3 O3 => ?_
    refine wpAny_execs_cons ?_
    refine wpAny_For ?_
    refine Call_ ?_
    refine r_builtin (by assumption) (by assumption) (by assumption) (by exact OkV.b_range (by assumption)) (by boot_by_name) ?_
    refine r_callT ?_
    refine wpAny_items_cons ?_
    refine MethodCall_ ?_
    refine r_local (by assumption) rfl ?_
    refine r_meth0 (by assumption) (by assumption) (by assumption) (by assumption) (by assumption) (by exact OkV.m_rows (by assumption)) (by assumption) ?_
    refine r_callF0 (by assumption) (by assumption) (by assumption) (by exact OkV.f_rows (by assumption)) ?_
    refine c_rows W Z (Le.trans hH O3.g.sub) O3.g.keep (rd.less (by decide)) (hv0.mono O3.g.sub) (by (first | lia | omega)) fun B4 h4 t4 u4 G4 => ?_
    have O4 := O3.call G4
    refine wpAny_items_nil ?_
    refine r_range rd.handled O4 (by (first | lia | omega)) fun I h5 t5 O5 S5 => ?_
    refine for_name S5 O5 (fun i B' own' m' => ∃ o1 o2 vs q c1 c2, own' = [(F, lstO vs q), (L + 1 + 1, o1), (L + 1, o2)] ∧ o1.data = .cell c1 ∧ o2.data = .cell c2 ∧ Each (TokV B') vs (toldD ls i) ∧ m' "view" = some (.ref x) ∧ m' "found" = some (.ref F))
      ⟨o1, o2, [], 0, _, _, rfl, d1, d2, .nil, rfl, rfl⟩ (fun i vi B6 own6 m6 h6 t6 E' hi hvi inv le6 O6 N6 => ?_) (fun B6 own6 m6 h6 t6 inv le6 O6 => ?_)
    · obtain ⟨u6, rfl⟩ := hvi
      obtain ⟨o1, o2, vs, q, c1, c2, rfl, d1, d2, hvs, hmv, hmf⟩ := inv
      have hH6 := Le.trans hH O6.g.sub
      have hv6 := hv0.mono O6.g.sub
      obtain ⟨l, hl⟩ : ∃ l, ls[i]? = some l := ⟨_, List.getElem?_eq_getElem hi⟩
      have hlz := hcz l (List.mem_of_getElem? hl)
      obtain ⟨x', dx, es, n, hh, dh, hes, hn, hl', hq, gg, dg, ges, gn, gl, gq, hvs', gvs, ex, e2, e3, e4, e5, e6, e7, e8, e9, -⟩ := id hv6
      cases ex
      refine r_storeC N6 rfl 2 rfl d2 fun h7 o2' d2' N7 => ?_
      refine wpAny_execs_cons ?_
      refine wpAny_Assign_Name ?_
      refine Call_ ?_
      refine r_global (by assumption) (by assumption) (by assumption) (by exact OkV.g_vwidth (by assumption)) ?_
      refine r_callF (by assumption) (by assumption) (by assumption) (by exact OkV.f_vwidth (by assumption)) ?_
      refine wpAny_items_cons ?_
      refine r_local (by assumption) (by assumption) ?_
      refine wpAny_items_cons ?_
      refine r_cell (by assumption) rfl (by repeat (first | exact List.Mem.head _ | apply List.Mem.tail)) (by assumption) ?_
      refine wpAny_items_nil ?_
      refine r_inK (by assumption) (by assumption) (by assumption) ?_
      refine c_width W Z (Le.trans hH6 N7.g.sub) N7.g.keep (rd.less (by decide)) (hv6.mono N7.g.sub) (by (first | lia | omega)) (fun l hl => by have := hcz l hl; (first | lia | omega)) hi fun B8 h8 t8 u8 G8 => ?_
      have N8 := N7.call G8
      refine r_store N8 fun h9 t9 N9 => ?_
      refine wpAny_execs_cons ?_
      refine wpAny_For ?_
      refine Call_ ?_
      refine r_builtin (by assumption) (by assumption) (by assumption) (by exact OkV.b_enumerate (by assumption)) (by boot_by_name) ?_
      refine r_callT ?_
      refine wpAny_items_cons ?_
      refine Subscript_ ?_
      refine Attribute_any_ ?_
      refine MethodCall_ ?_
      refine r_local (by assumption) (by assumption) ?_
      refine r_meth0 (by assumption) (by assumption) (by assumption) (by assumption) (by assumption) (by exact OkV.m_vline (by assumption)) (by assumption) ?_
      refine r_callF (by assumption) (by assumption) (by assumption) (by exact OkV.f_vline (by assumption)) ?_
      refine wpAny_items_cons ?_
      refine r_cell (by assumption) rfl (by repeat (first | exact List.Mem.head _ | apply List.Mem.tail)) (by assumption) ?_
      refine wpAny_items_nil ?_
      refine r_inK (by assumption) (by assumption) (by assumption) ?_
      refine c_vline W Z (Le.trans hH6 N9.g.sub) N9.g.keep (rd.less (by decide)) (hv6.mono N9.g.sub) (by (first | lia | omega)) hl fun Ba ha ta y Ga hy => ?_
      have Na := N9.call Ga
      obtain ⟨x1, dx1, es1, n1, ca, lvs, lq, rfl, ex1, ed1, gc, gw, ec, hcs⟩ := hy
      have hln := hcs.1
      (refine r_attr1 (by assumption) (by assumption) (by assumption) (by assumption) (by assumption) (by exact OkV.a_cells (by assumption)) (by assumption) rfl ?_; intro _)
      refine wpAny_Slice ?_
      refine r_partNone ?_
      refine r_partSome ?_
      refine r_local (by assumption) rfl ?_
      refine r_partNone ?_
      refine r_lstUptoB Na (Na.lst ec) (fun c Bb hb Nb leb eb => ?_) (hsz := by unfold sizeLine; (first | lia | omega))
      refine wpAny_items_nil ?_
      refine r_enum rd.handled Nb eb fun I2 hc tc Nc Sc => ?_
      have hE : Each (CellV Bb) (lvs.take (widthD ls i)) (l.cells.take (widthD ls i)) := (Each.of hcs.1 (hcs.mono leb).2).take _
      refine for_pair (P2 := fun j v1 v2 => (∃ u, v1 = .int j u) ∧ (lvs.take (widthD ls i))[j]? = some v2) rd.handled Sc (fun j vals hP => ?_) Nc
        (fun j B' own' m' => ∃ o1 vs q c1, own' = [(F, lstO vs q), (L + 1 + 1, o1), (L + 1, o2')] ∧ o1.data = .cell c1 ∧ Each (TokV B') vs (toldD ls i ++ colCodes i (l.cells.take (widthD ls i)) j) ∧ m' "view" = some (.ref x) ∧ m' "found" = some (.ref F) ∧ ∃ u, m' "width" = some (.int (widthD ls i) u))
        ⟨o1, vs, q, c1, rfl, d1, ?_, hmv, hmf, _, rfl⟩ (fun j v1 v2 Bd ownd md hd td E2 hj hP inv led Od Nd => ?_) (fun Bd ownd md hd td inv led Od => ?_)
      · obtain ⟨u, x, h1, h2⟩ := hP
        exact ⟨_, _, h2, ⟨u, rfl⟩, h1⟩
      · have : colCodes i (l.cells.take (widthD ls i)) 0 = [] := rfl
        rw [this, List.append_nil]
        exact hvs.mono fun _ _ y => y.mono Nc.g.sub
      · obtain ⟨⟨u1, rfl⟩, hv2⟩ := hP
        obtain ⟨o1, vs, q, c1, rfl, d1, hvs, hmv, hmf, u3, hmw⟩ := inv
        have hHd := Le.trans hH6 Od.g.sub
        have hj' : j < (l.cells.take (widthD ls i)).length := by rw [← hE.length]; exact hj
        obtain ⟨cv, ecv, hcv⟩ := hE.get j _ (List.getElem?_eq_getElem hj')
        rw [hv2] at ecv
        cases ecv
        refine r_storeC Nd rfl 1 rfl d1 fun he o1' d1' Ne => ?_
        refine r_store Ne fun hf tf Nf => ?_
        refine wpAny_execs_cons ?_
        refine wpAny_Expr_any ?_
        refine MethodCall_ ?_
        refine r_local (by assumption) (by assumption) ?_
        refine r_mExtend Nf (.head _) ?_
        refine r_callB ?_
        refine wpAny_items_cons ?_
        refine r_comp ?_
        refine Call_ ?_
        refine r_global (by assumption) (by assumption) (by assumption) (by exact OkV.g_ccodes (by assumption)) ?_
        refine r_callF (by assumption) (by assumption) (by assumption) (by exact OkV.f_ccodes (by assumption)) ?_
        refine wpAny_items_cons ?_
        refine r_local (by assumption) rfl ?_
        refine wpAny_items_nil ?_
        refine r_inK (by assumption) (by assumption) (by assumption) ?_
        refine c_cell_codes W Z (Le.trans hHd Nf.g.sub) Nf.g.keep (rd.less (by decide)) (hcv.mono led) fun Bg hg tg a Gg hit => ?_
        have Ng := Nf.call Gg
        obtain ⟨its, eit, hit⟩ := hit
        refine r_iterTup rd.handled Ng eit fun I3 hh th Nh Sh => ?_
        refine comp_name Sh Nh rfl (fun jj xs B' own' => own' = [(F, lstO vs q), (L + 1 + 1, o1'), (L + 1, o2')] ∧ Each (TokV B') xs (((ccod (l.cells.take (widthD ls i))[j]).take jj).map (fun kk => (kk, i, j)))) ⟨rfl, .nil⟩ ?_ ?_ ?_ (hh := rd.handled)
        · intro jj v3 xs B' own' C D oL q3 mc h' h1 t' E3 hjj hv3 hxs inv le3 hns kp3 Oc
          obtain ⟨rfl, hxs3⟩ := inv
          have hjl : jj < (ccod (l.cells.take (widthD ls i))[j]).length := by rw [← hit.length]; exact hjj
          obtain ⟨u9, e9⟩ := hit.get jj _ (List.getElem?_eq_getElem hjl)
          rw [hv3] at e9
          cases e9
          refine Tuple_ ?_
          refine wpAny_items_cons ?_
          refine r_local (by assumption) rfl ?_
          refine wpAny_items_cons ?_
          refine r_cell (by assumption) rfl (by repeat (first | exact List.Mem.head _ | apply List.Mem.tail)) (by assumption) ?_
          refine wpAny_items_cons ?_
          refine r_cell (by assumption) rfl (by repeat (first | exact List.Mem.head _ | apply List.Mem.tail)) (by assumption) ?_
          refine wpAny_items_nil ?_
          refine r_tuple Oc fun b B9 h9 O9 le9 e9 => ?_
          refine ⟨B9, _, _, h9, _, rfl, O9, rfl, ?_⟩
          rw [List.take_add_one, List.getElem?_eq_getElem hjl, List.map_append]
          exact (hxs3.mono fun _ _ y => y.mono le9).append (.cons ⟨b, _, _, _, rfl, e9⟩ .nil)
        · intro xs B' own' D q3 hxs inv le3
          obtain ⟨rfl, hxs3⟩ := inv
          intro h' t' Oz
          have hxl : its.length = (ccod (l.cells.take (widthD ls i))[j]).length := hit.length
          rw [List.take_of_length_le (by (first | lia | omega))] at hxs3
          have eC : colCodes i (l.cells.take (widthD ls i)) (j + 1) = colCodes i (l.cells.take (widthD ls i)) j ++ (ccod (l.cells.take (widthD ls i))[j]).map (fun kk => (kk, i, j)) := by
            rw [colCodes, List.getElem?_eq_getElem hj']
          have hlen : vs.length + xs.length ≤ 2 ^ 20 := by
            have h1 := told_bound (j := j + 1) hl hj' hi
            rw [eC, ← List.append_assoc, List.length_append, ← hvs.length, ← hxs3.length] at h1
            (first | lia | omega)
          refine wpAny_items_nil ?_
          refine r_extend Oz 1 rfl (Oz.mn _ (.head _)).1 (fun h'' q'' Oy => ?_) (by unfold sizeLine; (first | lia | omega))
          refine wpAny_execs_nil ?_
          refine ⟨_, [(F, lstO (vs ++ xs) q''), (L + 1 + 1, o1'), (L + 1, o2')], _, _, _, rfl, Oy.drop (List.sublist_cons_self _ _), o1', _, _, _, rfl, d1', ?_, hmv, hmf, u3, hmw⟩
          rw [eC, ← List.append_assoc]
          exact (hvs.mono fun _ _ y => y.mono (Le.trans Gg.sub le3)).append hxs3
        · have h1 := told_bound (j := j + 1) hl hj' hi
          have hxl : its.length = (ccod (l.cells.take (widthD ls i))[j]).length := hit.length
          rw [colCodes, List.getElem?_eq_getElem hj', List.length_append, List.length_append, List.length_map] at h1
          unfold sizeLine
          (first | lia | omega)
      · obtain ⟨o1, vs, q, c1, rfl, d1, hvs, hmv, hmf, u3, hmw⟩ := inv
        rw [hE.length] at hvs
        refine wpAny_execs_cons ?_
        refine wpAny_If ?_
        refine wpAny_isTrue_Not ?_
        refine wpAny_isTrue_value ?_
        refine MethodCall_ ?_
        refine r_local (by assumption) (by assumption) ?_
        refine r_meth0 (by assumption) (by assumption) (by assumption) (by assumption) (by assumption) (by exact OkV.m_joined (by assumption)) (by assumption) ?_
        refine r_callF (by assumption) (by assumption) (by assumption) (by exact OkV.f_joined (by assumption)) ?_
        refine wpAny_items_cons ?_
        refine r_cell (by assumption) rfl (by repeat (first | exact List.Mem.head _ | apply List.Mem.tail)) (by assumption) ?_
        refine wpAny_items_nil ?_
        refine r_inK (by assumption) (by assumption) (by assumption) ?_
        refine c_joined W Z (Le.trans hH6 Od.g.sub) Od.g.keep (rd.less (by decide)) (hv6.mono Od.g.sub) (by (first | lia | omega)) hi fun Be he te Ge => ?_
        have Oe := Od.call Ge
        have eR : toldD ls (i + 1) = (toldD ls i ++ colCodes i (l.cells.take (widthD ls i)) (l.cells.take (widthD ls i)).length) ++ (if joinedD ls i then [] else [(10, i, widthD ls i)]) := by
          rw [toldD, rowD, hl, List.append_assoc]
        have lee := Ge.sub
        refine wpAny_truthy_bool ?_
        refine PyProof.Rows.split_bool (fun hT => ?_) (fun hF => ?_)
        · have hj : joinedD ls i = false := by simpa using hT
          rw [hj] at eR
          have hlen : vs.length + 1 ≤ 2 ^ 20 := by
            have h1 := toldD_mono ls (i := i + 1) hi
            rw [eR, List.length_append, ← hvs.length] at h1
            simp only [Bool.false_eq_true, if_false, List.length_cons, List.length_nil] at h1
            (first | lia | omega)
          obtain ⟨uf, hlf⟩ := Z.v_LF
          refine wpAny_execs_cons ?_
          refine wpAny_Expr_any ?_
          refine MethodCall_ ?_
          refine r_local (by assumption) (by assumption) ?_
          refine r_mAppend Oe (.head _) ?_
          refine r_callB ?_
          refine wpAny_items_cons ?_
          refine Tuple_ ?_
          refine wpAny_items_cons ?_
          refine r_global W hH6 Oe hlf ?_
          refine wpAny_items_cons ?_
          refine r_cell (by assumption) rfl (by repeat (first | exact List.Mem.head _ | apply List.Mem.tail)) (by assumption) ?_
          refine wpAny_items_cons ?_
          refine r_local (by assumption) (by assumption) ?_
          refine wpAny_items_nil ?_
          refine r_tuple Oe fun b Bf hf Of lef ef => ?_
          refine wpAny_items_nil ?_
          refine r_append Of 0 rfl (fun hg Og => ?_) (by unfold sizeLine; (first | lia | omega))
          refine wpAny_execs_nil ?_
          refine wpAny_execs_nil ?_
          refine ⟨_, _, _, _, _, rfl, Og, o1, o2', _, _, _, _, rfl, d1, d2', ?_, hmv, hmf⟩
          rw [eR]
          exact (hvs.mono fun _ _ y => (y.mono lee).mono lef).append (.cons ⟨b, _, _, _, rfl, ef⟩ .nil)
        · have hj : joinedD ls i = true := by simpa using hF
          rw [hj] at eR
          refine wpAny_execs_nil ?_
          refine wpAny_execs_nil ?_
          refine ⟨_, _, _, _, _, rfl, Oe, o1, o2', _, _, _, _, rfl, d1, d2', ?_, hmv, hmf⟩
          rw [eR, if_pos rfl, List.append_nil]
          exact hvs.mono fun _ _ y => y.mono lee
    · obtain ⟨o1, o2, vs, q, c1, c2, rfl, d1, d2, hvs, hmv, hmf⟩ := inv
      refine wpAny_execs_cons ?_
      refine wpAny_Return_some ?_
      refine r_local (by assumption) (by assumption) ?_
      obtain ⟨O7, le7, e7⟩ := O6.rest (by simp)
      exact k _ _ _ _ _ _ O7.g e7 (hvs.mono fun _ _ y => y.mono le7)
  · intro n x hx
    simp only [List.mem_singleton] at hx
    subst hx
    exact .inl rfl
  · intro n p hp
    have e : cellsFrom (n + 1) (scpF (top 27)).names [] = [(("column" : Str), (n + 1 + 1 : Addr)), (("row" : Str), (n + 1 : Addr))] := rfl
    rw [e] at hp ⊢
    rcases List.mem_cons.mp hp with rfl | hp
    · rfl
    · rw [List.mem_singleton.mp hp]; rfl
end
end

section
open PySem PySem.W PySem.Calls PyProof.Rows PySem.SeqAt

/-- where found_end ends, for m codes from (r, c) -/
def foundD (ls : List LineD) (m : Nat) (r c : Nat) : Option (Nat × Int) :=
  match (toldD ls ls.length).findIdx? (fun x => x.2 == (r, c)) with
  | none => none
  | some i => if m = 0 then none else match (toldD ls ls.length)[i + m - 1]? with
    | none => none
    | some (_, row, col) => match ls[row]? with
      | none => none
      | some l => if col < l.cells.length then some (row, sendD l col) else some (row, (col : Int))
def FoundV (B : Sto) (v : Value) : Option (Nat × Int) → Prop
  | none => v = .none
  | some (r, c) => ∃ a u1 u2, v = .ref a ∧ B a = some (tupO [.int r u1, .int c u2])

theorem colCodes_row (r : Nat) (cs : List Cell) : ∀ j, ∀ x ∈ colCodes r cs j, x.2.1 = r
  | 0, x, h => by cases h
  | j + 1, x, h => by
    rw [colCodes] at h
    rcases List.mem_append.mp h with h | h
    · exact colCodes_row r cs j x h
    · cases q : cs[j]? with
      | none => rw [q] at h; cases h
      | some c => rw [q] at h; obtain ⟨k, _, rfl⟩ := List.mem_map.mp h; rfl
theorem toldD_row (ls : List LineD) : ∀ n, ∀ x ∈ toldD ls n, x.2.1 < n
  | 0, x, h => by cases h
  | n + 1, x, h => by
    rw [toldD] at h
    rcases List.mem_append.mp h with h | h
    · exact Nat.lt_succ_of_lt (toldD_row ls n x h)
    · unfold rowD at h
      cases q : ls[n]? with
      | none => rw [q] at h; cases h
      | some l =>
        rw [q] at h
        rcases List.mem_append.mp h with h | h
        · rw [colCodes_row _ _ _ x h]; exact Nat.lt_succ_self _
        · split at h
          · cases h
          · rw [List.mem_singleton.mp h]; exact Nat.lt_succ_self _

section
variable {prog : Program} {w : World} {A : Around} {E : Value → Shared → Prop} {Q : Value → Shared → Prop}
variable {h : Heap} {B : Sto} {g : Array GenState} {d : Drawn} {t : Nat} {os : OsState} {v : Value} {ab : Nat} {ls : List LineD}
variable {K : Frag} {N : Nm} {p : Program} {loose : List Str} {mg mb : Str → Option Value} {H : Heap}

set_option maxHeartbeats 1000000 in
set_option maxRecDepth 10000 in
theorem c_fend (W : Wd K p loose mg mb H) (Z : OkV K N) (hH : Le H.get? B) (kp : Kp B h) (r : Room A 6) (hv : ViewV N B v ab ls) (hsz : ls.length < 2 ^ 20) (hcz : ∀ l ∈ ls, l.cells.length ≤ 2 ^ 20) (hbig : (toldD ls ls.length).length ≤ 2 ^ 20)
    {ca pa : Addr} {cvs : List Value} {cq : Nat} {row col : Nat} {u1 u2 : Tok} (hc : B ca = some (lstO cvs cq)) (hcl : cvs.length ≤ 2 ^ 20) (hp : B pa = some (tupO [.int row u1, .int col u2]))
    (k : ∀ B' h' t' x, Grow h B [] B' h' → FoundV B' x (foundD ls cvs.length row col) → Q x ⟨h', g, d, t', os⟩) : wpAny (model prog w) A (call (.ref N.fend) [v, .ref ca, .ref pa]) Q E ⟨h, g, d, t, os⟩ := by
  refine enterF (own := []) (binds := [("view", v), ("codes", .ref ca), ("place", .ref pa)]) W hH kp (by simp) .nil Z.f_fend r.room fun L h1 t1 cdv O => ?_
  have rd := r.deeper (env := envOf "found_end" (scpF (top 28)) L N.fend cdv)
  have hv0 := hv
  obtain ⟨x, dx, es, n, hh, dh, hes, hn, hl, hq, gg, dg, ges, gn, gl, gq, hvs, gvs, rfl, e2, e3, e4, e5, e6, e7, e8, e9, -⟩ := hv
  refine wpAny_execs_cons ?_
  refine wpAny_Assign_Name ?_
  refine Call_ ?_
  refine r_global (by assumption) (by assumption) (by assumption) (by exact OkV.g_vcodes (by assumption)) ?_
  refine r_callF (by assumption) (by assumption) (by assumption) (by exact OkV.f_vcodes (by assumption)) ?_
  refine wpAny_items_cons ?_
  refine r_local (by assumption) rfl ?_
  refine wpAny_items_nil ?_
  refine r_inK (by assumption) (by assumption) (by assumption) ?_
  refine c_vcodes W Z (Le.trans hH O.g.sub) O.g.keep rd (hv0.mono O.g.sub) hsz hcz hbig fun B2 h2 t2 F vs q G2 eF hvs => ?_
  have O2 := O.call G2
  refine r_store O2 fun h3 t3 O3 => ?_
  refine wpAny_execs_cons ?_
  refine wpAny_For ?_
  refine Call_ ?_
  refine r_builtin (by assumption) (by assumption) (by assumption) (by exact OkV.b_enumerate (by assumption)) (by boot_by_name) ?_
  refine r_callT ?_
  refine wpAny_items_cons ?_
  refine r_local (by assumption) rfl ?_
  refine wpAny_items_nil ?_
  refine r_enum rd.handled O3 eF fun I h4 t4 O4 S4 => ?_
  refine for_pair (P2 := fun j v1 v2 => (∃ u, v1 = .int j u) ∧ vs[j]? = some v2) rd.handled S4 (fun j vals hP => ?_) O4
    (fun i B' own' m' => own' = [] ∧ m' "view" = some (.ref x) ∧ m' "codes" = some (.ref ca) ∧ m' "place" = some (.ref pa) ∧ m' "told" = some (.ref F) ∧ ∀ (j : Nat) (hj : j < i), ∀ y, (toldD ls ls.length)[j]? = some y → y.2 ≠ (row, col))
    ⟨rfl, rfl, rfl, rfl, rfl, fun j hj => absurd hj (Nat.not_lt_zero _)⟩ (fun i v1 v2 B6 own6 m6 h6 t6 E6 hi hP inv le6 O6 N6 => ?_) (fun B6 own6 m6 h6 t6 inv le6 O6 => ?_)
  · obtain ⟨u, x, h1, h2⟩ := hP
    exact ⟨_, _, h2, ⟨u, rfl⟩, h1⟩
  · obtain ⟨⟨u9, rfl⟩, hv2⟩ := hP
    obtain ⟨rfl, mv, mc, mp, mt, hno⟩ := inv
    have hH6 := Le.trans hH O6.g.sub
    have hil : i < (toldD ls ls.length).length := by rw [← hvs.length]; exact hi
    obtain ⟨vi, evi, a1, u3, u4, u5, rfl, ea1⟩ := hvs.get i _ (List.getElem?_eq_getElem hil)
    rw [hv2] at evi
    cases evi
    refine r_store N6 fun h7 t7 N7 => ?_
    refine r_store N7 fun h8 t8 N8 => ?_
    refine wpAny_execs_cons ?_
    refine wpAny_If ?_
    refine wpAny_isTrue_Compare1 ?_
    refine Subscript_ ?_
    refine r_local (by assumption) rfl ?_
    refine wpAny_Slice ?_
    refine r_partSome ?_
    refine r_int ?_; intro _ _
    refine r_partNone ?_
    refine r_partNone ?_
    refine r_tupFrom N8 (k := 1) (le6 _ _ ea1) (Nat.le_refl _) (by simp) fun b1 B9 h9 N9 le9 e9 => ?_
    refine r_local (by assumption) (by assumption) ?_
    have eint : IntsAre (List.drop 1 [Value.int (toldD ls ls.length)[i].1 u3, .int ((toldD ls ls.length)[i].2.1 : Int) u4, .int ((toldD ls ls.length)[i].2.2 : Int) u5]) [((toldD ls ls.length)[i].2.1 : Int), ((toldD ls ls.length)[i].2.2 : Int)] := .cons _ _ (.cons _ _ .nil)
    refine r_eqInts (N9.tupl e9) (N9.tupl (le9 _ _ (O6.g.sub _ _ hp))) eint (.cons _ _ (.cons _ _ .nil)) rd.unit ?_
    refine wpAny_truthy_bool ?_
    refine PyProof.Rows.split_dec (fun hT => ?_) (fun hF => ?_)
    · have hat : (toldD ls ls.length)[i].2 = (row, col) := by
        simp only [List.cons.injEq, and_true] at hT
        refine Prod.ext ?_ ?_
        · show (toldD ls ls.length)[i].2.1 = row
          (first | lia | omega)
        · show (toldD ls ls.length)[i].2.2 = col
          (first | lia | omega)
      have hfi : (toldD ls ls.length).findIdx? (fun x => x.2 == (row, col)) = some i := by
        rw [List.findIdx?_eq_some_iff_getElem]
        refine ⟨hil, by simpa using hat, fun j hj => ?_⟩
        have := hno j hj _ (List.getElem?_eq_getElem (Nat.lt_trans hj hil))
        simpa using this
      have ec9 : B9 ca = some (lstO cvs cq) := le9 _ _ (O6.g.sub _ _ hc)
      have et9 : B9 F = some (lstO vs q) := le9 _ _ (le6 _ _ eF)
      have hv9 := (hv0.mono O6.g.sub).mono le9
      have hvs9 := (hvs.mono fun _ _ y => y.mono le6).mono fun _ _ y => TokV.mono y le9
      have hvl := hvs.length
      refine wpAny_execs_cons ?_
      refine wpAny_Assign_Name ?_
      refine wpAny_BinOp ?_
      refine wpAny_BinOp ?_
      refine r_local (by assumption) rfl ?_
      refine Call_ ?_
      refine r_builtin (by assumption) (by assumption) (by assumption) (by exact OkV.b_len (by assumption)) (by boot_by_name) ?_
      refine r_callB ?_
      refine wpAny_items_cons ?_
      refine r_local (by assumption) (by assumption) ?_
      refine wpAny_items_nil ?_
      refine r_len (N9.lst ec9) (by (first | lia | omega)) fun u t' => ?_
      refine r_add ?_; intro _ _
      refine r_int ?_; intro _ _
      refine r_sub ?_; intro _ _
      refine r_store N9 fun ha ta Na => ?_
      refine wpAny_execs_cons ?_
      refine wpAny_If ?_
      refine wpAny_isTrue_BoolOp ?_
      refine wpAny_allTrue_Or_cons ?_
      refine wpAny_isTrue_Compare1 ?_
      refine r_local (by assumption) (by assumption) ?_
      refine List_ ?_
      refine wpAny_items_nil ?_
      refine r_list Na fun b2 hb Nb => ?_
      refine r_lstEqNil (Nb.g.keep _ _ ec9) (Nb.mn _ (.head _)).1 rd.unit ?_
      refine wpAny_truthy_bool ?_
      have none_case : ∀ Bz own mz hz tz, foundD ls cvs.length row col = none → Ow h6 B6 [(envOf "found_end" (scpF (top 28)) L N.fend cdv).locals] (envOf "found_end" (scpF (top 28)) L N.fend cdv).locals Bz own mz hz → Q .none ⟨hz, g, d, tz, os⟩ := fun Bz own mz hz tz e Nz => by
        refine k _ _ _ _ (O6.comp Nz).g ?_
        rw [e]
        rfl
      refine PyProof.Rows.split_bool (fun hT2 => ?_) (fun hF2 => ?_)
      · refine iteT ?_
        refine wpAny_execs_cons ?_
        refine wpAny_Return_some ?_
        refine wpAny_Constant_none ?_
        refine none_case _ _ _ _ _ ?_ Nb
        unfold foundD
        rw [hfi]
        have : cvs = [] := by simpa using hT2
        rw [this]
        rfl
      · have hm : cvs.length ≠ 0 := by
          intro z
          rw [List.length_eq_zero_iff.mp z] at hF2
          cases hF2
        have efd : foundD ls cvs.length row col = match (toldD ls ls.length)[i + cvs.length - 1]? with
            | none => none
            | some (_, row, col) => match ls[row]? with
              | none => none
              | some l => if col < l.cells.length then some (row, sendD l col) else some (row, (col : Int)) := by
          unfold foundD
          rw [hfi]
          dsimp only
          rw [if_neg hm]
        refine wpAny_allTrue_Or_cons ?_
        refine wpAny_isTrue_Compare1 ?_
        refine r_local (by assumption) rfl ?_
        refine Call_ ?_
        refine r_builtin (by assumption) (by assumption) (by assumption) (by exact OkV.b_len (by assumption)) (by boot_by_name) ?_
        refine r_callB ?_
        refine wpAny_items_cons ?_
        refine r_local (by assumption) (by assumption) ?_
        refine wpAny_items_nil ?_
        refine r_len (Nb.lst et9) (by (first | lia | omega)) fun u t' => ?_
        refine PySem.P.ge_int ?_
        refine wpAny_truthy_bool ?_
        refine PyProof.Rows.split_dec (fun h0 => ?_) (fun h0 => ?_)
        · refine iteT ?_
          refine wpAny_execs_cons ?_
          refine wpAny_Return_some ?_
          refine wpAny_Constant_none ?_
          refine none_case _ _ _ _ _ ?_ Nb
          rw [efd, List.getElem?_eq_none_iff.mpr (by (first | lia | omega))]
        · have hlt : i + cvs.length - 1 < (toldD ls ls.length).length := by (first | lia | omega)
          obtain ⟨vt, evt, a2, u6, u7, u8, rfl, ea2⟩ := hvs9.get _ _ (List.getElem?_eq_getElem hlt)
          have hrow := toldD_row ls _ _ (List.getElem_mem hlt)
          rw [List.getElem?_eq_getElem hlt] at efd
          generalize (toldD ls ls.length)[i + cvs.length - 1] = tk at efd evt ea2 hrow
          obtain ⟨tk1, r2, c2⟩ := tk
          dsimp only at efd evt ea2 hrow
          obtain ⟨l, hl⟩ : ∃ l, ls[r2]? = some l := ⟨_, List.getElem?_eq_getElem hrow⟩
          rw [hl] at efd
          dsimp only at efd
          have hlz := hcz l (List.mem_of_getElem? hl)
          refine wpAny_allTrue_Or_nil ?_
          refine iteF ?_
          refine wpAny_execs_nil ?_
          refine wpAny_execs_cons ?_
          refine Assign_Tuple ?_
          refine Subscript_ ?_
          refine Subscript_ ?_
          refine r_local (by assumption) (by assumption) ?_
          refine r_local (by assumption) rfl ?_
          refine r_lstItem (Nb.lst et9) (by (first | lia | omega)) (by (first | lia | omega)) (v := .ref a2) ?_ ?_
          · rw [← evt]; congr 1; (first | lia | omega)
          refine wpAny_Slice ?_
          refine r_partSome ?_
          refine r_int ?_; intro _ _
          refine r_partNone ?_
          refine r_partNone ?_
          refine r_tupFrom Nb (k := 1) ea2 (Nat.le_refl _) (by simp) fun b3 Bc hc Nc lec ec => ?_
          refine assign_Tuple_tuple (s := ⟨hc, g, d, _, os⟩) rd.handled (Nc.tup ec) rfl rfl fun hd hx => ?_
          have Nd := Nc.ext (h' := hd) fun b o e => hx b o (Nat.ne_of_lt (get_lt e)) e
          refine assignInOrder_cons (assign_Name ?_)
          refine r_store Nd fun he te Ne => ?_
          refine assignInOrder_cons (assign_Name ?_)
          refine r_store Ne fun hf tf Nf => assignInOrder_nil ?_
          obtain ⟨x', dx, es, n, hh, dh, hes, hn, hl', hq, gg, dg, ges, gn, gl, gq, hvs', gvs, ex, e2, e3, e4, e5, e6, e7, e8, e9, -⟩ := id (hv9.mono lec)
          cases ex
          refine wpAny_execs_cons ?_
          refine wpAny_Return_some ?_
          refine wpAny_IfExp ?_
          refine wpAny_isTrue_Compare1 ?_
          refine r_local (by assumption) rfl ?_
          refine Call_ ?_
          refine r_builtin (by assumption) (by assumption) (by assumption) (by exact OkV.b_len (by assumption)) (by boot_by_name) ?_
          refine r_callB ?_
          refine wpAny_items_cons ?_
          refine Attribute_any_ ?_
          refine MethodCall_ ?_
          refine r_local (by assumption) (by assumption) ?_
          refine r_meth1 (by assumption) (by assumption) (by assumption) (by assumption) (by assumption) (by exact OkV.m_vline (by assumption)) (by assumption) ?_
          refine r_callF (by assumption) (by assumption) (by assumption) (by exact OkV.f_vline (by assumption)) ?_
          refine wpAny_items_cons ?_
          refine r_local (by assumption) rfl ?_
          refine wpAny_items_nil ?_
          refine r_inK (by assumption) (by assumption) (by assumption) ?_
          refine c_vline W Z (Le.trans hH6 Nf.g.sub) Nf.g.keep (rd.less (by decide)) (hv9.mono lec) (by (first | lia | omega)) hl fun Bg hg tg y Gg hy => ?_
          have Ng := Nf.call Gg
          obtain ⟨x1, dx1, es1, n1, ca1, lvs, lq, rfl, ex1, ed1, gc, gw, ec1, hcs⟩ := hy
          have hln := hcs.1
          (refine r_attr1 (by assumption) (by assumption) (by assumption) (by assumption) (by assumption) (by exact OkV.a_cells (by assumption)) (by assumption) rfl ?_; intro _)
          refine wpAny_items_nil ?_
          refine r_len (Ng.lst ec1) (by (first | lia | omega)) fun u t' => ?_
          refine PySem.P.lt_int ?_
          refine wpAny_truthy_bool ?_
          rw [hln]
          refine PyProof.Rows.split_dec (fun h2 => ?_) (fun h2 => ?_)
          · rw [if_pos (by (first | lia | omega))] at efd
            refine Call_ ?_
            refine r_global (by assumption) (by assumption) (by assumption) (by exact OkV.g_send (by assumption)) ?_
            refine r_callF (by assumption) (by assumption) (by assumption) (by exact OkV.f_send (by assumption)) ?_
            refine wpAny_items_cons ?_
            refine r_local (by assumption) (by assumption) ?_
            refine wpAny_items_cons ?_
            refine Tuple_ ?_
            refine wpAny_items_cons ?_
            refine r_local (by assumption) rfl ?_
            refine wpAny_items_cons ?_
            refine r_local (by assumption) rfl ?_
            refine wpAny_items_nil ?_
            refine r_tuple Ng fun b4 Bh hh Nh leh eh => ?_
            refine wpAny_items_nil ?_
            refine r_inK (by assumption) (by assumption) (by assumption) ?_
            refine c_send W Z (Le.trans hH6 Nh.g.sub) Nh.g.keep (rd.less (by decide)) ((hv9.mono lec).mono (Le.trans Gg.sub leh)) (by (first | lia | omega)) hl (by (first | lia | omega)) (by (first | lia | omega)) h2 eh fun Bi hi ti ai u1 u2 Gi ei => ?_
            have Ni := Nh.call Gi
            refine k _ _ _ _ (O6.comp Ni).g ?_
            rw [efd]
            exact ⟨_, _, _, rfl, ei⟩
          · rw [if_neg (by (first | lia | omega))] at efd
            refine Tuple_ ?_
            refine wpAny_items_cons ?_
            refine r_local (by assumption) rfl ?_
            refine wpAny_items_cons ?_
            refine r_local (by assumption) rfl ?_
            refine wpAny_items_nil ?_
            refine r_tuple Ng fun b4 Bh hh Nh leh eh => ?_
            refine k _ _ _ _ (O6.comp Nh).g ?_
            rw [efd]
            exact ⟨_, _, _, rfl, eh⟩
    · refine wpAny_execs_nil ?_
      refine wpAny_execs_nil ?_
      refine ⟨_, _, _, _, _, rfl, N9, rfl, mv, mc, mp, mt, fun j hj y hy => ?_⟩
      rcases Nat.lt_succ_iff_lt_or_eq.mp hj with hj | rfl
      · exact hno j hj y hy
      · rw [List.getElem?_eq_getElem hil] at hy
        cases hy
        intro e
        apply hF
        rw [e]
  · obtain ⟨rfl, mv, mc, mp, mt, hno⟩ := inv
    refine wpAny_execs_cons ?_
    refine wpAny_Return_some ?_
    refine wpAny_Constant_none ?_
    refine k _ _ _ _ O6.g ?_
    have e : (toldD ls ls.length).findIdx? (fun x => x.2 == (row, col)) = none := by
      rw [List.findIdx?_eq_none_iff]
      intro y hy
      obtain ⟨j, hj, rfl⟩ := List.mem_iff_getElem.mp hy
      have := hno j (by rw [hvs.length]; exact hj) _ (List.getElem?_eq_getElem hj)
      simpa using this
    unfold foundD
    rw [e]
    rfl
end
end

section
open PySem PySem.W PySem.Calls PyProof.Rows PySem.SeqAt

section
variable {prog : Program} {w : World} {M : Model} {A : Around} {E : Value → Shared → Prop} {Q : Value → Shared → Prop} {QU : Unit → Shared → Prop} {R : Result → Shared → Prop} {env : Env}
variable {h₀ h h' h2 : Heap} {B₀ B B' B2 : Sto} {M₀ : List Addr} {L a b l x dx C D f : Addr} {own own' : Own} {m m' mc : Str → Option Value} {o o' oL oC : Obj}
variable {g : Array GenState} {d : Drawn} {t : Nat} {os : OsState} {n : Nat} {v : Value} {vs ws : List Value} {name : Str} {es : List DictEntry}
variable {K : Frag} {p : Program} {loose : List Str} {mg mb : Str → Option Value} {H : Heap}

/-- an object that a call left behind is taken over -/
theorem Ow.take {M : List Addr} (O : Ow h₀ B₀ M₀ L B own m h) (O' : Ow h₀ B₀ M₀ L B' own' m' h') (e : h'.get? a = some o) (hB : B' a = none) (hn : h.get? a = none) (ha : own'.map (·.1) = own.map (·.1)) : Ow h₀ B₀ M₀ L B' ((a, o) :: own') m' h' := by
  refine O'.adopt e hB (fun q => ?_) (fun p hp q => ?_) ?_
  · obtain ⟨oL, _, _, hL, _⟩ := O.ns
    rw [q, hL] at hn; cases hn
  · have : p.1 ∈ own.map (·.1) := ha ▸ List.mem_map_of_mem hp
    obtain ⟨p0, hp0, e0⟩ := List.mem_map.mp this
    have := (O.mn p0 hp0).1
    rw [e0, q, hn] at this; cases this
  · cases q : h₀.get? a with
    | none => rfl
    | some z => obtain ⟨o', e'⟩ := O.g.live _ _ q; rw [hn] at e'; cases e'
theorem Ow.perm (O : Ow h₀ B₀ M₀ L B own m h) (hp : own.Perm own') : Ow h₀ B₀ M₀ L B own' m h :=
  ⟨O.g, O.ns, O.offL, O.newL, fun p hq => O.mn p (hp.mem_iff.mpr hq), (hp.pairwise_iff fun q => Ne.symm q).mp O.nd⟩
theorem Ow.restAll : ∀ {xs : Own} {B : Sto}, Ow h₀ B₀ M₀ L B (xs ++ own) m h → (∀ p ∈ xs, p.1 ∉ M₀) → ∃ B', Ow h₀ B₀ M₀ L B' own m h ∧ Le B B' ∧ ∀ p ∈ xs, B' p.1 = some p.2
  | [], B, O, _ => ⟨B, O, Le.refl _, by simp⟩
  | (a, o) :: xs, B, O, hn => by
    obtain ⟨O1, le1, e1⟩ := Ow.rest (own := xs ++ own) O (hn (a, o) (.head _))
    obtain ⟨B', O2, le2, h2⟩ := Ow.restAll O1 fun p hp => hn p (.tail _ hp)
    refine ⟨B', O2, Le.trans le1 le2, fun p hp => ?_⟩
    rcases List.mem_cons.mp hp with rfl | hp
    · exact le2 _ _ e1
    · exact h2 p hp
/-- less is claimed of the heap -/
theorem Grow.less {h₀ : Heap} {B₀ : Sto} {M₀ : List Addr} {B B1 : Sto} {h : Heap} (G : Grow h₀ B₀ M₀ B h) (s : Le B₀ B1) (le : Le B1 B) : Grow h₀ B₀ M₀ B1 h :=
  ⟨fun a o e => G.keep a o (le a o e), G.old, s, fun a o e => G.new a o (le a o e), G.live⟩

/-! items and attributes are set -/
theorem r_setItem {k : Int} {u : Tok} {q : Nat} (O : Ow h₀ B₀ M₀ L B own m h) (i : Nat) (hi : own[i]? = some (a, lstO vs q)) (h0 : 0 ≤ k) (hk : k < vs.length) (hfit : vs.length < 2 ^ 62)
    (kk : ∀ h', Ow h₀ B₀ M₀ L B (own.set i (a, lstO (vs.set k.toNat v) q)) m h' → QU () ⟨h', g, d, t, os⟩) : wpAny (model prog w) A (setItem (.ref a) (.int k u) v) QU E ⟨h, g, d, t, os⟩ := by
  have ho := (O.mn _ (List.mem_of_getElem? hi)).1
  have hl : h.IsList a vs.toArray := O.mlst (List.mem_of_getElem? hi)
  unfold setItem
  try with_reducible refine wpAny_holding ?_
  first | refine wpAny_bind (wpAny_pure ?_) | skip
  refine wpAny_bind (wpAny_sequenceKey hl.typeIs (by decide) ?_)
  refine wpAny_bind (wpAny_callSpecial?_slot (name := Str.ofString "__setitem__") (Heap.IsList.typeIs (s := ⟨h, g, d, t, os⟩) hl) slot_list_setitem
    (wpAny_call_entry slot_list_setitem (Heap.IsList.typeIs (s := ⟨h, g, d, t, os⟩) hl) entry_list_setitem ?_ (args_list_setitem _ _ _)))
  show wpAny _ _ (Builtin.List.listSubscript? (.int k u) >>= _) _ _ _
  refine wpAny_bind (wpAny_listSubscript_int (fitsIndex_of h0 (by (first | lia | omega))) ?_)
  obtain ⟨j, rfl⟩ := Int.eq_ofNat_of_zero_le h0
  have hj : j < vs.toArray.size := by simpa using hk
  have hx' : vs.toArray[j]? = some vs.toArray[j] := Array.getElem?_eq_getElem hj
  show wpAny _ _ ((seqItemAt a j >>= fun r => pure (r.map (j, ·))) >>= _) _ _ _
  refine wpAny_bind (wpAny_bind (wpAny_seqItemAt ho rfl (wpAny_pure ?_)))
  rw [hx']
  show wpAny _ _ (setSeqItemAt a j v >>= _) _ _ _
  have fin := kk _ (O.turn i hi (o' := lstO (vs.set j v) q) (Heap.SameBut.update h a (Obj.mapSeq (·.setIfInBounds j v))) ((Heap.get?_update_self _ ho (by simp [Obj.mapSeq, Obj.isFreed])).trans (by simp [Obj.mapSeq])))
  refine wpAny_bind (wpAny_setSeqItemAt ho rfl ?_)
  first
    | exact wpAny_bind (wpAny_pure (wpAny_pure ⟨.none, rfl, wpAny_pure fin⟩))
    | exact wpAny_pure ⟨.none, rfl, wpAny_pure fin⟩

/-- an attribute of the object's own dict may be set -/
def SetOk (K : Frag) (C : Addr) (name : Str) : Prop := findIn K (.ref C) "__setattr__" = some (some (.builtin "object.__setattr__")) ∧ plainOver K C = true ∧ takerIn K C name = some none ∧ hasDictIn K C = true
theorem r_setAttr (O : Ow h₀ B₀ M₀ L B own m h) (W : Wd K p loose mg mb H) (hH : Le H.get? B₀) (hx : h.get? x = some (instObj C dx)) (i : Nat) (hi : own[i]? = some (dx, dictOf es n)) (F : SetOk K C name) (hl : (getL name es).isSome = true) (hz : es.length ≤ 900)
    (k : ∀ h' t', Ow h₀ B₀ M₀ L B (own.set i (dx, dictOf (putL name (PyData.keyHash w.params name) (.str name (t + 1)) v es) (putN name es n))) m h' → QU () ⟨h', g, d, t', os⟩) : wpAny (model prog w) A (setAttr (.ref x) name v) QU E ⟨h, g, d, t, os⟩ := by
  obtain ⟨hs, hp, ht, hh⟩ := F
  have X := O.inK W hH
  have hD := (O.mn _ (List.mem_of_getElem? hi)).1
  have I : InstAt h x (instObj C dx) C (some (dictOf es n)) := ⟨hx, rfl, rfl, hD⟩
  refine set_plain (s := ⟨h, g, d, t, os⟩) X I hs (osa_open (s := ⟨h, g, d, t + 1, os⟩) X I hp ht fun b => ?_)
  obtain ⟨cd, hc, hd'⟩ := any_some hh
  dsimp only
  refine wpAny_bind (wpAny_pure (wpAny_bind (wpAny_bind (wpAny_loadPart hx (wpAny_bind ((looks_clsIn X hc).here ?_))))))
  rw [hd']
  refine wpAny_pure (a := some dx) (wpAny_bind (wpAny_pure (wpAny_bind ?_)))
  unfold nsSet
  refine wpAny_bind (wpAny_bind (wpAny_askSetting (wpAny_pure (wpAny_bind (wpAny_mkText (wpAny_bind (wpAny_loadPart hD ?_)))))))
  dsimp only [dictOf]
  have c : (!es.toArray.any (·.key.isStr name) && es.toArray.any (·.refKey)) = false := by
    unfold getL at hl
    rw [← Array.any_toList, ← Array.any_toList]
    split at hl
    · rename_i en he
      rw [List.any_eq_true.mpr ⟨en, List.mem_of_find?_eq_some he, List.find?_some he⟩]; rfl
    · split at hl
      · cases hl
      · rename_i z; rw [Bool.not_eq_true] at z; rw [z, Bool.and_false]
  rw [aRefKeyMayBeTheName_at, c]
  refine wpAny_updatePart hD ?_
  have e1 : Obj.putName name (PyData.keyHash w.params name) (.str name (t + 1)) v (dictOf es n) = dictOf (putL name (PyData.keyHash w.params name) (.str name (t + 1)) v es) (putN name es n) := putName_dict ..
  have hlen : (putL name (PyData.keyHash w.params name) (.str name (t + 1)) v es).length ≤ es.length + 1 := by
    clear k hi hD I e1 c hl hz
    induction es with
    | nil => exact Nat.le_refl _
    | cons e r ih => unfold putL; split
                     · exact Nat.le_succ _
                     · exact Nat.succ_le_succ ih
  have gU := (Heap.get?_update_self (Obj.putName name (PyData.keyHash w.params name) (.str name (t + 1)) v) hD (by rw [e1]; rfl)).trans (congrArg some e1)
  refine wpAny_bind (wpAny_lookBehind gU (pastItsLine_dict (by rw [List.size_toArray, sizeLine_eq]; (first | lia | omega))) ?_)
  exact wpAny_pure (k _ _ (O.turn i hi (Heap.SameBut.update ..) gU))
end
end

section
open PySem PySem.W PySem.Calls PyProof.Rows PySem.SeqAt

section
variable {prog : Program} {w : World} {M : Model} {A : Around} {E : Value → Shared → Prop} {Q : Value → Shared → Prop} {QU : Unit → Shared → Prop} {R : Result → Shared → Prop} {env : Env}
variable {h₀ h h' h2 : Heap} {B₀ B B' B2 : Sto} {M₀ : List Addr} {L a b l x dx C D f dk : Addr} {own own' : Own} {m m' mc : Str → Option Value} {o o' oL oC oD : Obj}
variable {g : Array GenState} {d : Drawn} {t : Nat} {os : OsState} {n : Nat} {v : Value} {vs ws : List Value} {name : Str} {es : List DictEntry} {kvs : List (Str × Value)}
variable {K : Frag} {p : Program} {loose : List Str} {mg mb : Str → Option Value} {H : Heap}

/-! a def is entered, the call's outcome as it comes -/
theorem enterI {f : Addr} {qual : Str} {s : Stmt} {args : List Value} {binds : List (Str × Value)}
    (W : Wd K p loose mg mb H) (hH : Le H.get? B) (kp : Kp B h) (hown : ∀ p ∈ own, h.get? p.1 = some p.2 ∧ B p.1 = none) (nd : own.Pairwise fun p q => p.1 ≠ q.1)
    (hf : FnAt K f qual s) (hroom : A.depth < recursionLimit)
    (k : ∀ L h' t' cdv, Ow h B (own.map (·.1)) L B own (fun y => binds.reverse.lookup y) h' →
      wpAny (model prog w) (A.deeper (envOf qual (scpF s) L f cdv)) (execs (bodF s) (envOf qual (scpF s) L f cdv)) (fun fl s' => R (.ok (.ret (match fl with | .ret v => v | _ => .none))) s') (fun _ _ => False) ⟨h', g, d, t', os⟩)
    (hbind : ∀ name doc pm an cdv ct, bindArgs (fnOf name qual (prmF s) (bodF s) (scpF s) .none .none doc pm an cdv ct) ⟨args, []⟩ = pure binds := by intros; rfl) (hloc : ∀ y ∈ binds, (scpF s).names.lookup y.1 = some .local := by exact locs rfl)
    (hcell : ∀ x ∈ (scpF s).names, x.2 ≠ .cell := by decide) (hco : (scpF s).isCoroutine = false := by rfl) (hgen : (scpF s).isGenerator = false := by rfl) (hk : (scpF s).kind = .function := by rfl) :
    codeAny (model prog w) A (.call (.ref f) ⟨args, []⟩) R ⟨h, g, d, t, os⟩ := by
  obtain ⟨oc, od, osl, name, doc, pm, an, cdv, ct, ho, hcd⟩ := hf
  refine enter W hH kp hown nd ho hcd hroom (hbind _ _ _ _ _ _) hloc (fun L h' t' O => ?_) hcell hco hgen hk
  exact k L h' t' cdv O

/-- a class of the text is called -/
def MakeOk (K : Frag) (C fI : Addr) : Prop := makesIn K C = true ∧ findIn K (.ref C) "__init__" = some (some (.ref fI)) ∧ typeIn K (.ref fI) = some (.type "function")
theorem Grow.made (kp : Kp B h) {M : List Addr} (hM : ∀ b ∈ M, h.objs.size ≤ b) (G : Grow ((h.push emptyDict).push (instObj C h.objs.size)) (put B (h.objs.size + 1) (instObj C h.objs.size)) M B' h') : Grow h B [] B' h' := by
  have nothing : ∀ b, h.objs.size ≤ b → h.get? b = none := fun b hb => by
    cases q : h.get? b with
    | none => rfl
    | some z => exact absurd (get_lt q) (Nat.not_lt_of_le hb)
  have up : ∀ b o, h.get? b = some o → ((h.push emptyDict).push (instObj C h.objs.size)).get? b = some o := fun b o e => Heap.get?_push_of_some _ (Heap.get?_push_of_some _ e)
  refine ⟨G.keep, fun b o e _ => G.old b o (up b o e) fun q => ?_, fun b o e => G.sub b o ?_, fun b o e => ?_, fun b o e => G.live b o (up b o e)⟩
  · rw [nothing b (hM b q)] at e; cases e
  · unfold put
    rw [if_neg]
    · exact e
    · rintro rfl
      exact absurd (get_lt (kp _ _ e)) (Nat.not_lt_of_le (Nat.le_succ _))
  · rcases G.new b o e with q | q
    · unfold put at q
      split at q
      · rename_i z
        exact .inr (nothing b (z ▸ Nat.le_succ _))
      · exact .inl q
    · refine .inr ?_
      cases r : h.get? b with
      | none => rfl
      | some z => rw [up b z r] at q; cases q
theorem r_make {args : List Value} {fI : Addr} (W : Wd K p loose mg mb H) (hH : Le H.get? B) (kp : Kp B h) (F : MakeOk K C fI)
    (k : ∀ x dx h2, x = h.objs.size + 1 → dx = h.objs.size → h2 = (h.push emptyDict).push (instObj C dx) → Kp (put B x (instObj C dx)) h2 → Le B (put B x (instObj C dx)) → h2.get? dx = some emptyDict → put B x (instObj C dx) dx = none →
      codeAny (model prog w) (A.under (.builtin "type.__call__" ⟨.ref C :: args, []⟩)) (.call (.ref fI) ⟨.ref x :: args, []⟩) (InitBack x (fun r s' => match r with | .ok (.ret v) => Q v s' | .ok _ => False | .error e => E e s')) ⟨h2, g, d, t, os⟩) :
    wpAny (model prog w) A (call (.ref C) args) Q E ⟨h, g, d, t, os⟩ := by
  obtain ⟨hm, hi, hf⟩ := F
  have X : K.In h := fun b o e => kp b o (hH b o (W.X b o e))
  have noB : ∀ b, h.objs.size ≤ b → B b = none := fun b hb => by
    cases q : B b with
    | none => rfl
    | some z => exact absurd (get_lt (kp _ _ q)) (Nat.not_lt_of_le hb)
  refine wpAny_call (make_core (makes_of X hm) (looks_findIn X hi) (fun self => bind_fn X self hf) (.inl rfl) (k _ _ _ rfl rfl rfl (fun b o e => ?_) (fun b o e => ?_) ?_ ?_))
  · unfold put at e
    split at e
    · rename_i z
      cases e
      rw [z]
      have := Heap.get?_push_size (h.push emptyDict) (o := instObj C h.objs.size) rfl
      rwa [Heap.size_push] at this
    · exact Heap.get?_push_of_some _ (Heap.get?_push_of_some _ (kp _ _ e))
  · unfold put
    rw [if_neg]
    · exact e
    · rintro rfl
      exact absurd (get_lt (kp _ _ e)) (Nat.not_lt_of_le (Nat.le_succ _))
  · exact Heap.get?_push_of_some _ (Heap.get?_push_size _ rfl)
  · unfold put
    rw [if_neg (Nat.ne_of_lt (Nat.lt_succ_self _))]
    exact noB _ (Nat.le_refl _)

/-! a dict by strings -/
theorem r_dGet {value slice : Expr} {k : Str} {u : Tok} (O : Ow h₀ B₀ M₀ L B own m h) (hm : (dk, oD) ∈ own) (hd : oD.IsDictOf (strKind prog w) kvs) (hv : valueAt kvs k = some v) (kk : ∀ t', Q v ⟨h, g, d, t', os⟩)
    (hs : subscripted slice false (.ref dk) (.str k u) = operate [.ref dk, .str k u] (getItem (.ref dk) (.str k u)) := by with_unfolding_all rfl) :
    wpAny (model prog w) A (subscriptTail value slice (.ref dk) (.str k u)) Q E ⟨h, g, d, t, os⟩ := by
  have D : h.DictOf (strKind prog w) dk kvs := Heap.dictOf_iff.mpr ⟨oD, (O.mn _ hm).1, hd⟩
  exact tail_any (s := ⟨h, g, d, t, os⟩) (Heap.MapOf.typeIs D.mapOf) slot_dict_getitem.lookup (wpAny_getItem_of (s := ⟨h, g, d, t, os⟩) (strKind_is prog w k u) D.mapOf hv (kk _)) hs
theorem r_dSet {k : Str} {u : Tok} (O : Ow h₀ B₀ M₀ L B own m h) (i : Nat) (hi : own[i]? = some (dk, oD)) (hd : oD.IsDictOf (strKind prog w) kvs) (hsz : kvs.length ≤ 100)
    (kk : ∀ h' t' oD', oD'.IsDictOf (strKind prog w) (stored kvs k v) → Ow h₀ B₀ M₀ L B (own.set i (dk, oD')) m h' → QU () ⟨h', g, d, t', os⟩) : wpAny (model prog w) A (setItem (.ref dk) (.str k u) v) QU E ⟨h, g, d, t, os⟩ := by
  have D : h.DictOf (strKind prog w) dk kvs := Heap.dictOf_iff.mpr ⟨oD, (O.mn _ (List.mem_of_getElem? hi)).1, hd⟩
  refine wpAny_setItem_pairs (s := ⟨h, g, d, t, os⟩) (strKind_is prog w k u) D (fun h' D' hs => ?_) (by unfold sizeLine; (first | lia | omega))
  obtain ⟨oD', e', hd'⟩ := Heap.dictOf_iff.mp D'
  exact kk h' _ oD' hd' (O.turn i hi hs e')
/-- the display of a dict with two strings for keys -/
theorem r_dict2 {k1 k2 : Str} {c1 c2 : Nat} {p1 p2 pos : Pos} {e1 e2 : Expr} {v1 v2 : Value} (O : Ow h₀ B₀ M₀ L B own m h)
    (h1 : ∀ h' t', Ow h₀ B₀ M₀ L B ((h.objs.size, emptyDict) :: own) m h' → wpAny (model prog w) A (eval e1 env) (fun v s => v = v1 ∧ ∃ t', s = ⟨h', g, d, t', os⟩) E ⟨h', g, d, t', os⟩)
    (h2 : ∀ h' t', Ow h₀ B₀ M₀ L B ((h.objs.size, emptyDict) :: own) m h' → wpAny (model prog w) A (eval e2 env) (fun v s => v = v2 ∧ ∃ t', s = ⟨h', g, d, t', os⟩) E ⟨h', g, d, t', os⟩)
    (kk : ∀ dk h' t' oD', oD'.IsDictOf (strKind prog w) (stored (stored [] k1 v1) k2 v2) → Ow h₀ B₀ M₀ L B ((dk, oD') :: own) m h' → Q (.ref dk) ⟨h', g, d, t', os⟩) :
    wpAny (model prog w) A (eval (.Dict [some (.Constant (.str k1) c1 p1), some (.Constant (.str k2) c2 p2)] [e1, e2] pos) env) Q E ⟨h, g, d, t, os⟩ := by
  have O1 := O.mine (o := emptyDict) rfl
  refine wpAny_Dict_walk (knd := strKind prog w) (s := ⟨h, g, d, t, os⟩) rfl rfl (by simp) (by simp) (pairTrees_cons_walk ?_)
  refine r_str fun u t' => ?_
  refine wpAny_mono (h1 _ _ O1) (fun v s hv => ?_) fun _ _ e => e
  obtain ⟨rfl, t'', rfl⟩ := hv
  refine pairTrees_cons_walk ?_
  refine r_str fun u2 t' => ?_
  refine wpAny_mono (h2 _ _ O1) (fun v s hv => ?_) fun _ _ e => e
  obtain ⟨rfl, t''', rfl⟩ := hv
  refine pairTrees_nil_walk ⟨[(k1, _), (k2, _)], ⟨strKind_is prog w k1 u, rfl, strKind_is prog w k2 u2, rfl, trivial⟩, Heap.DictOf.new h, fun h' D' hs => ?_⟩
  obtain ⟨oD', e', hd'⟩ := Heap.dictOf_iff.mp D'
  exact kk _ h' _ oD' hd' (O1.turn 0 rfl hs e')

/-! copies -/
theorem mul0 {items : Array Value} {x : Int} {u : Tok} {q : Nat} (hl : h.get? a = some { cls := .type "list", dict := none, data := .seq items q, slots := #[] }) (hlo : -(2 ^ 63 : Int) ≤ x) (hhi : x < 2 ^ 63) (hsz : items.size * x.toNat ≤ 2 ^ 24)
    (kk : Q (.ref h.objs.size) ⟨h.push { cls := .type "list", data := .seq (List.foldl (fun x1 x2 => x1 ++ x2) #[] (List.replicate (if items.isEmpty = true then 0 else x.toNat) items)) }, g, d, t, os⟩) : wpAny (model prog w) A (binaryOp .Mult (.ref a) (.int x u)) Q E ⟨h, g, d, t, os⟩ :=
  wpAny_binaryOp_repeat_ref (s := ⟨h, g, d, t, os⟩) (T := "list") (U := "int") (by decide) ⟨_, hl, rfl⟩ (fun s' => typeIs_int s' x u) noFill_list_mul F.fills_int_mul F.slot_int_rmul repeat_list F.slot_int_index.lookup
    (call_meets F.slot_int_rmul (typeIs_int _ x u) F.entry_int_rmul (F.args_int_rmul_2 _ _) (int___rmul___int_list x u a items q)
      ⟨hl, rfl, ⟨_, hl, rfl⟩, call_meets F.slot_list_mul ⟨_, hl, rfl⟩ F.entry_list_mul (F.args_list_mul_2 _ _)
        (AutoListH.list___mul___list_int_3 a items q x u (by simp [Builtin.List.listFitsIndex]; (first | lia | omega)) (by (first | lia | omega)) (by simp [Builtin.List.listTooLong, sizeLine]; (first | lia | omega)))
        ⟨hl, kk⟩⟩)
theorem r_mulList {x : Nat} {u : Tok} {q : Nat} (hl : h.get? a = some (lstO [v] q)) (O : Ow h₀ B₀ M₀ L B own m h) (hx : x ≤ 1000)
    (kk : ∀ c h', Ow h₀ B₀ M₀ L B ((c, lstO (List.replicate x v) 0) :: own) m h' → Q (.ref c) ⟨h', g, d, t, os⟩) : wpAny (model prog w) A (binaryOp .Mult (.ref a) (.int x u)) Q E ⟨h, g, d, t, os⟩ := by
  have e : (List.foldl (fun x1 x2 => x1 ++ x2) #[] (List.replicate (if [v].toArray.isEmpty = true then 0 else (x : Int).toNat) [v].toArray) : Array Value) = (List.replicate x v).toArray := by
    have : ∀ (n : Nat) (acc : List Value), List.foldl (fun x1 x2 => x1 ++ x2) acc.toArray (List.replicate n #[v]) = (acc ++ List.replicate n v).toArray := by
      intro n
      induction n with
      | zero => intro acc; simp
      | succ n ih => intro acc; rw [List.replicate_succ, List.foldl_cons]; have := ih (acc ++ [v]); simp only [List.append_toArray] at this ⊢; rw [this]; simp [List.replicate_succ]
    simpa using this x []
  refine mul0 (items := [v].toArray) hl (by (first | lia | omega)) (by (first | lia | omega)) (by simp only [List.size_toArray, List.length_cons, List.length_nil]; (first | lia | omega)) ?_
  rw [e]
  exact kk _ _ (O.mine (o := lstO (List.replicate x v) 0) rfl)
theorem r_listOf {q : Nat} (hl : h.get? a = some (lstO vs q)) (O : Ow h₀ B₀ M₀ L B own m h) (hsz : vs.length ≤ sizeLine)
    (kk : ∀ c h' q', Ow h₀ B₀ M₀ L B ((c, lstO vs q') :: own) m h' → Q (.ref c) ⟨h', g, d, t, os⟩) : wpAny (model prog w) A (call (.type "list") [.ref a]) Q E ⟨h, g, d, t, os⟩ := by
  refine call_list_seq (s := ⟨h, g, d, t, os⟩) a (.inl rfl) hl rfl rfl (fun h' c' up e => ?_) (by simpa using hsz)
  have O1 := O.ext up
  refine kk _ _ c' (O1.adopt e O.B_size (Nat.ne_of_gt O.ltL) (fun p hp => Nat.ne_of_lt (get_lt (O.mn p hp).1)) O.g.fresh)
theorem r_tupleOf (ht : h.IsTuple a vs.toArray) (k : Q (.ref a) ⟨h, g, d, t, os⟩) : wpAny (model prog w) A (call (.type "tuple") [.ref a]) Q E ⟨h, g, d, t, os⟩ := call_tuple_same (s := ⟨h, g, d, t, os⟩) ht k
theorem r_max {i j : Int} {u1 u2 : Tok} (hh : A.handled = none) (O : Ow h₀ B₀ M₀ L B own m h) (k : ∀ u h' t', Ow h₀ B₀ M₀ L B own m h' → Q (.int (max i j) u) ⟨h', g, d, t', os⟩) : wpAny (model prog w) A (call (.builtin "max") [.int i u1, .int j u2]) Q E ⟨h, g, d, t, os⟩ := by
  refine PySem.Flt.max_two_num (s := ⟨h, g, d, t, os⟩) hh (.int _ _) (.int _ _) fun h' tk up => ?_
  have e : PySem.Flt.ltV (.int i u1) (.int j u2) = decide (i < j) := rfl
  rw [e]
  by_cases hij : i < j
  · rw [decide_eq_true hij, if_pos rfl, show j = max i j by (first | lia | omega)]
    exact k _ _ _ (O.ext up)
  · rw [decide_eq_false hij, if_neg Bool.false_ne_true, show i = max i j by (first | lia | omega)]
    exact k _ _ _ (O.ext up)
end
end

section
open PySem PySem.W PySem.Calls PyProof.Rows PySem.SeqAt

/-- what a dict of attributes holds -/
def Dct (es : List DictEntry) (fs : Str → Option Value) (k : Nat) : Prop := es.length ≤ k ∧ (∀ e ∈ es, e.refKey = false) ∧ ∀ name, getL name es = some (fs name)
theorem Dct.nil : Dct [] (fun _ => none) 0 := ⟨Nat.le_refl _, by simp, fun _ => rfl⟩
theorem isStr_self (x : Str) (t : Tok) : (Value.str x t).isStr x = true := by simp [Value.isStr]
theorem isStr_other {x y : Str} (t : Tok) (h : y ≠ x) : (Value.str x t).isStr y = false := by
  simp only [Value.isStr]
  exact beq_false_of_ne (Ne.symm h)
theorem getL_put {es : List DictEntry} {x : Str} {hsh : Int} {t : Tok} {v : Value} (hr : ∀ e ∈ es, e.refKey = false) : (∀ e ∈ putL x hsh (.str x t) v es, e.refKey = false) ∧ ∀ y, getL y (putL x hsh (.str x t) v es) = if y = x then some (some v) else getL y es := by
  have key : ∀ es : List DictEntry, (∀ e ∈ es, e.refKey = false) → ∀ y, getL y es = some ((es.find? (·.key.isStr y)).map (·.val)) := fun es hr y => by
    unfold getL
    cases h : es.find? (·.key.isStr y) with
    | some e => rfl
    | none =>
      have : es.any (·.refKey) = false := by
        rw [List.any_eq_false]; intro e he; simp [hr e he]
      simp [this]
  have hr' : ∀ es : List DictEntry, (∀ e ∈ es, e.refKey = false) → ∀ e ∈ putL x hsh (.str x t) v es, e.refKey = false := by
    intro es
    induction es with
    | nil => intro _ e he; simp only [putL, List.mem_singleton] at he; subst he; rfl
    | cons e r ih =>
      intro hr e' he
      unfold putL at he
      split at he
      · rcases List.mem_cons.mp he with rfl | he
        · exact hr e (.head _)
        · exact hr _ (.tail _ he)
      · rcases List.mem_cons.mp he with rfl | he
        · exact hr _ (.head _)
        · exact ih (fun e h => hr e (.tail _ h)) _ he
  refine ⟨hr' es hr, fun y => ?_⟩
  rw [key _ (hr' es hr), key _ hr]
  clear key hr'
  by_cases hy : y = x
  · subst hy
    rw [if_pos rfl]
    congr 1
    clear hr
    induction es with
    | nil => simp [putL, isStr_self]
    | cons e r ih =>
      unfold putL
      split
      · rename_i h; simp [h]
      · rename_i h; simp only [List.find?_cons, Bool.not_eq_true] at h ⊢; rw [h]; exact ih
  · rw [if_neg hy]
    congr 2
    clear hr
    induction es with
    | nil => simp [putL, isStr_other t hy]
    | cons e r ih =>
      unfold putL
      split
      · rename_i h
        have : e.key.isStr y = false := by
          cases hk : e.key with
          | str z tz =>
            rw [hk] at h
            simp only [Value.isStr, beq_iff_eq] at h ⊢
            subst h
            exact beq_false_of_ne (Ne.symm hy)
          | _ => rw [hk] at h; simp [Value.isStr] at h
        simp [List.find?_cons, this]
      · simp only [List.find?_cons, ih]
theorem putL_len (x : Str) (hsh : Int) (key v : Value) : ∀ es : List DictEntry, (putL x hsh key v es).length ≤ es.length + 1
  | [] => Nat.le_refl _
  | e :: r => by
    unfold putL
    split
    · exact Nat.le_succ _
    · exact Nat.succ_le_succ (putL_len x hsh key v r)
theorem Dct.put {es : List DictEntry} {fs : Str → Option Value} {k : Nat} (D : Dct es fs k) (x : Str) (hsh : Int) (t : Tok) (v : Value) : Dct (putL x hsh (.str x t) v es) (upd fs x v) (k + 1) := by
  refine ⟨Nat.le_trans (putL_len ..) (Nat.succ_le_succ D.1), (getL_put D.2.1).1, fun y => ?_⟩
  rw [(getL_put D.2.1).2]
  unfold upd
  split
  · rfl
  · exact D.2.2 y

/-- own objects that are lent to a call -/
def Lent (B : Sto) (h : Heap) (ow : Own) : Prop := (∀ p ∈ ow, h.get? p.1 = some p.2 ∧ B p.1 = none) ∧ ow.Pairwise fun p q => p.1 ≠ q.1
/-- how they come back -/
def Back (h : Heap) (B : Sto) (ow ow' : Own) (B' : Sto) (h' : Heap) : Prop := Grow h B (ow.map (·.1)) B' h' ∧ ow'.map (·.1) = ow.map (·.1) ∧ ∀ p ∈ ow', h'.get? p.1 = some p.2 ∧ B' p.1 = none
/-- an object that a call made and that may turn -/
def Made (h : Heap) (B' : Sto) (h' : Heap) (a : Addr) (o : Obj) : Prop := h.get? a = none ∧ h'.get? a = some o ∧ B' a = none

section
variable {h₀ h h' h2 : Heap} {B₀ B B' B2 : Sto} {M₀ : List Addr} {L a b : Addr} {own own' ow ow' rest : Own} {m m' : Str → Option Value} {o o' : Obj}
theorem Ow.lend (O : Ow h₀ B₀ M₀ L B own m h) (hp : own.Perm (ow ++ rest)) : Lent B h ow := by
  have O1 := O.perm hp
  exact ⟨fun p hp => ⟨(O1.mn p (List.mem_append_left _ hp)).1, (O1.mn p (List.mem_append_left _ hp)).2.2.1⟩, (List.pairwise_append.mp O1.nd).1⟩
theorem Ow.back (O : Ow h₀ B₀ M₀ L B own m h) (hp : own.Perm (ow ++ rest)) (F : Back h B ow ow' B' h') : Ow h₀ B₀ M₀ L B' (ow' ++ rest) m h' := by
  have O1 := O.perm hp
  refine O1.callM F.1 (fun b hb => ?_) (by rw [List.map_append, List.map_append, F.2.1]) fun p hp => ?_
  · obtain ⟨p, hp, e⟩ := List.mem_map.mp hb
    exact ⟨p, List.mem_append_left _ hp, e⟩
  · rcases List.mem_append.mp hp with hp | hp
    · exact .inr (F.2.2 p hp)
    · refine .inl ⟨List.mem_append_right _ hp, fun q => ?_⟩
      obtain ⟨p', hp', e⟩ := List.mem_map.mp q
      exact (List.pairwise_append.mp O1.nd).2.2 p' hp' p hp e
/-- what a call made is taken over -/
theorem Ow.takes (O : Ow h₀ B₀ M₀ L B own m h) (O' : Ow h₀ B₀ M₀ L B' own' m' h') (x : Made h B' h' a o) (ha : ∀ p ∈ own', (∃ q ∈ own, q.1 = p.1) ∨ p.1 ≠ a) : Ow h₀ B₀ M₀ L B' ((a, o) :: own') m' h' := by
  obtain ⟨hn, e, hB⟩ := x
  refine O'.adopt e hB (fun q => ?_) (fun p hp q => ?_) ?_
  · obtain ⟨oL, _, _, hL, _⟩ := O.ns
    rw [q, hL] at hn; cases hn
  · rcases ha p hp with ⟨p0, hp0, e0⟩ | z
    · have := (O.mn p0 hp0).1
      rw [e0, q, hn] at this; cases this
    · exact z q
  · cases q : h₀.get? a with
    | none => rfl
    | some z => obtain ⟨o', e'⟩ := O.g.live _ _ q; rw [hn] at e'; cases e'
/-- at a def's end: how the lent objects are handed back -/
theorem Ow.ends (O : Ow h B (ow.map (·.1)) L B' (ow' ++ rest) m h') (ha : ow'.map (·.1) = ow.map (·.1)) : Back h B ow ow' B' h' :=
  ⟨O.g, ha, fun p hp => ⟨(O.mn p (List.mem_append_left _ hp)).1, (O.mn p (List.mem_append_left _ hp)).2.2.1⟩⟩
theorem Ow.makes (O : Ow h B (ow.map (·.1)) L B' own' m h') (hm : (a, o) ∈ own') (hn : ∀ p ∈ ow, p.1 ≠ a) : Made h B' h' a o := by
  have z := O.mn _ hm
  refine ⟨?_, z.1, z.2.2.1⟩
  rcases z.2.2.2 with q | q
  · obtain ⟨p, hp, e⟩ := List.mem_map.mp q
    exact absurd e (hn p hp)
  · exact q
theorem Lent.nil : Lent B h [] := ⟨by simp, .nil⟩
end

structure Nb where
  eraspen : Addr
  blankc : Addr
  lblanks : Addr
  rhalf : Addr
  lpart : Addr
  linit : Addr
  mpart : Addr
  mput : Addr
  ginit : Addr
  gline : Addr
  hinit : Addr
  hpush : Addr
  vinit : Addr
  deck : Addr
  draw : Addr
  signs : Addr
  laid : Addr
  lcodes : Addr
  law : Addr
  plain : Addr
  sizes : Addr

/-- what the text's top has laid, as far as the building is asked -/
structure OkB (K : Frag) (N : Nm) (Y : Nb) : Prop where
  g_eraspen : nsIn K mainGlobals "erased_pen" = some (some (.ref Y.eraspen))
  f_eraspen : FnAt K Y.eraspen "erased_pen" (top 9)
  g_blankc : nsIn K mainGlobals "blank_cell" = some (some (.ref Y.blankc))
  f_blankc : FnAt K Y.blankc "blank_cell" (top 10)
  g_lblanks : nsIn K mainGlobals "line_blanks" = some (some (.ref Y.lblanks))
  f_lblanks : FnAt K Y.lblanks "line_blanks" (top 14)
  g_rhalf : nsIn K mainGlobals "right_half" = some (some (.ref Y.rhalf))
  f_rhalf : FnAt K Y.rhalf "right_half" (top 15)
  g_lpart : nsIn K mainGlobals "line_part" = some (some (.ref Y.lpart))
  f_lpart : FnAt K Y.lpart "line_part" (top 16)
  g_Line : nsIn K mainGlobals "Line" = some (some (.ref N.Line))
  g_View : nsIn K mainGlobals "View" = some (some (.ref N.View))
  g_Grid : nsIn K mainGlobals "Grid" = some (some (.ref N.Grid))
  g_History : nsIn K mainGlobals "History" = some (some (.ref N.History))
  k_Line : MakeOk K N.Line Y.linit
  k_View : MakeOk K N.View Y.vinit
  k_Grid : MakeOk K N.Grid Y.ginit
  k_History : MakeOk K N.History Y.hinit
  c_Line : keepIn K (.ref N.Line) = true
  c_View : keepIn K (.ref N.View) = true
  c_Grid : keepIn K (.ref N.Grid) = true
  c_History : keepIn K (.ref N.History) = true
  f_linit : FnAt K Y.linit "Line.__init__" (meth 19 0)
  f_mpart : FnAt K Y.mpart "Line.part" (meth 19 3)
  f_mput : FnAt K Y.mput "Line.put" (meth 19 4)
  f_vinit : FnAt K Y.vinit "View.__init__" (meth 22 0)
  f_ginit : FnAt K Y.ginit "Grid.__init__" (meth 30 0)
  f_gline : FnAt K Y.gline "Grid.line" (meth 30 1)
  f_hinit : FnAt K Y.hinit "History.__init__" (meth 32 0)
  f_hpush : FnAt K Y.hpush "History.push" (meth 32 2)
  m_mpart : MethOk K N.Line "part" Y.mpart
  m_mput : MethOk K N.Line "put" Y.mput
  m_gline : MethOk K N.Grid "line" Y.gline
  m_hpush : MethOk K N.History "push" Y.hpush
  s_cells : SetOk K N.Line "cells"
  s_wrapped : SetOk K N.Line "is_wrapped"
  s_size : SetOk K N.Line "size"
  s_rows : SetOk K N.Grid "rows"
  s_columns : SetOk K N.Grid "columns"
  s_glines : SetOk K N.Grid "lines"
  s_most : SetOk K N.History "most"
  s_hlines : SetOk K N.History "lines"
  s_gone : SetOk K N.History "gone"
  s_history : SetOk K N.View "history"
  s_grid : SetOk K N.View "grid"
  a_most : AttrOk K N.History "most"
  g_deck : nsIn K mainGlobals "_law_deck" = some (some (.ref Y.deck))
  f_deck : FnAt K Y.deck "_law_deck" (top 34)
  g_draw : nsIn K mainGlobals "_law_draw" = some (some (.ref Y.draw))
  f_draw : FnAt K Y.draw "_law_draw" (top 35)
  g_signs : nsIn K mainGlobals "_law_signs" = some (some (.ref Y.signs))
  f_signs : FnAt K Y.signs "_law_signs" (top 36)
  g_laid : nsIn K mainGlobals "_law_laid" = some (some (.ref Y.laid))
  f_laid : FnAt K Y.laid "_law_laid" (top 37)
  g_lcodes : nsIn K mainGlobals "_law_codes" = some (some (.ref Y.lcodes))
  f_lcodes : FnAt K Y.lcodes "_law_codes" (top 38)
  f_law : FnAt K Y.law "law" (top 39)
  b_max : nsIn K mainGlobals "max" = some none
  b_list : nsIn K mainGlobals "list" = some none
  b_tuple : nsIn K mainGlobals "tuple" = some none
  v_NOCOL : ∃ u, nsIn K mainGlobals "NO_COLOUR" = some (some (.int (-1) u))
  v_BACK : ∃ u, nsIn K mainGlobals "BACK" = some (some (.int 2 u))
  v_PLAIN : nsIn K mainGlobals "PLAIN" = some (some (.ref Y.plain))
  o_PLAIN : ∃ a b c d e, K.lookup Y.plain = some (tupO [a, b, c, d, e])
  v_SIZES : nsIn K mainGlobals "LINE_SIZES" = some (some (.ref Y.sizes))
  o_SIZES : ∃ a b c d u, K.lookup Y.sizes = some (tupO [.str a u, b, c, d])
section
variable {M : Model} {A : Around} {E : Value → Shared → Prop} {Q : Value → Shared → Prop} {env : Env}
variable {h₀ h : Heap} {B₀ B : Sto} {M₀ : List Addr} {L f : Addr} {own : Own} {m : Str → Option Value} {g : Array GenState} {d : Drawn} {t : Nat} {os : OsState}
variable {K : Frag} {p : Program} {loose : List Str} {mg mb : Str → Option Value} {H : Heap}
theorem r_callC {pos : Pos} {first : List Value} {e : Expr} {rest : List Expr} (W : Wd K p loose mg mb H) (hH : Le H.get? B₀) (O : Ow h₀ B₀ M₀ L B own m h) (hf : keepIn K (.ref f) = true)
    (k : wpAny M A (spliced (backTo pos (starEach (e :: rest) env))) (fun vs s₁ => K.In s₁.heap ∧ wpAny M A (call (.ref f) (first ++ vs)) Q E s₁) E ⟨h, g, d, t, os⟩)
    (he : starEach (e :: rest) env = (false, eval e env) :: starEach rest env := by rfl) (hplain : (backTo pos (starEach rest env)).any (·.1) = false := by rfl) :
    wpAny M A (callWith pos (.ref f) first (backTo pos (starEach (e :: rest) env)) []) Q E ⟨h, g, d, t, os⟩ := callWith_K (O.inK W hH) hf k he hplain
end
end

section
open PySem PySem.W PySem.Calls PyProof.Rows PySem.SeqAt

section
variable {prog : Program} {w : World} {A : Around} {E : Value → Shared → Prop} {Q : Value → Shared → Prop} {QU : Unit → Shared → Prop} {R : Result → Shared → Prop}
variable {h : Heap} {B : Sto} {g : Array GenState} {d : Drawn} {t : Nat} {os : OsState} {v : Value} {ow : Own}
variable {K : Frag} {N : Nm} {Y : Nb} {p : Program} {loose : List Str} {mg mb : Str → Option Value} {H : Heap}

/-- a pen is a tuple of five -/
def PenV (B : Sto) (a : Addr) : Prop := ∃ v0 v1 v2 v3 v4, B a = some (tupO [v0, v1, v2, v3, v4])
theorem PenV.mono {B B' : Sto} {a : Addr} (x : PenV B a) (le : Le B B') : PenV B' a := let ⟨a, b, c, d, e, f⟩ := x; ⟨a, b, c, d, e, le _ _ f⟩

set_option maxRecDepth 10000 in
theorem c_erased_pen (W : Wd K p loose mg mb H) (Z : OkB K N Y) (hH : Le H.get? B) (kp : Kp B h) (r : Room A 1) {pa : Addr} (hp : PenV B pa)
    (k : ∀ B' h' t' x, Grow h B [] B' h' → Q (.ref x) ⟨h', g, d, t', os⟩) : wpAny (model prog w) A (call (.ref Y.eraspen) [.ref pa]) Q E ⟨h, g, d, t, os⟩ := by
  refine enterF (own := []) (binds := [("pen", .ref pa)]) W hH kp (by simp) .nil Z.f_eraspen r.room fun L h1 t1 cdv O => ?_
  obtain ⟨v0, v1, v2, v3, v4, ea⟩ := hp
  obtain ⟨u1, e1⟩ := Z.v_NOCOL
  obtain ⟨u2, e2⟩ := Z.v_BACK
  refine wpAny_execs_cons ?_
  refine wpAny_Return_some ?_
  refine Tuple_ ?_
  refine wpAny_items_cons ?_
  refine r_int ?_; intro _ _
  refine wpAny_items_cons ?_
  refine r_global (by assumption) (by assumption) (by assumption) (by assumption) ?_
  refine wpAny_items_cons ?_
  refine Subscript_ ?_
  refine r_local (by assumption) rfl ?_
  refine r_global (by assumption) (by assumption) (by assumption) (by assumption) ?_
  refine r_tupItem (O.tup ea) rfl rfl ?_
  refine wpAny_items_cons ?_
  refine r_global (by assumption) (by assumption) (by assumption) (by assumption) ?_
  refine wpAny_items_cons ?_
  refine r_int ?_; intro _ _
  refine wpAny_items_nil ?_
  refine r_tuple O fun b B1 h2 O1 le1 e1 => ?_
  exact k _ _ _ _ O1.g

set_option maxRecDepth 10000 in
theorem c_blank_cell (W : Wd K p loose mg mb H) (Z : OkB K N Y) (hH : Le H.get? B) (kp : Kp B h) (r : Room A 2) {pa : Addr} (hp : PenV B pa)
    (k : ∀ B' h' t' x, Grow h B [] B' h' → CellV B' x ⟨[], 1⟩ → Q x ⟨h', g, d, t', os⟩) : wpAny (model prog w) A (call (.ref Y.blankc) [.ref pa]) Q E ⟨h, g, d, t, os⟩ := by
  refine enterF (own := []) (binds := [("pen", .ref pa)]) W hH kp (by simp) .nil Z.f_blankc r.room fun L h1 t1 cdv O => ?_
  have rd := r.deeper (env := envOf "blank_cell" (scpF (top 10)) L Y.blankc cdv)
  refine wpAny_execs_cons ?_
  refine wpAny_Return_some ?_
  refine Tuple_ ?_
  refine wpAny_items_cons ?_
  refine Tuple_ ?_
  refine wpAny_items_nil ?_
  refine r_tuple O fun b B1 h2 O1 le1 e1 => ?_
  refine wpAny_items_cons ?_
  refine r_int ?_; intro _ _
  refine wpAny_items_cons ?_
  refine Call_ ?_
  refine r_global (by assumption) (by assumption) (by assumption) (by exact OkB.g_eraspen (by assumption)) ?_
  refine r_callF (by assumption) (by assumption) (by assumption) (by exact OkB.f_eraspen (by assumption)) ?_
  refine wpAny_items_cons ?_
  refine r_local (by assumption) rfl ?_
  refine wpAny_items_nil ?_
  refine r_inK (by assumption) (by assumption) (by assumption) ?_
  refine c_erased_pen W Z (Le.trans hH O1.g.sub) O1.g.keep rd (hp.mono O1.g.sub) fun B2 h3 t3 x G => ?_
  have O2 := O1.call G
  refine wpAny_items_cons ?_
  refine wpAny_Constant_bool ?_
  refine wpAny_items_nil ?_
  refine r_tuple O2 fun b2 B3 h4 O3 le3 e3 => ?_
  exact k _ _ _ _ O3.g ⟨b2, b, _, _, _, rfl, e3, [], le3 _ _ (G.sub _ _ e1), .nil⟩

set_option maxRecDepth 10000 in
theorem c_line_blanks (W : Wd K p loose mg mb H) (Z : OkB K N Y) (hH : Le H.get? B) (kp : Kp B h) (r : Room A 3) {pa : Addr} (hp : PenV B pa) {n : Nat} {u : Tok} (hn : n ≤ 1000)
    (k : ∀ B' h' t' c x, Grow h B [] B' h' → CellV B' x ⟨[], 1⟩ → Made h B' h' c (lstO (List.replicate n x) 0) → Q (.ref c) ⟨h', g, d, t', os⟩) : wpAny (model prog w) A (call (.ref Y.lblanks) [.int n u, .ref pa]) Q E ⟨h, g, d, t, os⟩ := by
  refine enterF (own := []) (binds := [("many", .int n u), ("pen", .ref pa)]) W hH kp (by simp) .nil Z.f_lblanks r.room fun L h1 t1 cdv O => ?_
  have rd := r.deeper (env := envOf "line_blanks" (scpF (top 14)) L Y.lblanks cdv)
  refine wpAny_execs_cons ?_
  refine wpAny_Return_some ?_
  refine wpAny_BinOp ?_
  refine List_ ?_
  refine wpAny_items_cons ?_
  refine Call_ ?_
  refine r_global (by assumption) (by assumption) (by assumption) (by exact OkB.g_blankc (by assumption)) ?_
  refine r_callF (by assumption) (by assumption) (by assumption) (by exact OkB.f_blankc (by assumption)) ?_
  refine wpAny_items_cons ?_
  refine r_local (by assumption) rfl ?_
  refine wpAny_items_nil ?_
  refine r_inK (by assumption) (by assumption) (by assumption) ?_
  refine c_blank_cell W Z (Le.trans hH O.g.sub) O.g.keep rd (hp.mono O.g.sub) fun B2 h3 t3 x G hx => ?_
  have O2 := O.call G
  refine wpAny_items_nil ?_
  refine r_list O2 fun l h4 O4 => ?_
  refine Call_ ?_
  refine r_builtin (by assumption) (by assumption) (by assumption) (by exact OkB.b_max (by assumption)) (by boot_by_name) ?_
  refine r_callB ?_
  refine wpAny_items_cons ?_
  refine r_int ?_; intro _ _
  refine wpAny_items_cons ?_
  refine r_local (by assumption) rfl ?_
  refine wpAny_items_nil ?_
  refine r_max rd.handled O4 fun u5 h5 t5 O5 => ?_
  rw [show max (0 : Int) n = (n : Int) by (first | lia | omega)]
  refine r_mulList (O5.mn _ (.head _)).1 O5 hn fun c h6 O6 => ?_
  exact k _ _ _ _ _ O6.g hx (O6.makes (ow := []) (.head _) (by simp))

set_option maxRecDepth 10000 in
theorem c_right_half (W : Wd K p loose mg mb H) (Z : OkB K N Y) (hH : Le H.get? B) (kp : Kp B h) (r : Room A 1) {c : Cell} (hc : CellV B v c)
    (k : ∀ B' h' t' x, Grow h B [] B' h' → CellV B' x ⟨[], 0⟩ → Q x ⟨h', g, d, t', os⟩) : wpAny (model prog w) A (call (.ref Y.rhalf) [v]) Q E ⟨h, g, d, t, os⟩ := by
  refine enterF (own := []) (binds := [("cell", v)]) W hH kp (by simp) .nil Z.f_rhalf r.room fun L h1 t1 cdv O => ?_
  obtain ⟨a, ca, u, pv, bv, rfl, ea, vs, ec, ic⟩ := hc
  refine wpAny_execs_cons ?_
  refine wpAny_Return_some ?_
  refine Tuple_ ?_
  refine wpAny_items_cons ?_
  refine Tuple_ ?_
  refine wpAny_items_nil ?_
  refine r_tuple O fun b B1 h2 O1 le1 e1 => ?_
  refine wpAny_items_cons ?_
  refine r_int ?_; intro _ _
  refine wpAny_items_cons ?_
  refine Subscript_ ?_
  refine r_local (by assumption) rfl ?_
  refine r_int ?_; intro _ _
  refine r_tupItem (O1.tup (le1 _ _ ea)) rfl rfl ?_
  refine wpAny_items_cons ?_
  refine Subscript_ ?_
  refine r_local (by assumption) rfl ?_
  refine r_int ?_; intro _ _
  refine r_tupItem (O1.tup (le1 _ _ ea)) rfl rfl ?_
  refine wpAny_items_nil ?_
  refine r_tuple O1 fun b2 B3 h4 O3 le3 e3 => ?_
  exact k _ _ _ _ O3.g ⟨b2, b, _, _, _, rfl, e3, [], le3 _ _ e1, .nil⟩
end
end

section
open PySem PySem.W PySem.Calls PyProof.Rows PySem.SeqAt

section
variable {prog : Program} {w : World} {M : Model} {A : Around} {E : Value → Shared → Prop} {Q : Value → Shared → Prop} {QU : Unit → Shared → Prop} {R : Result → Shared → Prop}
variable {h₀ h : Heap} {B₀ B : Sto} {M₀ : List Addr} {L x dx C f : Addr} {m : Str → Option Value} {g : Array GenState} {d : Drawn} {t : Nat} {os : OsState} {v : Value} {own ow : Own} {es : List DictEntry} {n : Nat} {fs : Str → Option Value} {kk : Nat} {name : Str}
variable {K : Frag} {N : Nm} {Y : Nb} {p : Program} {loose : List Str} {mg mb : Str → Option Value} {H : Heap}
theorem r_attrO (W : Wd K p loose mg mb H) (hH : Le H.get? B₀) (O : Ow h₀ B₀ M₀ L B own m h) (hx : B₀ x = some (instObj C dx)) (hm : (dx, dictOf es n) ∈ own) (F : AttrOk K C name) (D : Dct es fs kk) (hl : fs name = some v) (hv : handedIn v = true) (k : ∀ t', Q v ⟨h, g, d, t', os⟩) :
    wpAny (model prog w) A (getAttr (.ref x) name true) Q E ⟨h, g, d, t, os⟩ := r_attr (O.inK W hH) (O.g.keep _ _ (O.g.sub _ _ hx)) (O.mn _ hm).1 F (by rw [D.2.2, hl]) hv k
theorem r_methO {pl : Sem Bool} {QM : Value × List Value → Shared → Prop} (W : Wd K p loose mg mb H) (hH : Le H.get? B₀) (O : Ow h₀ B₀ M₀ L B own m h) (hx : B₀ x = some (instObj C dx)) (hm : (dx, dictOf es n) ∈ own) (F : MethOk K C name f) (D : Dct es fs kk) (hl : fs name = none) (k : QM (.ref f, [.ref x]) ⟨h, g, d, t, os⟩) :
    wpAny (model prog w) A (getMethod (.ref x) name pl) QM E ⟨h, g, d, t, os⟩ := r_meth (O.inK W hH) (O.g.keep _ _ (O.g.sub _ _ hx)) (O.mn _ hm).1 F (by rw [D.2.2, hl]) k
end

/-- a Line that may turn -/
inductive LineOwn (N : Nm) (B : Sto) (x : Addr) (l : LineD) (ow : Own) : Prop
  | mk (dx : Addr) (es : List DictEntry) (n : Nat) (c : Addr) (vs : List Value) (q : Nat) (fs : Str → Option Value) (e1 : B x = some (instObj N.Line dx)) (e2 : ow = [(dx, dictOf es n), (c, lstO vs q)]) (e3 : Dct es fs 10) (e4 : fs "cells" = some (.ref c))
    (e5 : fs "is_wrapped" = some (.bool l.wrap)) (e6 : fs "part" = none) (e7 : fs "put" = none) (e8 : CellsV B vs l.cells) : LineOwn N B x l ow
theorem LineOwn.mono {N : Nm} {B B' : Sto} {x : Addr} {l : LineD} {ow : Own} (y : LineOwn N B x l ow) (le : Le B B') : LineOwn N B' x l ow := by
  obtain ⟨dx, es, n, c, vs, q, fs, e1, e2, e3, e4, e5, e6, e7, e8⟩ := y
  exact ⟨dx, es, n, c, vs, q, fs, le _ _ e1, e2, e3, e4, e5, e6, e7, e8.mono le⟩
theorem CellsV.set {B : Sto} {vs : List Value} {cs : List Cell} {v : Value} {c : Cell} (x : CellsV B vs cs) (i : Nat) (y : CellV B v c) : CellsV B (vs.set i v) (cs.set i c) := by
  refine ⟨by simp [x.1], fun j z e => ?_⟩
  rw [List.getElem?_set] at e ⊢
  split at e
  · rename_i h
    split at e
    · rename_i h2
      cases e
      rw [if_pos h, if_pos (by rw [x.1]; exact h2)]
      exact ⟨v, rfl, y⟩
    · cases e
  · rename_i h
    rw [if_neg h]
    exact x.2 j z e
def putD (cs : List Cell) (col : Nat) (c : Cell) : List Cell := if c.w = 2 then (cs.set col c).set (col + 1) ⟨[], 0⟩ else cs.set col c

section
variable {prog : Program} {w : World} {A : Around} {E : Value → Shared → Prop} {Q : Value → Shared → Prop} {QU : Unit → Shared → Prop} {R : Result → Shared → Prop}
variable {h : Heap} {B : Sto} {g : Array GenState} {d : Drawn} {t : Nat} {os : OsState} {v : Value} {ow : Own} {x : Addr} {l : LineD}
variable {K : Frag} {N : Nm} {Y : Nb} {p : Program} {loose : List Str} {mg mb : Str → Option Value} {H : Heap}

set_option maxRecDepth 10000 in
theorem c_line_part (W : Wd K p loose mg mb H) (Z : OkB K N Y) (Zv : OkV K N) (hH : Le H.get? B) (kp : Kp B h) (r : Room A 2) {ca : Addr} {vs : List Value} {q : Nat} {cs : List Cell} (hl : Lent B h [(ca, lstO vs q)]) (hc : CellsV B vs cs) {a : Nat} {u : Tok} (hz : cs.length ≤ 1000)
    (hw : ∀ c, cs[a]? = some c → c.w ≠ 0)
    (k : ∀ B' h' t', Back h B [(ca, lstO vs q)] [(ca, lstO vs q)] B' h' → Q .none ⟨h', g, d, t', os⟩) : wpAny (model prog w) A (call (.ref Y.lpart) [.ref ca, .int a u]) Q E ⟨h, g, d, t, os⟩ := by
  refine enterF (own := [(ca, lstO vs q)]) (binds := [("cells", .ref ca), ("at", .int a u)]) W hH kp hl.1 hl.2 Z.f_lpart r.room fun L h1 t1 cdv O => ?_
  have hln := hc.1
  refine wpAny_execs_cons ?_
  refine wpAny_If ?_
  refine wpAny_isTrue_BoolOp ?_
  refine wpAny_allTrue_And_cons ?_
  refine isTrue_chain ?_
  refine r_int ?_; intro _ _
  refine test_link ?_
  refine r_local (by assumption) rfl ?_
  refine PySem.P.lt_int ?_
  refine wpAny_truthy_bool ?_
  refine PyProof.Rows.split_dec (fun h0 => ?_) (fun h0 => ?_)
  · refine test_last ?_
    refine Call_ ?_
    refine r_builtin (by assumption) (by assumption) (by assumption) (by exact OkV.b_len (by assumption)) (by boot_by_name) ?_
    refine r_callB ?_
    refine wpAny_items_cons ?_
    refine r_local (by assumption) rfl ?_
    refine wpAny_items_nil ?_
    refine r_len (O.mlst (.head _)) (by (first | lia | omega)) fun u2 t2 => ?_
    refine PySem.P.lt_int ?_
    refine wpAny_truthy_bool ?_
    rw [hln]
    refine PyProof.Rows.split_dec (fun h2 => ?_) (fun h2 => ?_)
    · refine wpAny_allTrue_And_cons ?_
      refine wpAny_isTrue_Compare1 ?_
      refine Subscript_ ?_
      refine Subscript_ ?_
      refine r_local (by assumption) rfl ?_
      refine r_local (by assumption) rfl ?_
      have ha : a < cs.length := by (first | lia | omega)
      obtain ⟨v', ev, a', cc, u', pv, bv, rfl, ea, ic⟩ := hc.2 a _ (List.getElem?_eq_getElem ha)
      refine r_lstItem (O.mlst (.head _)) (by (first | lia | omega)) (by (first | lia | omega)) ev ?_
      refine r_int ?_; intro _ _
      refine r_tupItem (O.tup (O.g.sub _ _ ea)) rfl rfl ?_
      refine r_int ?_; intro _ _
      refine PySem.P.eq_int ?_
      refine wpAny_truthy_bool ?_
      have hne := hw _ (List.getElem?_eq_getElem ha)
      rw [show (cs[a].w == 0) = false by simpa using hne]
      refine iteF ?_
      refine iteF ?_
      refine wpAny_execs_nil ?_
      refine wpAny_execs_nil ?_
      exact k _ _ _ (O.ends (rest := []) rfl)
    · refine iteF ?_
      refine wpAny_execs_nil ?_
      refine wpAny_execs_nil ?_
      exact k _ _ _ (O.ends (rest := []) rfl)
  · refine iteF ?_
    refine iteF ?_
    refine wpAny_execs_nil ?_
    refine wpAny_execs_nil ?_
    exact k _ _ _ (O.ends (rest := []) rfl)

set_option maxRecDepth 10000 in
theorem c_part (W : Wd K p loose mg mb H) (Z : OkB K N Y) (Zv : OkV K N) (hH : Le H.get? B) (kp : Kp B h) (r : Room A 3) (hx : LineOwn N B x l ow) (hl : Lent B h ow) {a : Nat} {u : Tok} (hz : l.cells.length ≤ 1000)
    (hw : ∀ c, l.cells[a]? = some c → c.w ≠ 0)
    (k : ∀ B' h' t', Back h B ow ow B' h' → Q .none ⟨h', g, d, t', os⟩) : wpAny (model prog w) A (call (.ref Y.mpart) [.ref x, .int a u]) Q E ⟨h, g, d, t, os⟩ := by
  refine enterF (own := ow) (binds := [("self", .ref x), ("at", .int a u)]) W hH kp hl.1 hl.2 Z.f_mpart r.room fun L h1 t1 cdv O => ?_
  have rd := r.deeper (env := envOf "Line.part" (scpF (meth 19 3)) L Y.mpart cdv)
  obtain ⟨dx, es, n, c, vs, q, fs, e1, rfl, D, f1, f2, f3, f4, hcs⟩ := hx
  refine wpAny_execs_cons ?_
  refine wpAny_Expr_any ?_
  refine Call_ ?_
  refine r_global (by assumption) (by assumption) (by assumption) (by exact OkB.g_lpart (by assumption)) ?_
  refine r_callF (by assumption) (by assumption) (by assumption) (by exact OkB.f_lpart (by assumption)) ?_
  refine wpAny_items_cons ?_
  refine Attribute_any_ ?_
  refine r_local (by assumption) rfl ?_
  (refine r_attrO (by assumption) (by assumption) (by assumption) (by assumption) (by repeat (first | exact List.Mem.head _ | apply List.Mem.tail)) (by exact OkV.a_cells (by assumption)) (by assumption) (by assumption) rfl ?_; intro _)
  refine wpAny_items_cons ?_
  refine r_local (by assumption) rfl ?_
  refine wpAny_items_nil ?_
  refine r_inK (by assumption) (by assumption) (by assumption) ?_
  have P : [(dx, dictOf es n), (c, lstO vs q)].Perm ([(c, lstO vs q)] ++ [(dx, dictOf es n)]) := .swap _ _ _
  refine c_line_part W Z Zv (Le.trans hH O.g.sub) O.g.keep rd (O.lend P) (hcs.mono O.g.sub) hz hw fun B2 h2 t2 F => ?_
  have O2 := (O.back P F).perm (.swap (dx, dictOf es n) (c, lstO vs q) [])
  refine wpAny_execs_nil ?_
  exact k _ _ _ (O2.ends (rest := []) rfl)

set_option maxHeartbeats 1000000 in
set_option maxRecDepth 10000 in
theorem c_put (W : Wd K p loose mg mb H) (Z : OkB K N Y) (Zv : OkV K N) (hH : Le H.get? B) (kp : Kp B h) (r : Room A 4) (hx : LineOwn N B x l ow) (hl : Lent B h ow) {a : Nat} {u : Tok} (hz : l.cells.length ≤ 1000)
    {c : Cell} (hv : CellV B v c) (h12 : c.w = 1 ∨ c.w = 2) (hfit : (a : Int) + c.w ≤ l.cells.length)
    (hw : ∀ c, l.cells[a]? = some c → c.w ≠ 0) (hw2 : ∀ b : Nat, (b : Int) = a + c.w → ∀ c, l.cells[b]? = some c → c.w ≠ 0)
    (k : ∀ B' h' t' ow', Back h B ow ow' B' h' → LineOwn N B' x { l with cells := putD l.cells a c } ow' → Q .none ⟨h', g, d, t', os⟩) : wpAny (model prog w) A (call (.ref Y.mput) [.ref x, .int a u, v]) Q E ⟨h, g, d, t, os⟩ := by
  refine enterF (own := ow) (binds := [("self", .ref x), ("column", .int a u), ("cell", v)]) W hH kp hl.1 hl.2 Z.f_mput r.room fun L h1 t1 cdv O => ?_
  have rd := r.deeper (env := envOf "Line.put" (scpF (meth 19 4)) L Y.mput cdv)
  have hx0 := hx
  have hv0 := hv
  obtain ⟨dx, es, n, ca, vs, q, fs, e1, rfl, D, f1, f2, f3, f4, hcs⟩ := hx
  obtain ⟨ta, tca, tu, tpv, tbv, rfl, ea, tvs, ec, ic⟩ := hv
  have hln := hcs.1
  refine wpAny_execs_cons ?_
  refine wpAny_If ?_
  refine wpAny_isTrue_BoolOp ?_
  refine wpAny_allTrue_Or_cons ?_
  refine wpAny_isTrue_Not ?_
  refine isTrue_chain ?_
  refine r_int ?_; intro _ _
  refine test_link ?_
  refine r_local (by assumption) rfl ?_
  refine PySem.P.le_int ?_
  refine wpAny_truthy_bool ?_
  rw [show decide ((0 : Int) ≤ a) = true by simp]
  refine iteT ?_
  refine test_last ?_
  refine Call_ ?_
  refine r_builtin (by assumption) (by assumption) (by assumption) (by exact OkV.b_len (by assumption)) (by boot_by_name) ?_
  refine r_callB ?_
  refine wpAny_items_cons ?_
  refine Attribute_any_ ?_
  refine r_local (by assumption) rfl ?_
  (refine r_attrO (by assumption) (by assumption) (by assumption) (by assumption) (by repeat (first | exact List.Mem.head _ | apply List.Mem.tail)) (by exact OkV.a_cells (by assumption)) (by assumption) (by assumption) rfl ?_; intro _)
  refine wpAny_items_nil ?_
  refine r_len (O.mlst (.tail _ (.head _))) (by (first | lia | omega)) fun u2 t2 => ?_
  refine PySem.P.lt_int ?_
  refine wpAny_truthy_bool ?_
  rw [hln, show decide ((a : Int) < l.cells.length) = true by simp; (first | lia | omega)]
  refine iteF ?_
  refine wpAny_allTrue_Or_cons ?_
  refine wpAny_isTrue_Compare1 ?_
  refine Subscript_ ?_
  refine r_local (by assumption) rfl ?_
  refine r_int ?_; intro _ _
  refine r_tupItem (O.tup (O.g.sub _ _ ea)) rfl rfl ?_
  refine r_int ?_; intro _ _
  refine PySem.P.eq_int ?_
  refine wpAny_truthy_bool ?_
  rw [show (c.w == 0) = false by simp; (first | lia | omega)]
  refine iteF ?_
  refine wpAny_allTrue_Or_nil ?_
  refine iteF ?_
  refine wpAny_execs_nil ?_
  refine wpAny_execs_cons ?_
  refine wpAny_If ?_
  refine wpAny_isTrue_BoolOp ?_
  refine wpAny_allTrue_And_cons ?_
  refine wpAny_isTrue_Compare1 ?_
  refine Subscript_ ?_
  refine r_local (by assumption) rfl ?_
  refine r_int ?_; intro _ _
  refine r_tupItem (O.tup (O.g.sub _ _ ea)) rfl rfl ?_
  refine r_int ?_; intro _ _
  refine PySem.P.eq_int ?_
  refine wpAny_truthy_bool ?_
  rcases h12 with h12 | h12
  · rw [show (c.w == 2) = false by simp; (first | lia | omega)]
    refine iteF ?_
    refine iteF ?_
    refine wpAny_execs_nil ?_
    refine wpAny_execs_cons ?_
    refine wpAny_Expr_any ?_
    refine MethodCall_ ?_
    refine r_local (by assumption) rfl ?_
    refine r_methO (by assumption) (by assumption) (by assumption) (by assumption) (by repeat (first | exact List.Mem.head _ | apply List.Mem.tail)) (by exact OkB.m_mpart (by assumption)) (by assumption) (by assumption) ?_
    refine r_callF (by assumption) (by assumption) (by assumption) (by exact OkB.f_mpart (by assumption)) ?_
    refine wpAny_items_cons ?_
    refine r_local (by assumption) rfl ?_
    refine wpAny_items_nil ?_
    refine r_inK (by assumption) (by assumption) (by assumption) ?_
    refine c_part W Z Zv (Le.trans hH O.g.sub) O.g.keep rd (hx0.mono O.g.sub) (O.lend (rest := []) (.refl _)) hz hw fun B2 h2 t2 F2 => ?_
    have O2 : Ow _ _ _ _ B2 [(dx, dictOf es n), (ca, lstO vs q)] _ h2 := O.back (rest := []) (.refl _) F2
    refine wpAny_execs_cons ?_
    refine wpAny_Expr_any ?_
    refine MethodCall_ ?_
    refine r_local (by assumption) rfl ?_
    refine r_methO (by assumption) (by assumption) (by assumption) (by assumption) (by repeat (first | exact List.Mem.head _ | apply List.Mem.tail)) (by exact OkB.m_mpart (by assumption)) (by assumption) (by assumption) ?_
    refine r_callF (by assumption) (by assumption) (by assumption) (by exact OkB.f_mpart (by assumption)) ?_
    refine wpAny_items_cons ?_
    refine wpAny_BinOp ?_
    refine r_local (by assumption) rfl ?_
    refine Subscript_ ?_
    refine r_local (by assumption) rfl ?_
    refine r_int ?_; intro _ _
    refine r_tupItem (O2.tup (O2.g.sub _ _ ea)) rfl rfl ?_
    refine r_add ?_; intro _ _
    refine wpAny_items_nil ?_
    refine r_inK (by assumption) (by assumption) (by assumption) ?_
    rw [h12, show (a : Int) + 1 = ((a + 1 : Nat) : Int) by (first | lia | omega)]
    refine c_part W Z Zv (Le.trans hH O2.g.sub) O2.g.keep rd (hx0.mono O2.g.sub) (O2.lend (rest := []) (.refl _)) hz (hw2 _ (by (first | lia | omega))) fun B3 h3 t3 F3 => ?_
    have O3 : Ow _ _ _ _ B3 [(dx, dictOf es n), (ca, lstO vs q)] _ h3 := O2.back (rest := []) (.refl _) F3
    refine wpAny_execs_cons ?_
    refine wpAny_Assign_Subscript ?_
    refine r_local (by assumption) rfl ?_
    refine Attribute_any_ ?_
    refine r_local (by assumption) rfl ?_
    (refine r_attrO (by assumption) (by assumption) (by assumption) (by assumption) (by repeat (first | exact List.Mem.head _ | apply List.Mem.tail)) (by exact OkV.a_cells (by assumption)) (by assumption) (by assumption) rfl ?_; intro _)
    refine r_local (by assumption) rfl ?_
    refine r_setItem O3 1 rfl (by (first | lia | omega)) (by (first | lia | omega)) (by (first | lia | omega)) fun h4 O4 => ?_
    refine wpAny_execs_cons ?_
    refine wpAny_If ?_
    refine wpAny_isTrue_Compare1 ?_
    refine Subscript_ ?_
    refine r_local (by assumption) rfl ?_
    refine r_int ?_; intro _ _
    refine r_tupItem (O4.tup (O4.g.sub _ _ ea)) rfl rfl ?_
    refine r_int ?_; intro _ _
    refine PySem.P.eq_int ?_
    refine wpAny_truthy_bool ?_
    rw [show (c.w == 2) = false by simp; (first | lia | omega)]
    refine iteF ?_
    refine wpAny_execs_nil ?_
    refine wpAny_execs_nil ?_
    refine k _ _ _ _ (O4.ends (ow' := [(dx, dictOf es n), (ca, lstO (vs.set a (.ref ta)) q)]) (rest := []) rfl) ⟨dx, es, n, ca, _, _, fs, O4.g.sub _ _ e1, rfl, D, f1, f2, f3, f4, ?_⟩
    have e : putD l.cells a c = l.cells.set a c := by unfold putD; rw [if_neg (by (first | lia | omega))]
    rw [e]
    exact (hcs.mono O4.g.sub).set a (hv0.mono O4.g.sub)
  · rw [show (c.w == 2) = true by simp; (first | lia | omega)]
    refine iteT ?_
    refine wpAny_allTrue_And_cons ?_
    refine wpAny_isTrue_Compare1 ?_
    refine wpAny_BinOp ?_
    refine r_local (by assumption) rfl ?_
    refine r_int ?_; intro _ _
    refine r_add ?_; intro _ _
    refine Call_ ?_
    refine r_builtin (by assumption) (by assumption) (by assumption) (by exact OkV.b_len (by assumption)) (by boot_by_name) ?_
    refine r_callB ?_
    refine wpAny_items_cons ?_
    refine Attribute_any_ ?_
    refine r_local (by assumption) rfl ?_
    (refine r_attrO (by assumption) (by assumption) (by assumption) (by assumption) (by repeat (first | exact List.Mem.head _ | apply List.Mem.tail)) (by exact OkV.a_cells (by assumption)) (by assumption) (by assumption) rfl ?_; intro _)
    refine wpAny_items_nil ?_
    refine r_len (O.mlst (.tail _ (.head _))) (by (first | lia | omega)) fun u2 t2 => ?_
    refine PySem.P.eq_int ?_
    refine wpAny_truthy_bool ?_
    rw [hln, show (((a : Int) + 1) == (l.cells.length : Int)) = false by simp; (first | lia | omega)]
    refine iteF ?_
    refine iteF ?_
    refine wpAny_execs_nil ?_
    refine wpAny_execs_cons ?_
    refine wpAny_Expr_any ?_
    refine MethodCall_ ?_
    refine r_local (by assumption) rfl ?_
    refine r_methO (by assumption) (by assumption) (by assumption) (by assumption) (by repeat (first | exact List.Mem.head _ | apply List.Mem.tail)) (by exact OkB.m_mpart (by assumption)) (by assumption) (by assumption) ?_
    refine r_callF (by assumption) (by assumption) (by assumption) (by exact OkB.f_mpart (by assumption)) ?_
    refine wpAny_items_cons ?_
    refine r_local (by assumption) rfl ?_
    refine wpAny_items_nil ?_
    refine r_inK (by assumption) (by assumption) (by assumption) ?_
    refine c_part W Z Zv (Le.trans hH O.g.sub) O.g.keep rd (hx0.mono O.g.sub) (O.lend (rest := []) (.refl _)) hz hw fun B2 h2 t2 F2 => ?_
    have O2 : Ow _ _ _ _ B2 [(dx, dictOf es n), (ca, lstO vs q)] _ h2 := O.back (rest := []) (.refl _) F2
    refine wpAny_execs_cons ?_
    refine wpAny_Expr_any ?_
    refine MethodCall_ ?_
    refine r_local (by assumption) rfl ?_
    refine r_methO (by assumption) (by assumption) (by assumption) (by assumption) (by repeat (first | exact List.Mem.head _ | apply List.Mem.tail)) (by exact OkB.m_mpart (by assumption)) (by assumption) (by assumption) ?_
    refine r_callF (by assumption) (by assumption) (by assumption) (by exact OkB.f_mpart (by assumption)) ?_
    refine wpAny_items_cons ?_
    refine wpAny_BinOp ?_
    refine r_local (by assumption) rfl ?_
    refine Subscript_ ?_
    refine r_local (by assumption) rfl ?_
    refine r_int ?_; intro _ _
    refine r_tupItem (O2.tup (O2.g.sub _ _ ea)) rfl rfl ?_
    refine r_add ?_; intro _ _
    refine wpAny_items_nil ?_
    refine r_inK (by assumption) (by assumption) (by assumption) ?_
    rw [h12, show (a : Int) + 2 = ((a + 2 : Nat) : Int) by (first | lia | omega)]
    refine c_part W Z Zv (Le.trans hH O2.g.sub) O2.g.keep rd (hx0.mono O2.g.sub) (O2.lend (rest := []) (.refl _)) hz (hw2 _ (by (first | lia | omega))) fun B3 h3 t3 F3 => ?_
    have O3 : Ow _ _ _ _ B3 [(dx, dictOf es n), (ca, lstO vs q)] _ h3 := O2.back (rest := []) (.refl _) F3
    refine wpAny_execs_cons ?_
    refine wpAny_Assign_Subscript ?_
    refine r_local (by assumption) rfl ?_
    refine Attribute_any_ ?_
    refine r_local (by assumption) rfl ?_
    (refine r_attrO (by assumption) (by assumption) (by assumption) (by assumption) (by repeat (first | exact List.Mem.head _ | apply List.Mem.tail)) (by exact OkV.a_cells (by assumption)) (by assumption) (by assumption) rfl ?_; intro _)
    refine r_local (by assumption) rfl ?_
    refine r_setItem O3 1 rfl (by (first | lia | omega)) (by (first | lia | omega)) (by (first | lia | omega)) fun h4 O4 => ?_
    refine wpAny_execs_cons ?_
    refine wpAny_If ?_
    refine wpAny_isTrue_Compare1 ?_
    refine Subscript_ ?_
    refine r_local (by assumption) rfl ?_
    refine r_int ?_; intro _ _
    refine r_tupItem (O4.tup (O4.g.sub _ _ ea)) rfl rfl ?_
    refine r_int ?_; intro _ _
    refine PySem.P.eq_int ?_
    refine wpAny_truthy_bool ?_
    rw [show (c.w == 2) = true by simp; (first | lia | omega)]
    refine iteT ?_
    refine wpAny_execs_cons ?_
    refine wpAny_Assign_Subscript ?_
    refine Call_ ?_
    refine r_global (by assumption) (by assumption) (by assumption) (by exact OkB.g_rhalf (by assumption)) ?_
    refine r_callF (by assumption) (by assumption) (by assumption) (by exact OkB.f_rhalf (by assumption)) ?_
    refine wpAny_items_cons ?_
    refine r_local (by assumption) rfl ?_
    refine wpAny_items_nil ?_
    refine r_inK (by assumption) (by assumption) (by assumption) ?_
    refine c_right_half W Z (Le.trans hH O4.g.sub) O4.g.keep (rd.less (by decide)) (hv0.mono O4.g.sub) fun B5 h5 t5 y G5 hy => ?_
    have O5 := O4.call G5
    refine Attribute_any_ ?_
    refine r_local (by assumption) rfl ?_
    (refine r_attrO (by assumption) (by assumption) (by assumption) (by assumption) (by repeat (first | exact List.Mem.head _ | apply List.Mem.tail)) (by exact OkV.a_cells (by assumption)) (by assumption) (by assumption) rfl ?_; intro _)
    refine wpAny_BinOp ?_
    refine r_local (by assumption) rfl ?_
    refine r_int ?_; intro _ _
    refine r_add ?_; intro _ _
    refine r_setItem O5 1 rfl (by (first | lia | omega)) (by simp; (first | lia | omega)) (by simp; (first | lia | omega)) fun h6 O6 => ?_
    refine wpAny_execs_nil ?_
    refine wpAny_execs_nil ?_
    refine k _ _ _ _ (O6.ends (ow' := [(dx, dictOf es n), (ca, lstO ((vs.set a (.ref ta)).set (a + 1) y) q)]) (rest := []) rfl) ⟨dx, es, n, ca, _, _, fs, O6.g.sub _ _ e1, rfl, D, f1, f2, f3, f4, ?_⟩
    have e : putD l.cells a c = (l.cells.set a c).set (a + 1) ⟨[], 0⟩ := by unfold putD; rw [if_pos h12]
    rw [e]
    exact ((hcs.mono O6.g.sub).set a (hv0.mono O6.g.sub)).set (a + 1) hy
end
end

section
open PySem PySem.W PySem.Calls PyProof.Rows PySem.SeqAt

theorem Room.new {A : Around} {n : Nat} {C : Addr} {vals : List Value} {env : Env} (r : Room A (n + 2)) : Room ((A.under (.builtin "type.__call__" ⟨.ref C :: vals, []⟩)).deeper env) n := (Room.make (n := n + 1) r).deeper
theorem Ow.takeAll {h₀ h h' : Heap} {B₀ B B' : Sto} {M₀ : List Addr} {L : Addr} {own own' : Own} {m m' : Str → Option Value} (O : Ow h₀ B₀ M₀ L B own m h) : ∀ {ow : Own}, Ow h₀ B₀ M₀ L B' own' m' h' → (∀ p ∈ ow, Made h B' h' p.1 p.2) → ow.Pairwise (fun p q => p.1 ≠ q.1) → (∀ p ∈ own', ∃ q ∈ own, q.1 = p.1) → Ow h₀ B₀ M₀ L B' (ow ++ own') m' h'
  | [], O', _, _, _ => O'
  | (a, o) :: ow, O', hm, nd, hs => by
    have nd' := List.pairwise_cons.mp nd
    refine O.takes (Ow.takeAll O O' (fun p hp => hm p (.tail _ hp)) nd'.2 hs) (hm (a, o) (.head _)) fun p hp => ?_
    rcases List.mem_append.mp hp with hp | hp
    · exact .inr fun e => nd'.1 p hp e.symm
    · exact .inl (hs p hp)
theorem own_same {own : Own} : ∀ p ∈ own, ∃ q ∈ own, q.1 = p.1 := fun p hp => ⟨p, hp, rfl⟩
theorem own_part {own own' rest : Own} (hp : own.Perm (own' ++ rest)) : ∀ p ∈ rest, ∃ q ∈ own, q.1 = p.1 := fun p hq => ⟨p, hp.mem_iff.mpr (List.mem_append_right _ hq), rfl⟩

inductive LinesOwn (N : Nm) (B : Sto) : List Value → List LineD → Own → Prop
  | nil : LinesOwn N B [] [] []
  | cons {x l ow vs ls ows} : LineOwn N B x l ow → LinesOwn N B vs ls ows → LinesOwn N B (.ref x :: vs) (l :: ls) (ow ++ ows)
theorem LinesOwn.mono {N : Nm} {B B' : Sto} {vs : List Value} {ls : List LineD} {ows : Own} (y : LinesOwn N B vs ls ows) (le : Le B B') : LinesOwn N B' vs ls ows := by
  induction y with
  | nil => exact .nil
  | cons a _ ih => exact .cons (a.mono le) ih
theorem LinesOwn.length {N : Nm} {B : Sto} {vs : List Value} {ls : List LineD} {ows : Own} (y : LinesOwn N B vs ls ows) : vs.length = ls.length := by
  induction y with
  | nil => rfl
  | cons _ _ ih => simp [ih]
theorem LinesOwn.append {N : Nm} {B : Sto} {vs vs2 : List Value} {ls ls2 : List LineD} {ows ows2 : Own} (y : LinesOwn N B vs ls ows) (z : LinesOwn N B vs2 ls2 ows2) : LinesOwn N B (vs ++ vs2) (ls ++ ls2) (ows ++ ows2) := by
  induction y with
  | nil => exact z
  | cons a _ ih => rw [List.append_assoc]; exact .cons a ih
theorem LinesOwn.one {N : Nm} {B : Sto} {x : Addr} {l : LineD} {ow : Own} (y : LineOwn N B x l ow) : LinesOwn N B [.ref x] [l] ow := by
  have := LinesOwn.cons y .nil
  rwa [List.append_nil] at this
/-- one of them is taken out, turned, put back -/
theorem LinesOwn.at {N : Nm} {B : Sto} {vs : List Value} {ls : List LineD} {ows : Own} (y : LinesOwn N B vs ls ows) : ∀ (i : Nat) (l : LineD), ls[i]? = some l → ∃ x ow o1 o2, vs[i]? = some (.ref x) ∧ ows = o1 ++ (ow ++ o2) ∧ LineOwn N B x l ow ∧
    ∀ B' l' ow', Le B B' → LineOwn N B' x l' ow' → LinesOwn N B' vs (ls.set i l') (o1 ++ (ow' ++ o2)) := by
  induction y with
  | nil => intro i l h; simp at h
  | @cons x0 l0 ow0 vs ls ows a b ih =>
    intro i l h
    cases i with
    | zero =>
      simp at h; subst h
      exact ⟨x0, ow0, [], ows, rfl, rfl, a, fun B' l' ow' le z => by
        show LinesOwn N B' _ (l' :: ls) (ow' ++ ows)
        exact .cons z (b.mono le)⟩
    | succ i =>
      simp at h
      obtain ⟨x, ow, o1, o2, e1, rfl, e3, e4⟩ := ih i l h
      refine ⟨x, ow, ow0 ++ o1, o2, by simpa using e1, by simp, e3, fun B' l' ow' le z => ?_⟩
      rw [List.set_cons_succ, List.append_assoc]
      exact .cons (a.mono le) (e4 B' l' ow' le z)

section
variable {prog : Program} {w : World} {M : Model} {A : Around} {E : Value → Shared → Prop} {Q : Value → Shared → Prop} {QU : Unit → Shared → Prop} {R : Result → Shared → Prop} {env : Env}
variable {h₀ h : Heap} {B₀ B : Sto} {M₀ : List Addr} {L x dx C f fI : Addr} {m : Str → Option Value} {g : Array GenState} {d : Drawn} {t : Nat} {os : OsState} {v : Value} {own ow : Own} {es : List DictEntry} {n : Nat} {fs : Str → Option Value} {kk : Nat} {name : Str}
variable {K : Frag} {N : Nm} {Y : Nb} {p : Program} {loose : List Str} {mg mb : Str → Option Value} {H : Heap}

theorem r_setAttrD (W : Wd K p loose mg mb H) (hH : Le H.get? B₀) (O : Ow h₀ B₀ M₀ L B own m h) (hx : B₀ x = some (instObj C dx)) (i : Nat) (hi : own[i]? = some (dx, dictOf es n)) (F : SetOk K C name) (D : Dct es fs kk)
    (k : ∀ h' t' es' n', Dct es' (upd fs name v) (kk + 1) → Ow h₀ B₀ M₀ L B (own.set i (dx, dictOf es' n')) m h' → QU () ⟨h', g, d, t', os⟩) (hz : kk ≤ 900 := by decide) : wpAny (model prog w) A (setAttr (.ref x) name v) QU E ⟨h, g, d, t, os⟩ :=
  r_setAttr O W hH (O.g.keep _ _ (O.g.sub _ _ hx)) i hi F (by rw [D.2.2]; rfl) (Nat.le_trans D.1 hz) fun h' t' O' => k h' t' _ _ (D.put name _ _ v) O'

/-- a def of the text with cells is entered, the outcome as it comes -/
theorem enterCI {f : Addr} {qual : Str} {st : Stmt} {args : List Value} {binds : List (Str × Value)}
    (W : Wd K p loose mg mb H) (hH : Le H.get? B) (kp : Kp B h) (hown : ∀ p ∈ own, h.get? p.1 = some p.2 ∧ B p.1 = none) (nd : own.Pairwise fun p q => p.1 ≠ q.1)
    (hf : FnAt K f qual st) (hroom : A.depth < recursionLimit)
    (k : ∀ L h' t' cdv cown, CellsOwn (bindC (envC qual (scpF st) L f cdv).kindOf binds fun _ => none) (cellsFrom (L + 1) (scpF st).names []) cown →
      Ow h B (own.map (·.1)) L B (cown ++ own) (bindL (envC qual (scpF st) L f cdv).kindOf binds fun _ => none) h' →
      wpAny (model prog w) (A.deeper (envC qual (scpF st) L f cdv)) (execs (bodF st) (envC qual (scpF st) L f cdv)) (fun fl s' => R (.ok (.ret (match fl with | .ret v => v | _ => .none))) s') (fun _ _ => False) ⟨h', g, d, t', os⟩)
    (hbind : ∀ name doc pm an cdv ct, bindArgs (fnOf name qual (prmF st) (bodF st) (scpF st) .none .none doc pm an cdv ct) ⟨args, []⟩ = pure binds)
    (hkind : ∀ n, ∀ x ∈ binds, (scpF st).names.lookup x.1 = some .local ∨ ((scpF st).names.lookup x.1 = some .cell ∧ ((cellsFrom (n + 1) (scpF st).names []).lookup x.1).isSome = true))
    (hlk : ∀ n, ∀ p ∈ cellsFrom (n + 1) (scpF st).names [], (cellsFrom (n + 1) (scpF st).names []).lookup p.1 = some p.2)
    (hco : (scpF st).isCoroutine = false := by rfl) (hgen : (scpF st).isGenerator = false := by rfl) (hk : (scpF st).kind = .function := by rfl) :
    codeAny (model prog w) A (.call (.ref f) ⟨args, []⟩) R ⟨h, g, d, t, os⟩ := by
  obtain ⟨oc, od, osl, name, doc, pm, an, cdv, ct, ho, hcd⟩ := hf
  have top : ∀ b o, H.get? b = some o → h.get? b = some o := fun b o e => kp b o (hH b o e)
  have X : K.In h := fun b o e => top b o (W.X b o e)
  refine codeAny_call_cells (fd := fnOf name qual (prmF st) (bodF st) (scpF st) .none .none doc pm an cdv ct) (body := bodF st) (binds := binds) hroom (X _ _ ho) rfl (W.T.nolimit.keeps top) (codeRec_of X hcd) rfl (hbind _ _ _ _ _ _) rfl (hkind _) (fun s₁ x => ?_) hco hgen hk
  obtain ⟨⟨⟨h1, tk, rfl⟩, ns, keep, fresh⟩, cell, apart, above⟩ := x
  dsimp only at ns keep fresh cell
  have nothing : ∀ b, h.objs.size ≤ b → h.get? b = none := fun b hb => by
    cases q : h.get? b with
    | none => rfl
    | some z => exact absurd (get_lt q) (Nat.not_lt_of_le hb)
  have noB : ∀ b, h.objs.size ≤ b → B b = none := fun b hb => by
    cases q : B b with
    | none => rfl
    | some z => have := kp _ _ q; rw [nothing b hb] at this; cases this
  obtain ⟨cown, c1, c2, c3⟩ := cellsOwn_of (h := h1) (cm := bindC (callEnvC (fnOf name qual (prmF st) (bodF st) (scpF st) .none .none doc pm an cdv ct) h.objs.size f).kindOf binds fun _ => none) (cellsFrom (h.objs.size + 1) (scpF st).names []) (fun p hp => cell _ _ (hlk _ p hp))
  have cab : ∀ p ∈ cown, h.objs.size < p.1 := fun p hp => by
    have : p.1 ∈ (cellsFrom (h.objs.size + 1) (scpF st).names []).map (·.2) := c2 ▸ List.mem_map_of_mem hp
    obtain ⟨q, hq, e⟩ := List.mem_map.mp this
    rw [← e]
    exact above q.1 q.2 hq
  refine wpAny_mono (k h.objs.size h1 tk cdv cown c1 ⟨⟨fun b o e => keep b o (kp b o e), fun b o e _ => keep b o e, Le.refl _, fun _ _ e => .inl e, fun b o e => ⟨o, keep b o e⟩⟩, ns, noB _ (Nat.le_refl _), .inr (nothing _ (Nat.le_refl _)), fun p hp => ?_, ?_⟩) (fun _ _ z => z) fun _ _ z => z.elim
  · rcases List.mem_append.mp hp with hp | hp
    · exact ⟨c3 p hp, Nat.ne_of_gt (cab p hp), noB _ (Nat.le_of_lt (cab p hp)), .inr (nothing _ (Nat.le_of_lt (cab p hp)))⟩
    · exact ⟨keep _ _ (hown p hp).1, Nat.ne_of_lt (get_lt (hown p hp).1), (hown p hp).2, .inl (List.mem_map_of_mem hp)⟩
  · rw [List.pairwise_append]
    refine ⟨?_, nd, fun p hp q hq e => ?_⟩
    · have : (cown.map (·.1)).Pairwise (· ≠ ·) := by
        rw [c2]
        exact List.pairwise_map.mpr apart
      exact List.pairwise_map.mp this
    · have := cab p hp
      rw [e] at this
      exact absurd (get_lt (hown q hq).1) (Nat.not_lt_of_le (Nat.le_of_lt this))

/-- an object is made: what holds ahead of its __init__ -/
theorem r_new {args : List Value} (W : Wd K p loose mg mb H) (hH : Le H.get? B) (kp : Kp B h) (F : MakeOk K C fI)
    (k : ∀ x dx h2 B2, B2 x = some (instObj C dx) → Le B B2 → Kp B2 h2 → Lent B2 h2 [(dx, dictOf [] 0)] → (∀ B' h', Grow h2 B2 [dx] B' h' → Grow h B [] B' h') → (∀ b, h2.get? b = none → h.get? b = none) → h.get? dx = none →
      codeAny (model prog w) (A.under (.builtin "type.__call__" ⟨.ref C :: args, []⟩)) (.call (.ref fI) ⟨.ref x :: args, []⟩) (InitBack x (fun r s' => match r with | .ok (.ret v) => Q v s' | .ok _ => False | .error e => E e s')) ⟨h2, g, d, t, os⟩) :
    wpAny (model prog w) A (call (.ref C) args) Q E ⟨h, g, d, t, os⟩ := by
  refine r_make W hH kp F fun x dx h2 hx hdx hh2 kp2 le2 ed eB => ?_
  subst hx hdx hh2
  refine k _ _ _ _ (put_self ..) le2 kp2 ⟨fun p hp => ?_, by simp⟩ (fun B' h' G => G.made kp fun b hb => ?_) (fun b hb => ?_) ?_
  · rw [List.mem_singleton.mp hp]; exact ⟨ed, eB⟩
  · rw [List.mem_singleton.mp hb]; exact Nat.le_refl _
  · cases q : h.get? b with
    | none => rfl
    | some z => rw [Heap.get?_push_of_some _ (Heap.get?_push_of_some _ q)] at hb; cases hb
  · cases q : h.get? h.objs.size with
    | none => rfl
    | some z => exact absurd (get_lt q) (Nat.lt_irrefl _)
end

section
variable {prog : Program} {w : World} {A : Around} {E : Value → Shared → Prop} {Q : Value → Shared → Prop} {QU : Unit → Shared → Prop} {R : Result → Shared → Prop}
variable {h : Heap} {B : Sto} {g : Array GenState} {d : Drawn} {t : Nat} {os : OsState} {v : Value} {ow : Own} {x : Addr} {l : LineD}
variable {K : Frag} {N : Nm} {Y : Nb} {p : Program} {loose : List Str} {mg mb : Str → Option Value} {H : Heap}

theorem hH_plain (W : Wd K p loose mg mb H) (hH : Le H.get? B) {a : Addr} {o : Obj} (e : K.lookup a = some o) : B a = some o := hH _ _ (W.X _ _ e)

set_option maxHeartbeats 1000000 in
set_option maxRecDepth 10000 in
theorem c_mkLine (W : Wd K p loose mg mb H) (Z : OkB K N Y) (Zv : OkV K N) (hH : Le H.get? B) (kp : Kp B h) (r : Room A 5) {pa : Addr} (hp : PenV B pa) {n : Nat} {u : Tok} (hn : n ≤ 1000)
    (k : ∀ B' h' t' x ow, Grow h B [] B' h' → LineOwn N B' x ⟨List.replicate n ⟨[], 1⟩, false⟩ ow → (∀ p ∈ ow, Made h B' h' p.1 p.2) → ow.Pairwise (fun p q => p.1 ≠ q.1) → Q (.ref x) ⟨h', g, d, t', os⟩) :
    wpAny (model prog w) A (call (.ref N.Line) [.int n u, .ref pa]) Q E ⟨h, g, d, t, os⟩ := by
  refine r_new W hH kp Z.k_Line fun x dx h2 B2 ex le2 kp2 lt2 gr fr hdx => ?_
  have r' := Room.make (n := 4) (C := N.Line) (vals := [.int n u, .ref pa]) r
  refine enterI (own := [(dx, dictOf [] 0)]) (binds := [("self", .ref x), ("columns", .int n u), ("pen", .ref pa)]) W (Le.trans hH le2) kp2 lt2.1 lt2.2 Z.f_linit r'.room fun L h1 t1 cdv O => ?_
  have rd := r'.deeper (env := envOf "Line.__init__" (scpF (meth 19 0)) L Y.linit cdv)
  have hH2 := Le.trans hH le2
  refine wpAny_execs_cons ?_
  refine plainObj_wpAny_Assign_Attribute ?_
  refine Call_ ?_
  refine r_global (by assumption) (by assumption) (by assumption) (by exact OkB.g_lblanks (by assumption)) ?_
  refine r_callF (by assumption) (by assumption) (by assumption) (by exact OkB.f_lblanks (by assumption)) ?_
  refine wpAny_items_cons ?_
  refine r_local (by assumption) rfl ?_
  refine wpAny_items_cons ?_
  refine r_local (by assumption) rfl ?_
  refine wpAny_items_nil ?_
  refine r_inK (by assumption) (by assumption) (by assumption) ?_
  refine c_line_blanks W Z (Le.trans hH2 O.g.sub) O.g.keep rd (hp.mono (Le.trans le2 O.g.sub)) hn fun B3 h3 t3 c y G3 hy hm => ?_
  have O3 := O.takes (O.call G3) hm (fun p hp => .inl (own_same p hp))
  refine r_local (by assumption) rfl ?_
  refine r_setAttrD W hH2 O3 ex 1 rfl Z.s_cells Dct.nil fun h4 t4 es n4 D4 O4 => ?_
  refine wpAny_execs_cons ?_
  refine plainObj_wpAny_Assign_Attribute ?_
  refine wpAny_Constant_bool ?_
  refine r_local (by assumption) rfl ?_
  refine r_setAttrD W hH2 O4 ex 1 rfl Z.s_wrapped D4 fun h5 t5 es n5 D5 O5 => ?_
  obtain ⟨z0, z1, z2, z3, zu, zs⟩ := Z.o_SIZES
  have zs' := hH_plain W hH2 zs
  refine wpAny_execs_cons ?_
  refine plainObj_wpAny_Assign_Attribute ?_
  refine Subscript_ ?_
  refine r_global (by assumption) (by assumption) (by assumption) (by exact OkB.v_SIZES (by assumption)) ?_
  refine r_int ?_; intro _ _
  refine r_tupItem (O5.tup (O5.g.sub _ _ zs')) rfl rfl ?_
  refine r_local (by assumption) rfl ?_
  refine r_setAttrD W hH2 O5 ex 1 rfl Z.s_size D5 fun h6 t6 es n6 D6 O6 => ?_
  refine wpAny_execs_nil ?_
  have mdx := O6.mn (dx, dictOf es n6) (.tail _ (.head _))
  have hne := (List.pairwise_cons.mp O6.nd).1 _ (.head _)
  have mc := O6.makes (ow := [(dx, dictOf [] 0)]) (.head _) (fun p hp => by rw [List.mem_singleton.mp hp]; exact Ne.symm hne)
  refine ⟨rfl, k _ _ _ x [(dx, dictOf es n6), (c, lstO (List.replicate n y) 0)] (gr _ _ O6.g) ⟨dx, es, n6, c, _, _, _, O6.g.sub _ _ ex, rfl, ⟨Nat.le_trans D6.1 (by decide), D6.2⟩, rfl, rfl, rfl, rfl, ?_⟩ (fun p hp => ?_) (O6.nd.perm (.swap _ _ _) fun h => Ne.symm h)⟩
  · refine ⟨by simp, fun i z e => ⟨y, ?_, ?_⟩⟩
    · have := (List.getElem?_eq_some_iff.mp e).1
      simp only [List.length_replicate] at this
      rw [List.getElem?_replicate, if_pos this]
    · rw [List.getElem?_replicate] at e
      split at e
      · cases e; exact hy
      · cases e
  · rcases List.mem_cons.mp hp with rfl | hp
    · exact ⟨hdx, mdx.1, mdx.2.2.1⟩
    · rw [List.mem_singleton.mp hp]
      exact ⟨fr _ mc.1, mc.2⟩

/-- a History that may turn, no line in it -/
def HistOwn (N : Nm) (B : Sto) (x dx c : Addr) (es : List DictEntry) : Prop := ∃ fs u, B x = some (instObj N.History dx) ∧ Dct es fs 10 ∧ fs "most" = some (.int 5 u) ∧ fs "lines" = some (.ref c) ∧ fs "push" = none

set_option maxHeartbeats 1000000 in
set_option maxRecDepth 10000 in
theorem c_mkHist (W : Wd K p loose mg mb H) (Z : OkB K N Y) (Zv : OkV K N) (hH : Le H.get? B) (kp : Kp B h) (r : Room A 5) {u : Tok}
    (k : ∀ B' h' t' x dx c es n, Grow h B [] B' h' → HistOwn N B' x dx c es → (∀ p ∈ [(dx, dictOf es n), (c, lstO [] 0)], Made h B' h' p.1 p.2) → dx ≠ c → Q (.ref x) ⟨h', g, d, t', os⟩) :
    wpAny (model prog w) A (call (.ref N.History) [.int 5 u]) Q E ⟨h, g, d, t, os⟩ := by
  refine r_new W hH kp Z.k_History fun x dx h2 B2 ex le2 kp2 lt2 gr fr hdx => ?_
  have r' := Room.make (n := 4) (C := N.History) (vals := [.int 5 u]) r
  refine enterI (own := [(dx, dictOf [] 0)]) (binds := [("self", .ref x), ("most", .int 5 u)]) W (Le.trans hH le2) kp2 lt2.1 lt2.2 Z.f_hinit r'.room fun L h1 t1 cdv O => ?_
  have hH2 := Le.trans hH le2
  refine wpAny_execs_cons ?_
  refine plainObj_wpAny_Assign_Attribute ?_
  refine r_local (by assumption) rfl ?_
  refine r_local (by assumption) rfl ?_
  refine r_setAttrD W hH2 O ex 0 rfl Z.s_most Dct.nil fun h4 t4 es n4 D4 O4 => ?_
  refine wpAny_execs_cons ?_
  refine plainObj_wpAny_Assign_Attribute ?_
  refine List_ ?_
  refine wpAny_items_nil ?_
  refine r_list O4 fun c h5 O5 => ?_
  refine r_local (by assumption) rfl ?_
  refine r_setAttrD W hH2 O5 ex 1 rfl Z.s_hlines D4 fun h5 t5 es n5 D5 O5 => ?_
  refine wpAny_execs_cons ?_
  refine plainObj_wpAny_Assign_Attribute ?_
  refine r_int ?_; intro _ _
  refine r_local (by assumption) rfl ?_
  refine r_setAttrD W hH2 O5 ex 1 rfl Z.s_gone D5 fun h6 t6 es n6 D6 O6 => ?_
  refine wpAny_execs_nil ?_
  have mdx := O6.mn (dx, dictOf es n6) (.tail _ (.head _))
  have hne := (List.pairwise_cons.mp O6.nd).1 _ (.head _)
  have mc := O6.makes (ow := [(dx, dictOf [] 0)]) (.head _) (fun p hp => by rw [List.mem_singleton.mp hp]; exact Ne.symm hne)
  refine ⟨rfl, k _ _ _ x dx c es n6 (gr _ _ O6.g) ⟨_, u, O6.g.sub _ _ ex, ⟨Nat.le_trans D6.1 (by decide), D6.2⟩, rfl, rfl, rfl⟩ (fun p hp => ?_) (Ne.symm hne)⟩
  rcases List.mem_cons.mp hp with rfl | hp
  · exact ⟨hdx, mdx.1, mdx.2.2.1⟩
  · rw [List.mem_singleton.mp hp]
    exact ⟨fr _ mc.1, mc.2⟩
end
end

section
open PySem PySem.W PySem.Calls PyProof.Rows PySem.SeqAt

def blankLine (m : Nat) : LineD := ⟨List.replicate m ⟨[], 1⟩, false⟩
/-- a Grid whose list of lines is gl -/
def GridOwn (N : Nm) (B : Sto) (x dx gl : Addr) (es : List DictEntry) : Prop := ∃ fs, B x = some (instObj N.Grid dx) ∧ Dct es fs 10 ∧ fs "lines" = some (.ref gl) ∧ fs "line" = none
theorem GridOwn.mono {N : Nm} {B B' : Sto} {x dx gl : Addr} {es : List DictEntry} (y : GridOwn N B x dx gl es) (le : Le B B') : GridOwn N B' x dx gl es := let ⟨fs, a, b⟩ := y; ⟨fs, le _ _ a, b⟩
theorem HistOwn.mono {N : Nm} {B B' : Sto} {x dx gl : Addr} {es : List DictEntry} (y : HistOwn N B x dx gl es) (le : Le B B') : HistOwn N B' x dx gl es := let ⟨fs, u, a, b⟩ := y; ⟨fs, u, le _ _ a, b⟩

section
variable {prog : Program} {w : World} {A : Around} {E : Value → Shared → Prop} {Q : Value → Shared → Prop} {QU : Unit → Shared → Prop} {R : Result → Shared → Prop}
variable {h : Heap} {B : Sto} {g : Array GenState} {d : Drawn} {t : Nat} {os : OsState} {v : Value} {ow : Own} {x : Addr} {l : LineD}
variable {K : Frag} {N : Nm} {Y : Nb} {p : Program} {loose : List Str} {mg mb : Str → Option Value} {H : Heap}

theorem penV_plain (W : Wd K p loose mg mb H) (Z : OkB K N Y) (hH : Le H.get? B) : PenV B Y.plain := by
  obtain ⟨a, b, c, d, e, x⟩ := Z.o_PLAIN
  exact ⟨a, b, c, d, e, hH_plain W hH x⟩

set_option maxHeartbeats 1000000 in
set_option maxRecDepth 10000 in
theorem c_mkGrid (W : Wd K p loose mg mb H) (Z : OkB K N Y) (Zv : OkV K N) (hH : Le H.get? B) (kp : Kp B h) (r : Room A 7) {n m : Nat} {u u2 : Tok} (hn : 1 ≤ n) (hn2 : n ≤ 1000) (hm : 1 ≤ m) (hm2 : m ≤ 1000)
    (k : ∀ B' h' t' x dx gl es ne gvs q ows, Grow h B [] B' h' → GridOwn N B' x dx gl es → LinesOwn N B' gvs (List.replicate n (blankLine m)) ows →
      (∀ p ∈ (dx, dictOf es ne) :: (gl, lstO gvs q) :: ows, Made h B' h' p.1 p.2) → ((dx, dictOf es ne) :: (gl, lstO gvs q) :: ows).Pairwise (fun p q => p.1 ≠ q.1) → Q (.ref x) ⟨h', g, d, t', os⟩) :
    wpAny (model prog w) A (call (.ref N.Grid) [.int n u, .int m u2]) Q E ⟨h, g, d, t, os⟩ := by
  refine r_new W hH kp Z.k_Grid fun x dx h2 B2 ex le2 kp2 lt2 gr fr hdx => ?_
  have r' := Room.make (n := 6) (C := N.Grid) (vals := [.int n u, .int m u2]) r
  have hH2 := Le.trans hH le2
  refine enterCI (own := [(dx, dictOf [] 0)]) (binds := [("self", .ref x), ("rows", .int n u), ("columns", .int m u2)]) W hH2 kp2 lt2.1 lt2.2 Z.f_ginit r'.room (fun L h1 t1 cdv cown hco O => ?_) (by intros; rfl) (hkind := ?_) (hlk := ?_)
  · have rd := r'.deeper (env := envC "Grid.__init__" (scpF (meth 30 0)) L Y.ginit cdv)
    obtain ⟨oc, _, rfl, dc, rfl⟩ := hco
    refine wpAny_execs_cons ?_
    refine wpAny_If ?_
    refine wpAny_isTrue_BoolOp ?_
    refine wpAny_allTrue_Or_cons ?_
    refine wpAny_isTrue_Compare1 ?_
    refine r_local (by assumption) rfl ?_
    refine r_int ?_; intro _ _
    refine PySem.P.lt_int ?_
    refine wpAny_truthy_bool ?_
    rw [show decide ((n : Int) < 1) = false by simp; (first | lia | omega)]
    refine iteF ?_
    refine wpAny_allTrue_Or_cons ?_
    refine wpAny_isTrue_Compare1 ?_
    refine r_cell (by assumption) rfl (by repeat (first | exact List.Mem.head _ | apply List.Mem.tail)) (by assumption) ?_
    refine r_int ?_; intro _ _
    refine PySem.P.lt_int ?_
    refine wpAny_truthy_bool ?_
    rw [show decide ((m : Int) < 1) = false by simp; (first | lia | omega)]
    refine iteF ?_
    refine wpAny_allTrue_Or_nil ?_
    refine iteF ?_
    refine wpAny_execs_nil ?_
    refine wpAny_execs_cons ?_
    refine plainObj_wpAny_Assign_Attribute ?_
    refine r_local (by assumption) rfl ?_
    refine r_local (by assumption) rfl ?_
    refine r_setAttrD W hH2 O ex 1 rfl Z.s_rows Dct.nil fun h4 t4 es n4 D4 O4 => ?_
    refine wpAny_execs_cons ?_
    refine plainObj_wpAny_Assign_Attribute ?_
    refine r_cell (by assumption) rfl (by repeat (first | exact List.Mem.head _ | apply List.Mem.tail)) (by assumption) ?_
    refine r_local (by assumption) rfl ?_
    refine r_setAttrD W hH2 O4 ex 1 rfl Z.s_columns D4 fun h5 t5 es n5 D5 O5 => ?_
    refine wpAny_execs_cons ?_
    refine plainObj_wpAny_Assign_Attribute ?_
    refine r_comp ?_
    refine Call_ ?_
    refine r_builtin (by assumption) (by assumption) (by assumption) (by exact OkV.b_range (by assumption)) (by boot_by_name) ?_
    refine r_callT ?_
    refine wpAny_items_cons ?_
    refine r_local (by assumption) rfl ?_
    refine wpAny_items_nil ?_
    refine r_range rd.handled O5 (by (first | lia | omega)) fun I h6 t6 O6 S6 => ?_
    have hpl := penV_plain W Z (Le.trans hH2 O6.g.sub)
    refine comp_name S6 O6 rfl (fun j xs B' own' => ∃ ows, LinesOwn N B' xs (List.replicate j (blankLine m)) ows ∧ own' = (L + 1, oc) :: (dx, dictOf es n5) :: ows) ⟨[], .nil, rfl⟩ ?_ ?_ (by unfold sizeLine; (first | lia | omega)) (hh := rd.handled)
    · intro j v xs B' own' C D oL q mc h' h1 t' E' hj hv hxs inv le hL kp' O7
      obtain ⟨ows, hls, rfl⟩ := inv
      obtain ⟨uv, rfl⟩ := hv
      have hH7 := Le.trans (Le.trans hH2 O6.g.sub) le
      refine Call_ ?_
      refine r_global (by assumption) (by assumption) (by assumption) (by exact OkB.g_Line (by assumption)) ?_
      refine r_callC (by assumption) (by assumption) (by assumption) (by exact OkB.c_Line (by assumption)) ?_
      refine wpAny_items_cons ?_
      refine r_cell (by assumption) rfl (by repeat (first | exact List.Mem.head _ | apply List.Mem.tail)) (by assumption) ?_
      refine wpAny_items_cons ?_
      refine r_global (by assumption) (by assumption) (by assumption) (by exact OkB.v_PLAIN (by assumption)) ?_
      refine wpAny_items_nil ?_
      refine r_inK (by assumption) (by assumption) (by assumption) ?_
      refine c_mkLine W Z Zv (Le.trans hH7 O7.g.sub) O7.g.keep rd ((hpl.mono le).mono O7.g.sub) hm2 fun B8 h8 t8 y ow G8 hy hmk hnd => ?_
      have O8 := O7.takeAll (O7.call G8) hmk hnd own_same
      have P : (ow ++ ((L, oL) :: (D, lstO xs q) :: (L + 1, oc) :: (dx, dictOf es n5) :: ows)).Perm ((L, oL) :: (D, lstO xs q) :: (L + 1, oc) :: (dx, dictOf es n5) :: (ows ++ ow)) :=
        List.perm_append_comm (l₁ := ow) (l₂ := (L, oL) :: (D, lstO xs q) :: (L + 1, oc) :: (dx, dictOf es n5) :: ows)
      refine ⟨B8, _, _, h8, _, rfl, O8.perm P, ows ++ ow, ?_, rfl⟩
      rw [List.replicate_succ']
      exact (hls.mono (Le.trans O7.g.sub G8.sub)).append (.one hy)
    · intro xs B' own' D q hxs inv le
      obtain ⟨ows, hls, rfl⟩ := inv
      intro h' t' O9
      refine r_local (by assumption) rfl ?_
      refine r_setAttrD W hH2 O9 ex 2 rfl Z.s_glines D5 fun h10 t10 es' n10 D10 O10 => ?_
      refine wpAny_execs_nil ?_
      have P : ([(D, lstO xs q), (L + 1, oc), (dx, dictOf es' n10)] ++ ows).Perm ((L + 1, oc) :: (dx, dictOf es' n10) :: (D, lstO xs q) :: ows) :=
        (List.perm_append_right_iff _).mpr ((List.Perm.swap _ _ _).trans ((List.Perm.swap _ _ _).cons _))
      have O11 := O10.perm P
      have nd := (List.pairwise_cons.mp O11.nd).2
      have mdx := O11.mn (dx, dictOf es' n10) (.tail _ (.head _))
      refine ⟨rfl, k _ _ _ x dx D es' n10 xs q ows (gr _ _ O11.g) ⟨_, O11.g.sub _ _ ex, ⟨Nat.le_trans D10.1 (by decide), D10.2⟩, rfl, rfl⟩ hls (fun p hp => ?_) nd⟩
      rcases List.mem_cons.mp hp with rfl | hp
      · exact ⟨hdx, mdx.1, mdx.2.2.1⟩
      · have mc := O11.makes (ow := [(dx, dictOf [] 0)]) (a := p.1) (o := p.2) (.tail _ (.tail _ hp)) (fun p' hp' => by
          rw [List.mem_singleton.mp hp']
          exact (List.pairwise_cons.mp nd).1 p hp)
        exact ⟨fr _ mc.1, mc.2⟩
  · intro n x hx
    rcases List.mem_cons.mp hx with rfl | hx
    · exact .inl rfl
    · rcases List.mem_cons.mp hx with rfl | hx
      · exact .inl rfl
      · rw [List.mem_singleton.mp hx]; exact .inr ⟨rfl, rfl⟩
  · intro n p hp
    have e : cellsFrom (n + 1) (scpF (meth 30 0)).names [] = [(("columns" : Str), (n + 1 : Addr))] := rfl
    rw [e] at hp ⊢
    rw [List.mem_singleton.mp hp]; rfl
end
end

section
open PySem PySem.W PySem.Calls PyProof.Rows PySem.SeqAt

theorem Ow.backAll {h₀ h h' : Heap} {B₀ B B' : Sto} {M₀ : List Addr} {L : Addr} {own ow' : Own} {m : Str → Option Value} (O : Ow h₀ B₀ M₀ L B own m h) (F : Back h B own ow' B' h') : Ow h₀ B₀ M₀ L B' ow' m h' := by
  have := O.back (rest := []) (by rw [List.append_nil]) F
  rwa [List.append_nil] at this
theorem Ow.lendAll {h₀ h : Heap} {B₀ B : Sto} {M₀ : List Addr} {L : Addr} {own : Own} {m : Str → Option Value} (O : Ow h₀ B₀ M₀ L B own m h) : Lent B h own := O.lend (rest := []) (by rw [List.append_nil])
theorem Ow.endsAll {h h' : Heap} {B B' : Sto} {L : Addr} {ow ow' : Own} {m : Str → Option Value} (O : Ow h B (ow.map (·.1)) L B' ow' m h') (ha : ow'.map (·.1) = ow.map (·.1)) : Back h B ow ow' B' h' :=
  ⟨O.g, ha, fun p hp => ⟨(O.mn p hp).1, (O.mn p hp).2.2.1⟩⟩
/-- a sign: its codes, its width -/
inductive SgV (B : Sto) (v : Value) (c : Cell) : Prop
  | mk (a ca : Addr) (u : Tok) (e : v = .ref a) (f : B a = some (tupO [.ref ca, .int c.w u])) (i : IntsT B ca c.codes) : SgV B v c
theorem SgV.mono {B B' : Sto} {v : Value} {c : Cell} (x : SgV B v c) (le : Le B B') : SgV B' v c := let ⟨a, ca, u, e, f, i⟩ := x; ⟨a, ca, u, e, le _ _ f, i.mono le⟩
def itemsAt (B : Sto) (v : Option Value) : List Value := match v with | some (.ref T) => (match B T with | some ⟨_, _, .seq arr _, _⟩ => arr.toList | _ => []) | _ => []
theorem itemsAt_of {B : Sto} {T : Addr} {l : List Value} (e : B T = some (tupO l)) : itemsAt B (some (.ref T)) = l := by
  simp only [itemsAt, e]
def pairAt (B : Sto) (vs : List Value) (i : Nat) : List Value := match vs[i]? with | some v => itemsAt B (some v) | none => [.none, .none]
theorem pairs_of {B : Sto} {vs : List Value} {sg : List Cell} (h : Each (SgV B) vs sg) : (∀ i v, vs[i]? = some v → ∃ T, v = .ref T ∧ B T = some (tupO (pairAt B vs i))) ∧
    ∀ j, ∃ v1 v2, (pairAt B vs j).toArray = #[v1, v2] ∧ ∀ c, sg[j]? = some c → ∃ ca u, v1 = .ref ca ∧ v2 = .int c.w u ∧ IntsT B ca c.codes := by
  refine ⟨fun i v e => ?_, fun j => ?_⟩
  · have hi := (List.getElem?_eq_some_iff.mp e).1
    rw [h.length] at hi
    obtain ⟨v', e', a, ca, u, rfl, ea, _⟩ := h.get i _ (List.getElem?_eq_getElem hi)
    rw [e] at e'
    cases e'
    refine ⟨a, rfl, ?_⟩
    unfold pairAt
    rw [e]
    simp only
    rw [itemsAt_of ea]
    exact ea
  · unfold pairAt
    cases e : vs[j]? with
    | none =>
      refine ⟨_, _, rfl, fun c hc => ?_⟩
      have := (List.getElem?_eq_some_iff.mp hc).1
      rw [List.getElem?_eq_none_iff, h.length] at e
      (first | lia | omega)
    | some v =>
      have hi := (List.getElem?_eq_some_iff.mp e).1
      rw [h.length] at hi
      obtain ⟨v', e', a, ca, u, rfl, ea, hit⟩ := h.get j _ (List.getElem?_eq_getElem hi)
      rw [e] at e'
      cases e'
      simp only
      rw [itemsAt_of ea]
      refine ⟨_, _, rfl, fun c hc => ?_⟩
      rw [List.getElem?_eq_getElem hi] at hc
      cases hc
      exact ⟨ca, u, rfl, rfl, hit⟩
/-- the cells that a sign takes -/
def sgC (c : Cell) : List Cell := if c.w = 2 then [c, ⟨[], 0⟩] else [c]
def layD (sg : List Cell) : List Cell := sg.flatMap sgC
def sgOk (c : Cell) : Prop := (c.w = 1 ∨ c.w = 2) ∧ (c.codes = [] → c.w = 1) ∧ c.codes.length ≤ 3
structure RowOk (sg : List Cell) : Prop where
  ok : ∀ c ∈ sg, sgOk c
  len : (layD sg).length = 4
def stD (sg : List Cell) : List Cell := layD sg ++ List.replicate (4 - (layD sg).length) ⟨[], 1⟩
theorem sgC_len {c : Cell} (h : c.w = 1 ∨ c.w = 2) : ((sgC c).length : Int) = c.w := by
  unfold sgC
  rcases h with h | h
  · rw [if_neg (by (first | lia | omega)), h]; rfl
  · rw [if_pos h, h]; rfl
theorem layD_snoc (sg : List Cell) (c : Cell) : layD (sg ++ [c]) = layD sg ++ sgC c := by simp [layD]
theorem layD_take_le (sg : List Cell) (j : Nat) : (layD (sg.take j)).length ≤ (layD sg).length := by
  have : layD sg = layD (sg.take j) ++ layD (sg.drop j) := by unfold layD; rw [← List.flatMap_append, List.take_append_drop]
  rw [this, List.length_append]
  exact Nat.le_add_right ..
theorem stD_len {sg : List Cell} (h : (layD sg).length ≤ 4) : (stD sg).length = 4 := by
  unfold stD
  rw [List.length_append, List.length_replicate]
  (first | lia | omega)
theorem stD_blank {sg : List Cell} {b : Nat} (hb : (layD sg).length ≤ b) : ∀ c, (stD sg)[b]? = some c → c.w ≠ 0 := by
  intro c e
  unfold stD at e
  rw [List.getElem?_append_right hb, List.getElem?_replicate] at e
  split at e
  · cases e; decide
  · cases e
theorem stD_put {sg : List Cell} {c : Cell} (h : c.w = 1 ∨ c.w = 2) (hl : (layD (sg ++ [c])).length ≤ 4) : putD (stD sg) (layD sg).length c = stD (sg ++ [c]) := by
  have e := sgC_len h
  rw [layD_snoc, List.length_append] at hl
  unfold stD
  rw [layD_snoc]
  generalize layD sg = p at *
  unfold putD
  rcases h with h | h
  · have e2 : sgC c = [c] := by unfold sgC; rw [if_neg (by (first | lia | omega))]
    rw [e2] at hl ⊢
    rw [if_neg (by (first | lia | omega)), List.set_append_right _ _ (Nat.le_refl _), Nat.sub_self]
    simp only [List.length_append, List.length_cons, List.length_nil] at hl ⊢
    rw [show 4 - p.length = (4 - (p.length + (0 + 1))) + 1 by (first | lia | omega), List.replicate_succ, List.set_cons_zero]
    simp
  · have e2 : sgC c = [c, ⟨[], 0⟩] := by unfold sgC; rw [if_pos h]
    rw [e2] at hl ⊢
    rw [if_pos h, List.set_append_right _ _ (Nat.le_refl _), Nat.sub_self, List.set_append_right _ _ (Nat.le_succ _)]
    simp only [List.length_append, List.length_cons, List.length_nil] at hl ⊢
    rw [show 4 - p.length = (4 - (p.length + (0 + 1 + 1))) + 1 + 1 by (first | lia | omega), List.replicate_succ, List.set_cons_zero, show p.length + 1 - p.length = 0 + 1 by (first | lia | omega), List.set_cons_succ, List.replicate_succ, List.set_cons_zero]
    simp
theorem stD_none {sg : List Cell} {c : Cell} (h : c.codes = []) (hw : c.w = 1) (hl : (layD (sg ++ [c])).length ≤ 4) : stD sg = stD (sg ++ [c]) := by
  obtain ⟨cs, w⟩ := c
  simp only at h hw
  subst h hw
  rw [layD_snoc, List.length_append] at hl
  unfold stD
  rw [layD_snoc]
  have e2 : sgC ⟨[], 1⟩ = [⟨[], 1⟩] := rfl
  rw [e2] at hl ⊢
  simp only [List.length_append, List.length_cons, List.length_nil] at hl ⊢
  rw [show 4 - (layD sg).length = (4 - ((layD sg).length + (0 + 1))) + 1 by (first | lia | omega), List.replicate_succ]
  simp
theorem stD_full {sg : List Cell} (h : (layD sg).length = 4) : stD sg = layD sg := by unfold stD; rw [h]; simp

section
variable {prog : Program} {w : World} {A : Around} {E : Value → Shared → Prop} {Q : Value → Shared → Prop} {QU : Unit → Shared → Prop} {R : Result → Shared → Prop}
variable {h : Heap} {B : Sto} {g : Array GenState} {d : Drawn} {t : Nat} {os : OsState} {v : Value} {ow : Own} {x : Addr} {l : LineD}
variable {K : Frag} {N : Nm} {Y : Nb} {p : Program} {loose : List Str} {mg mb : Str → Option Value} {H : Heap}

set_option maxRecDepth 10000 in
theorem c_gline (W : Wd K p loose mg mb H) (Z : OkB K N Y) (Zv : OkV K N) (hH : Le H.get? B) (kp : Kp B h) (r : Room A 1) {dx gl : Addr} {es : List DictEntry} {ne : Nat} {gvs : List Value} {q : Nat} (hx : GridOwn N B x dx gl es)
    (hl : Lent B h [(dx, dictOf es ne), (gl, lstO gvs q)]) {i : Nat} {u : Tok} {y : Value} (hy : gvs[i]? = some y) (hz : gvs.length ≤ 1000)
    (k : ∀ B' h' t', Back h B [(dx, dictOf es ne), (gl, lstO gvs q)] [(dx, dictOf es ne), (gl, lstO gvs q)] B' h' → Q y ⟨h', g, d, t', os⟩) : wpAny (model prog w) A (call (.ref Y.gline) [.ref x, .int i u]) Q E ⟨h, g, d, t, os⟩ := by
  refine enterF (own := [(dx, dictOf es ne), (gl, lstO gvs q)]) (binds := [("self", .ref x), ("row", .int i u)]) W hH kp hl.1 hl.2 Z.f_gline r.room fun L h1 t1 cdv O => ?_
  obtain ⟨fs, ex, D, f1, f2⟩ := hx
  have hi := (List.getElem?_eq_some_iff.mp hy).1
  refine wpAny_execs_cons ?_
  refine wpAny_Return_some ?_
  refine Subscript_ ?_
  refine Attribute_any_ ?_
  refine r_local (by assumption) rfl ?_
  (refine r_attrO (by assumption) (by assumption) (by assumption) (by assumption) (by repeat (first | exact List.Mem.head _ | apply List.Mem.tail)) (by exact OkV.a_glines (by assumption)) (by assumption) (by assumption) rfl ?_; intro _)
  refine r_local (by assumption) rfl ?_
  refine r_lstItem (O.mlst (.tail _ (.head _))) (by (first | lia | omega)) (by (first | lia | omega)) (by simpa using hy) ?_
  exact k _ _ _ (O.ends (rest := []) rfl)

set_option maxRecDepth 10000 in
theorem c_hpush (W : Wd K p loose mg mb H) (Z : OkB K N Y) (Zv : OkV K N) (hH : Le H.get? B) (kp : Kp B h) (r : Room A 1) {dx hl : Addr} {es : List DictEntry} {ne : Nat} {hvs : List Value} {q : Nat} (hx : HistOwn N B x dx hl es)
    (hlt : Lent B h [(dx, dictOf es ne), (hl, lstO hvs q)]) {y : Value} (hz : hvs.length < 5)
    (k : ∀ B' h' t', Back h B [(dx, dictOf es ne), (hl, lstO hvs q)] [(dx, dictOf es ne), (hl, lstO (hvs ++ [y]) (q + 1))] B' h' → Q .none ⟨h', g, d, t', os⟩) : wpAny (model prog w) A (call (.ref Y.hpush) [.ref x, y]) Q E ⟨h, g, d, t, os⟩ := by
  refine enterF (own := [(dx, dictOf es ne), (hl, lstO hvs q)]) (binds := [("self", .ref x), ("line", y)]) W hH kp hlt.1 hlt.2 Z.f_hpush r.room fun L h1 t1 cdv O => ?_
  obtain ⟨fs, u5, ex, D, f1, f2, f3⟩ := hx
  refine wpAny_execs_cons ?_
  refine wpAny_Expr_any ?_
  refine MethodCall_ ?_
  refine Attribute_any_ ?_
  refine r_local (by assumption) rfl ?_
  (refine r_attrO (by assumption) (by assumption) (by assumption) (by assumption) (by repeat (first | exact List.Mem.head _ | apply List.Mem.tail)) (by exact OkV.a_hlines (by assumption)) (by assumption) (by assumption) rfl ?_; intro _)
  refine r_mAppend O (.tail _ (.head _)) ?_
  refine r_callB ?_
  refine wpAny_items_cons ?_
  refine r_local (by assumption) rfl ?_
  refine wpAny_items_nil ?_
  refine r_append O 1 rfl (fun h2 O2 => ?_) (by unfold sizeLine; (first | lia | omega))
  refine wpAny_execs_cons ?_
  refine wpAny_If ?_
  refine wpAny_isTrue_Compare1 ?_
  refine Call_ ?_
  refine r_builtin (by assumption) (by assumption) (by assumption) (by exact OkV.b_len (by assumption)) (by boot_by_name) ?_
  refine r_callB ?_
  refine wpAny_items_cons ?_
  refine Attribute_any_ ?_
  refine r_local (by assumption) rfl ?_
  (refine r_attrO (by assumption) (by assumption) (by assumption) (by assumption) (by repeat (first | exact List.Mem.head _ | apply List.Mem.tail)) (by exact OkV.a_hlines (by assumption)) (by assumption) (by assumption) rfl ?_; intro _)
  refine wpAny_items_nil ?_
  refine r_len (O2.mlst (vs := hvs ++ [y]) (k := q + 1) (.tail _ (.head _))) (by simp; (first | lia | omega)) fun u2 t2 => ?_
  refine Attribute_any_ ?_
  refine r_local (by assumption) rfl ?_
  (refine r_attrO (by assumption) (by assumption) (by assumption) (by assumption) (by repeat (first | exact List.Mem.head _ | apply List.Mem.tail)) (by exact OkB.a_most (by assumption)) (by assumption) (by assumption) rfl ?_; intro _)
  refine PySem.P.le_int ?_
  refine wpAny_truthy_bool ?_
  rw [show decide (((hvs ++ [y]).length : Int) ≤ 5) = true by simp; (first | lia | omega)]
  refine iteT ?_
  refine wpAny_execs_cons ?_
  refine wpAny_Return_some ?_
  refine wpAny_Constant_none ?_
  exact k _ _ _ (O2.ends (ow' := [(dx, dictOf es ne), (hl, lstO (hvs ++ [y]) (q + 1))]) (rest := []) rfl)

set_option maxRecDepth 10000 in
theorem c_mkView (W : Wd K p loose mg mb H) (Z : OkB K N Y) (hH : Le H.get? B) (kp : Kp B h) (r : Room A 2) {hh gg : Addr}
    (k : ∀ B' h' t' x dx es n fs, Grow h B [] B' h' → B' x = some (instObj N.View dx) → Dct es fs 10 → fs "history" = some (.ref hh) → fs "grid" = some (.ref gg) → fs "above" = none → fs "rows" = none → fs "line" = none → fs "is_joined" = none →
      Made h B' h' dx (dictOf es n) → Q (.ref x) ⟨h', g, d, t', os⟩) :
    wpAny (model prog w) A (call (.ref N.View) [.ref hh, .ref gg]) Q E ⟨h, g, d, t, os⟩ := by
  refine r_new W hH kp Z.k_View fun x dx h2 B2 ex le2 kp2 lt2 gr fr hdx => ?_
  have r' := Room.make (n := 1) (C := N.View) (vals := [.ref hh, .ref gg]) r
  refine enterI (own := [(dx, dictOf [] 0)]) (binds := [("self", .ref x), ("history", .ref hh), ("grid", .ref gg)]) W (Le.trans hH le2) kp2 lt2.1 lt2.2 Z.f_vinit r'.room fun L h1 t1 cdv O => ?_
  have hH2 := Le.trans hH le2
  refine wpAny_execs_cons ?_
  refine plainObj_wpAny_Assign_Attribute ?_
  refine r_local (by assumption) rfl ?_
  refine r_local (by assumption) rfl ?_
  refine r_setAttrD W hH2 O ex 0 rfl Z.s_history Dct.nil fun h4 t4 es n4 D4 O4 => ?_
  refine wpAny_execs_cons ?_
  refine plainObj_wpAny_Assign_Attribute ?_
  refine r_local (by assumption) rfl ?_
  refine r_local (by assumption) rfl ?_
  refine r_setAttrD W hH2 O4 ex 0 rfl Z.s_grid D4 fun h5 t5 es n5 D5 O5 => ?_
  refine wpAny_execs_nil ?_
  have mdx := O5.mn (dx, dictOf es n5) (.head _)
  exact ⟨rfl, k _ _ _ x dx es n5 _ (gr _ _ O5.g) (O5.g.sub _ _ ex) ⟨Nat.le_trans D5.1 (by decide), D5.2⟩ rfl rfl rfl rfl rfl rfl ⟨hdx, mdx.1, mdx.2.2.1⟩⟩

set_option maxHeartbeats 1000000 in
set_option maxRecDepth 10000 in
theorem c_laid (W : Wd K p loose mg mb H) (Z : OkB K N Y) (Zv : OkV K N) (hH : Le H.get? B) (kp : Kp B h) (r : Room A 5) (hx : LineOwn N B x (blankLine 4) ow) (hl : Lent B h ow) {sa : Addr} {svs : List Value} {sq : Nat} {sg : List Cell}
    (hs : B sa = some (lstO svs sq)) (hsv : Each (SgV B) svs sg) (hok : RowOk sg)
    (k : ∀ B' h' t' ow', Back h B ow ow' B' h' → LineOwn N B' x ⟨layD sg, false⟩ ow' → Q .none ⟨h', g, d, t', os⟩) : wpAny (model prog w) A (call (.ref Y.laid) [.ref x, .ref sa]) Q E ⟨h, g, d, t, os⟩ := by
  refine enterF (own := ow) (binds := [("line", .ref x), ("signs", .ref sa)]) W hH kp hl.1 hl.2 Z.f_laid r.room fun L h1 t1 cdv O => ?_
  have rd := r.deeper (env := envOf "_law_laid" (scpF (top 37)) L Y.laid cdv)
  refine wpAny_execs_cons ?_
  refine wpAny_Assign_Name ?_
  refine r_int ?_; intro _ _
  refine r_store O fun h2 t2 O2 => ?_
  refine wpAny_execs_cons ?_
  refine wpAny_For ?_
  refine r_local (by assumption) rfl ?_
  refine r_iterPairs (xs := pairAt B svs) rd.handled O2 (O2.g.sub _ _ hs) (pairs_of hsv).1 fun I h3 t3 O3 S3 => ?_
  refine for_pair (P2 := fun j v1 v2 => ∀ c, sg[j]? = some c → ∃ ca u, v1 = .ref ca ∧ v2 = .int c.w u ∧ IntsT B ca c.codes) rd.handled S3 (fun j vals hP => by subst hP; exact (pairs_of hsv).2 j) O3
    (fun j B' own' m' => own'.map (·.1) = ow.map (·.1) ∧ LineOwn N B' x ⟨stD (sg.take j), false⟩ own' ∧ m' "line" = some (.ref x) ∧ ∃ u, m' "column" = some (.int ((layD (sg.take j)).length : Nat) u))
    ⟨rfl, hx.mono O3.g.sub, rfl, _, rfl⟩ (fun j v1 v2 B4 own4 m4 h4 t4 E4 hj hP inv le4 O4 N4 => ?_) (fun B4 own4 m4 h4 t4 inv le4 O4 => ?_)
  · have hj' : j < sg.length := by rw [← hsv.length]; exact hj
    have hc : sg[j]? = some sg[j] := List.getElem?_eq_getElem hj'
    generalize sg[j] = c at hc
    obtain ⟨ca, u, rfl, rfl, vs, eca, hcv⟩ := hP c hc
    obtain ⟨hmap, hx4, ml, u4, mc⟩ := inv
    refine r_store N4 fun h5 t5 N5 => ?_
    refine r_store N5 fun h6 t6 N6 => ?_
    have hcok := hok.ok c (List.mem_of_getElem? hc)
    have hH4 := Le.trans hH O4.g.sub
    have etake : sg.take (j + 1) = sg.take j ++ [c] := by rw [List.take_add_one, hc]; rfl
    have hle : (layD (sg.take j ++ [c])).length ≤ 4 := by rw [← etake, ← hok.len]; exact layD_take_le ..
    have hcol : ((layD (sg.take (j + 1))).length : Int) = (layD (sg.take j)).length + c.w := by
      rw [etake, layD_snoc, List.length_append]
      have := sgC_len hcok.1
      (first | lia | omega)
    refine wpAny_execs_cons ?_
    refine wpAny_If ?_
    refine wpAny_isTrue_Compare1 ?_
    refine r_local (by assumption) rfl ?_
    refine Tuple_ ?_
    refine wpAny_items_nil ?_
    refine r_tuple N6 fun b7 B7 h7 N7 le7 e7 => ?_
    have hx4' := hx4
    obtain ⟨dx, es, ne, cl, lvs, lq, fs, ex, rfl, D, f1, f2, f3, f4, hcs⟩ := hx4
    refine r_neNil (N7.tupl (le7 _ _ (O4.g.sub _ _ eca))) (N7.tupl e7) rd.unit ?_
    refine wpAny_truthy_bool ?_
    rw [ints_empty hcv]
    refine PyProof.Rows.split_bool (fun hT => ?_) (fun hF => ?_)
    · refine wpAny_execs_cons ?_
      refine wpAny_Expr_any ?_
      refine MethodCall_ ?_
      refine r_local (by assumption) (by assumption) ?_
      refine r_methO (by assumption) (by assumption) (by assumption) (by assumption) (by repeat (first | exact List.Mem.head _ | apply List.Mem.tail)) (by exact OkB.m_mput (by assumption)) (by assumption) (by assumption) ?_
      refine r_callF (by assumption) (by assumption) (by assumption) (by exact OkB.f_mput (by assumption)) ?_
      refine wpAny_items_cons ?_
      refine r_local (by assumption) (by assumption) ?_
      refine wpAny_items_cons ?_
      refine Tuple_ ?_
      refine wpAny_items_cons ?_
      refine r_local (by assumption) rfl ?_
      refine wpAny_items_cons ?_
      refine r_local (by assumption) rfl ?_
      refine wpAny_items_cons ?_
      refine r_global (by assumption) (by assumption) (by assumption) (by exact OkB.v_PLAIN (by assumption)) ?_
      refine wpAny_items_cons ?_
      refine wpAny_Constant_bool ?_
      refine wpAny_items_nil ?_
      refine r_tuple N7 fun b8 B8 h8 N8 le8 e8 => ?_
      refine wpAny_items_nil ?_
      refine r_inK (by assumption) (by assumption) (by assumption) ?_
      have hcell : CellV B8 (.ref b8) c := ⟨b8, ca, _, _, _, rfl, e8, vs, le8 _ _ (le7 _ _ (O4.g.sub _ _ eca)), hcv⟩
      have hle' : (layD (sg.take j)).length ≤ 4 := Nat.le_trans (by rw [layD_snoc, List.length_append]; exact Nat.le_add_right ..) hle
      refine c_put W Z Zv (Le.trans hH4 N8.g.sub) N8.g.keep rd (hx4'.mono N8.g.sub) (N8.lend (rest := []) (.refl _)) (by rw [stD_len hle']; decide) hcell hcok.1 ?_ (stD_blank (Nat.le_refl _)) (fun b hb => stD_blank (by rcases hcok.1 with q | q <;> (first | lia | omega))) fun B9 h9 t9 ow9 F9 hx9 => ?_
      · rw [stD_len hle', ← hcol, etake]
        exact Int.ofNat_le.mpr hle
      rw [stD_put hcok.1 hle, ← etake] at hx9
      have N9 := N8.backAll F9
      refine wpAny_execs_nil ?_
      refine wpAny_execs_cons ?_
      refine wpAny_Assign_Name ?_
      refine wpAny_BinOp ?_
      refine r_local (by assumption) (by assumption) ?_
      refine r_local (by assumption) rfl ?_
      refine r_add ?_; intro _ _
      refine r_store N9 fun h10 t10 N10 => ?_
      refine wpAny_execs_nil ?_
      rw [← hcol] at N10
      exact ⟨_, _, _, _, _, rfl, N10, F9.2.1.trans hmap, hx9, ml, _, rfl⟩
    · have hce : c.codes = [] := by simpa using hF
      refine wpAny_execs_nil ?_
      refine wpAny_execs_cons ?_
      refine wpAny_Assign_Name ?_
      refine wpAny_BinOp ?_
      refine r_local (by assumption) (by assumption) ?_
      refine r_local (by assumption) rfl ?_
      refine r_add ?_; intro _ _
      refine r_store N7 fun h10 t10 N10 => ?_
      refine wpAny_execs_nil ?_
      rw [← hcol] at N10
      have e10 := stD_none hce (hcok.2.1 hce) hle
      rw [← etake] at e10
      rw [e10] at hx4'
      exact ⟨_, _, _, _, _, rfl, N10, hmap, hx4'.mono le7, ml, _, rfl⟩
  · obtain ⟨hmap, hx4, ml, u4, mc⟩ := inv
    refine wpAny_execs_nil ?_
    rw [hsv.length, List.take_length, stD_full hok.len] at hx4
    exact k _ _ _ own4 (O4.endsAll hmap) hx4
end
end

section
open PySem PySem.W PySem.Calls PyProof.Rows PySem.SeqAt

/-- the deck: so much is known of it -/
inductive DeckOwn (prog : Program) (w : World) (dk : Addr) (ow : Own) : Prop
  | mk (oD : Obj) (l : Addr) (vs : List Value) (q : Nat) (ms : List Int) (mx : Int) (u : Tok) (e1 : ow = [(dk, oD), (l, lstO vs q)]) (e2 : oD.IsDictOf (strKind prog w) [(("left" : Str), Value.ref l), (("mixed" : Str), .int mx u)]) (e3 : IntsAre vs ms) (e4 : vs.length ≤ 24) (e5 : 0 ≤ mx) (e6 : mx < 1000003) : DeckOwn prog w dk ow

theorem r_unpack {prog : Program} {w : World} {A : Around} {E : Value → Shared → Prop} {h₀ h : Heap} {B₀ B : Sto} {M₀ : List Addr} {L a : Addr} {own : Own} {m : Str → Option Value} {g : Array GenState} {d : Drawn} {t : Nat} {os : OsState} {vs : List Value} {n : Nat} {QL : List Value → Shared → Prop}
    (hh : A.handled = none) (O : Ow h₀ B₀ M₀ L B own m h) (e : B a = some (tupO vs)) (hn : n = vs.length) (k : ∀ h', Ow h₀ B₀ M₀ L B own m h' → QL vs ⟨h', g, d, t, os⟩) : wpAny (model prog w) A (unpackItems (.ref a) n none) QL E ⟨h, g, d, t, os⟩ := by
  have e2 : n = vs.toArray.size := by rw [hn, List.size_toArray]
  rw [e2]
  refine unpackItems_tuple (s := ⟨h, g, d, t, os⟩) hh (O.tup e) fun h10 hx => ?_
  exact k _ (O.ext fun b o e => hx b o (Nat.ne_of_lt (get_lt e)) e)
def less1 (B : Sto) (a : Addr) : Sto := fun x => if x = a then none else B x
theorem Grow.forget {h h' : Heap} {B B' : Sto} {M : List Addr} {a : Addr} (G : Grow h B M B' h') (hB : B a = none) : Grow h B M (less1 B' a) h' := by
  refine G.less (fun x o e => ?_) (fun x o e => ?_)
  · unfold less1
    rw [if_neg]
    · exact G.sub x o e
    · rintro rfl; rw [hB] at e; cases e
  · unfold less1 at e
    split at e
    · cases e
    · exact e
theorem stored2 (x y : Value) : stored (stored [] ("left" : Str) x) ("mixed" : Str) y = [(("left" : Str), x), (("mixed" : Str), y)] := rfl
theorem stored3 (x y z : Value) : stored [(("left" : Str), x), (("mixed" : Str), y)] ("mixed" : Str) z = [(("left" : Str), x), (("mixed" : Str), z)] := rfl
theorem IntsAre.drop1 {v : Value} {vs : List Value} {ms : List Int} (h : IntsAre (v :: vs) ms) : ∃ a u ms', v = .int a u ∧ ms = a :: ms' ∧ IntsAre vs ms' := by
  cases h with
  | cons a u h => exact ⟨_, _, _, rfl, rfl, h⟩

section
variable {prog : Program} {w : World} {A : Around} {E : Value → Shared → Prop} {Q : Value → Shared → Prop} {QU : Unit → Shared → Prop} {R : Result → Shared → Prop}
variable {h : Heap} {B : Sto} {g : Array GenState} {d : Drawn} {t : Nat} {os : OsState} {v : Value} {ow : Own} {x : Addr} {l : LineD}
variable {K : Frag} {N : Nm} {Y : Nb} {p : Program} {loose : List Str} {mg mb : Str → Option Value} {H : Heap}

set_option maxHeartbeats 1000000 in
set_option maxRecDepth 10000 in
theorem c_draw (W : Wd K p loose mg mb H) (Z : OkB K N Y) (hH : Le H.get? B) (kp : Kp B h) (r : Room A 2) {dk : Addr} (hd : DeckOwn prog w dk ow) (hl : Lent B h ow) {n : Nat} {u : Tok} (hn : 0 < n)
    (k : ∀ B' h' t' ow' r u', Back h B ow ow' B' h' → DeckOwn prog w dk ow' → r < n → Q (.int (r : Nat) u') ⟨h', g, d, t', os⟩) : wpAny (model prog w) A (call (.ref Y.draw) [.ref dk, .int n u]) Q E ⟨h, g, d, t, os⟩ := by
  refine enterF (own := ow) (binds := [("deck", .ref dk), ("many", .int n u)]) W hH kp hl.1 hl.2 Z.f_draw r.room fun L h1 t1 cdv O => ?_
  have rd := r.deeper (env := envOf "_law_draw" (scpF (top 35)) L Y.draw cdv)
  obtain ⟨oD, la, vs, q, ms, mx, um, rfl, hD, hms, hz, m0, m1⟩ := hd
  have fin : ∀ (a : Int), ∃ r : Nat, a.fmod n = (r : Int) ∧ r < n := fun a => by
    have h1 := Int.fmod_nonneg_of_pos a (b := n) (by (first | lia | omega))
    have h2 := Int.fmod_lt_of_pos a (b := n) (by (first | lia | omega))
    exact ⟨(a.fmod n).toNat, by (first | lia | omega), by (first | lia | omega)⟩
  refine wpAny_execs_cons ?_
  refine wpAny_If ?_
  refine wpAny_isTrue_Compare1 ?_
  refine Subscript_ ?_
  refine r_local (by assumption) rfl ?_
  refine r_str ?_; intro _ _
  refine r_dGet O (.head _) hD rfl fun t2 => ?_
  refine List_ ?_
  refine wpAny_items_nil ?_
  refine r_list O fun e h2 O2 => ?_
  refine r_lstNeNil (O2.mn _ (.tail _ (.tail _ (.head _)))).1 (O2.mn _ (.head _)).1 rd.unit ?_
  refine wpAny_truthy_bool ?_
  cases vs with
  | nil =>
    refine iteF ?_
    refine wpAny_execs_nil ?_
    refine wpAny_execs_cons ?_
    refine wpAny_Assign_Subscript ?_
    refine wpAny_BinOp ?_
    refine wpAny_BinOp ?_
    refine wpAny_BinOp ?_
    refine Subscript_ ?_
    refine r_local (by assumption) rfl ?_
    refine r_str ?_; intro _ _
    refine r_dGet O2 (.tail _ (.head _)) hD rfl fun t3 => ?_
    refine r_int ?_; intro _ _
    refine r_mul (.of_right (by decide)) fun u3 t3 => ?_
    refine r_int ?_; intro _ _
    refine r_add ?_; intro _ _
    refine r_int ?_; intro _ _
    refine r_mod (by decide) fun u4 t4 => ?_
    refine r_local (by assumption) rfl ?_
    refine r_str ?_; intro _ _
    refine r_dSet O2 1 rfl hD (by simp) fun h5 t5 oD' hD' O5 => ?_
    rw [stored3] at hD'
    refine wpAny_execs_cons ?_
    refine wpAny_Return_some ?_
    refine wpAny_BinOp ?_
    refine wpAny_BinOp ?_
    refine Subscript_ ?_
    refine r_local (by assumption) rfl ?_
    refine r_str ?_; intro _ _
    refine r_dGet O5 (.tail _ (.head _)) hD' rfl fun t3 => ?_
    refine r_int ?_; intro _ _
    refine r_fdiv (by decide) (PyProof.noPylong_small (by decide)) fun u6 t6 => ?_
    refine r_local (by assumption) rfl ?_
    refine r_mod (by (first | lia | omega)) fun u7 t7 => ?_
    obtain ⟨r, er, hr⟩ := fin (((mx * 4801 + 97).fmod 1000003).fdiv 7)
    rw [er]
    have O6 := O5.drop (own' := [(dk, oD'), (la, lstO [] q)]) (.cons _ (.refl _))
    exact k _ _ _ _ _ _ (O6.endsAll rfl) ⟨oD', la, [], q, ms, _, _, rfl, hD', hms, by simp, Int.fmod_nonneg_of_pos _ (by decide), Int.fmod_lt_of_pos _ (by decide)⟩ hr
  | cons v vs =>
    obtain ⟨a, ua, ms', rfl, rfl, hms'⟩ := IntsAre.drop1 hms
    refine iteT ?_
    refine wpAny_execs_cons ?_
    refine wpAny_Return_some ?_
    refine wpAny_BinOp ?_
    refine MethodCall_ ?_
    refine Subscript_ ?_
    refine r_local (by assumption) rfl ?_
    refine r_str ?_; intro _ _
    refine r_dGet O2 (.tail _ (.head _)) hD rfl fun t3 => ?_
    refine r_mPop O2 (.tail _ (.tail _ (.head _))) ?_
    refine r_callB ?_
    refine wpAny_items_cons ?_
    refine r_int ?_; intro _ _
    refine wpAny_items_nil ?_
    refine r_popAt O2 2 rfl (fun h5 q5 O5 => ?_) (by unfold sizeLine; (first | lia | omega))
    refine r_local (by assumption) rfl ?_
    refine r_mod (by (first | lia | omega)) fun u7 t7 => ?_
    obtain ⟨r, er, hr⟩ := fin a
    rw [er]
    have O6 := O5.drop (own' := [(dk, oD), (la, lstO vs q5)]) (.cons _ (.refl _))
    exact k _ _ _ _ _ _ (O6.endsAll rfl) ⟨oD, la, vs, q5, ms', _, _, rfl, hD, hms', by simp only [List.length_cons] at hz; (first | lia | omega), m0, m1⟩ hr

set_option maxHeartbeats 1000000 in
set_option maxRecDepth 10000 in
theorem c_deck (W : Wd K p loose mg mb H) (Z : OkB K N Y) (Zv : OkV K N) (hH : Le H.get? B) (kp : Kp B h) (r : Room A 2) {sa : Addr} {svs : List Value} {ns : List Int} (hs : ∃ o, B sa = some o ∧ o.cls = .type "list" ∧ ∃ n, o.data = .seq svs.toArray n) (hi : IntsAre svs ns) (hz : svs.length ≤ 1000)
    (k : ∀ B' h' t' dk ow, Grow h B [] B' h' → DeckOwn prog w dk ow → (∀ p ∈ ow, Made h B' h' p.1 p.2) → ow.Pairwise (fun p q => p.1 ≠ q.1) → Q (.ref dk) ⟨h', g, d, t', os⟩) : wpAny (model prog w) A (call (.ref Y.deck) [.ref sa]) Q E ⟨h, g, d, t, os⟩ := by
  refine enterF (own := []) (binds := [("script", .ref sa)]) W hH kp (by simp) .nil Z.f_deck r.room fun L h1 t1 cdv O => ?_
  have rd := r.deeper (env := envOf "_law_deck" (scpF (top 34)) L Y.deck cdv)
  obtain ⟨oS, hoS, hcS, nS, hdS⟩ := hs
  refine wpAny_execs_cons ?_
  refine Assign_Tuple_swapped (names := ["left", "mixed"]) ?_
  refine Tuple_ ?_
  refine wpAny_items_cons ?_
  refine r_comp ?_
  refine Subscript_ ?_
  refine r_local (by assumption) rfl ?_
  refine wpAny_Slice ?_
  refine r_partNone ?_
  refine r_partSome ?_
  refine r_int ?_; intro _ _
  refine r_partNone ?_
  refine r_lstUptoB O ⟨oS, O.g.keep _ _ (O.g.sub _ _ hoS), hcS, nS, hdS⟩ (fun c B2 h2 O2 le2 e2 => ?_) (hsz := by unfold sizeLine; (first | lia | omega))
  skip
  refine r_iterList rd.handled O2 e2 fun I h3 t3 O3 S3 => ?_
  refine comp_name S3 O3 rfl (fun j xs B' own' => own' = [] ∧ ∃ ms, IntsAre xs ms) ⟨rfl, [], .nil⟩ ?_ ?_ (by rw [List.length_take]; unfold sizeLine; (first | lia | omega)) (hh := rd.handled)
  · intro j v xs B' own' C D oL q mc h' h1 t' E' hj hv hxs inv le hL kp' O7
    obtain ⟨rfl, ms, hms⟩ := inv
    have hH7 := Le.trans (Le.trans hH O3.g.sub) le
    refine wpAny_BinOp ?_
    refine Call_ ?_
    refine r_builtin (by assumption) (by assumption) (by assumption) (by exact OkV.b_int (by assumption)) (by boot_by_name) ?_
    refine r_callT ?_
    refine wpAny_items_cons ?_
    refine r_local (by assumption) rfl ?_
    refine wpAny_items_nil ?_
    obtain ⟨a, ha⟩ : ∃ a, ns[j]? = some a := ⟨_, List.getElem?_eq_getElem (by rw [List.length_take] at hj; have := hi.length; (first | lia | omega))⟩
    obtain ⟨ua, eva⟩ := hi.get j a ha
    rw [List.getElem?_take] at hv
    split at hv
    · rw [eva] at hv
      cases hv
      refine r_intI ?_
      refine r_int ?_; intro _ _
      refine r_mod (by decide) fun u8 t8 => ?_
      exact ⟨B', [], _, _, _, rfl, O7, rfl, _, hms.append (.cons _ _ .nil)⟩
    · cases hv
  · intro xs B' own' D q hxs inv le
    obtain ⟨rfl, ms, hms⟩ := inv
    intro h' t' O9
    refine wpAny_items_cons ?_
    refine r_int ?_; intro _ _
    refine wpAny_items_nil ?_
    refine r_tuple O9 fun b B8 h8 O8 le8 e8 => ?_
    refine r_unpack rd.handled O8 e8 rfl fun h10 O10 => ?_
    refine assignInOrder_cons (bindName_ ?_)
    refine r_store O10 fun h11 t11 O11 => ?_
    refine assignInOrder_cons (bindName_ ?_)
    refine r_store O11 fun h12 t12 O12 => assignInOrder_nil ?_
    refine wpAny_execs_cons ?_
    refine wpAny_For ?_
    refine r_local (by assumption) rfl ?_
    have hD0 := (O12.mn (D, lstO xs q) (.head _)).2.2.2
    have hD0 : h.get? D = none := hD0.elim (fun z => by cases z) id
    obtain ⟨O13, le13, e13⟩ := O12.rest (by simp)
    refine r_iterList rd.handled O13 e13 fun I2 h14 t14 O14 S14 => ?_
    refine for_name S14 O14 (fun i B' own' m' => own' = [] ∧ m' "left" = some (.ref D) ∧ ∃ mx u, m' "mixed" = some (.int mx u) ∧ 0 ≤ mx ∧ mx < 1000003) ⟨rfl, rfl, _, _, rfl, by decide, by decide⟩
      (fun i vi B6 own6 m6 h6 t6 E' hi6 hvi inv le6 O6 N6 => ?_) (fun B6 own6 m6 h6 t6 inv le6 O6 => ?_)
    · obtain ⟨rfl, ml, mx, u, mm, m0, m1⟩ := inv
      obtain ⟨a, ha⟩ : ∃ a, ms[i]? = some a := ⟨_, List.getElem?_eq_getElem (by have := hms.length; (first | lia | omega))⟩
      obtain ⟨ua, eva⟩ := hms.get i a ha
      rw [eva] at hvi
      cases hvi
      refine r_store N6 fun h7 t7 N7 => ?_
      refine wpAny_execs_cons ?_
      refine wpAny_Assign_Name ?_
      refine wpAny_BinOp ?_
      refine wpAny_BinOp ?_
      refine wpAny_BinOp ?_
      refine wpAny_BinOp ?_
      refine r_local (by assumption) (by assumption) ?_
      refine r_int ?_; intro _ _
      refine r_mul (.of_right (by decide)) fun u3 t3 => ?_
      refine r_local (by assumption) rfl ?_
      refine r_add ?_; intro _ _
      refine r_int ?_; intro _ _
      refine r_add ?_; intro _ _
      refine r_int ?_; intro _ _
      refine r_mod (by decide) fun u4 t4 => ?_
      refine r_store N7 fun h8 t8 N8 => ?_
      refine wpAny_execs_nil ?_
      exact ⟨_, _, _, _, _, rfl, N8, rfl, ml, _, _, rfl, Int.fmod_nonneg_of_pos _ (by decide), Int.fmod_lt_of_pos _ (by decide)⟩
    · obtain ⟨rfl, ml, mx, u, mm, m0, m1⟩ := inv
      have eD6 := O6.g.keep _ _ (le6 _ _ e13)
      have hBD : B D = none := by
        cases z : B D with
        | none => rfl
        | some o => have := kp _ _ z; rw [hD0] at this; cases this
      refine wpAny_execs_cons (wpAny_Return_some (r_dict2 (v1 := .ref D) (v2 := .int mx u) O6 (fun h7 t7 O7 => ?_) (fun h7 t7 O7 => ?_) fun dk h7 t7 oD hD O7 => ?_))
      · refine r_local (by assumption) (by assumption) ?_
        exact ⟨rfl, _, rfl⟩
      · refine r_local (by assumption) (by assumption) ?_
        exact ⟨rfl, _, rfl⟩
      · rw [stored2] at hD
        have mk := O7.mn (dk, oD) (.head _)
        have hdk : h.get? dk = none := mk.2.2.2.elim (fun z => by cases z) id
        have hkD : B6 D = some (lstO xs q) := le6 _ _ e13
        refine k _ _ _ dk [(dk, oD), (D, lstO xs q)] (O7.g.forget hBD) ⟨oD, D, xs, q, ms, mx, u, rfl, hD, hms, ?_, m0, m1⟩ (fun p hp => ?_) ?_
        · rw [hxs]; exact List.length_take_le ..
        · rcases List.mem_cons.mp hp with rfl | hp
          · refine ⟨hdk, mk.1, ?_⟩
            show less1 B6 D dk = none
            unfold less1
            split
            · rfl
            · exact mk.2.2.1
          · rw [List.mem_singleton.mp hp]
            exact ⟨hD0, O7.g.keep _ _ hkD, if_pos rfl⟩
        · refine .cons (fun p hp => ?_) (by simp)
          rw [List.mem_singleton.mp hp]
          intro (e : dk = D)
          have := mk.2.2.1
          simp only [e, hkD] at this
          cases this
end
end

section
open PySem PySem.W PySem.Calls PyProof.Rows PySem.SeqAt

theorem r_tupleI {prog : Program} {w : World} {A : Around} {E : Value → Shared → Prop} {Q : Value → Shared → Prop} {h₀ h : Heap} {B₀ B : Sto} {M₀ : List Addr} {L : Addr} {own : Own} {m : Str → Option Value} {g : Array GenState} {d : Drawn} {t : Nat} {os : OsState} {vs : List Value} {ns : List Int}
    (O : Ow h₀ B₀ M₀ L B own m h) (hi : IntsAre vs ns) (hsz : vs.length ≤ 5) (k : ∀ a B' h', Ow h₀ B₀ M₀ L B' own m h' → Le B B' → IntsT B' a ns → Q (.ref a) ⟨h', g, d, t, os⟩) : wpAny (model prog w) A (newTuple vs) Q E ⟨h, g, d, t, os⟩ :=
  r_tuple O (fun a B' h' O' le e => k a B' h' O' le ⟨vs, e, hi⟩) (by unfold sizeLine; (first | lia | omega))
theorem r_listI {prog : Program} {w : World} {A : Around} {E : Value → Shared → Prop} {Q : Value → Shared → Prop} {h₀ h : Heap} {B₀ B : Sto} {M₀ : List Addr} {L : Addr} {own : Own} {m : Str → Option Value} {g : Array GenState} {d : Drawn} {t : Nat} {os : OsState} {vs : List Value}
    (O : Ow h₀ B₀ M₀ L B own m h) (hsz : vs.length ≤ 7) (k : ∀ a h', Ow h₀ B₀ M₀ L B ((a, lstO vs 0) :: own) m h' → Q (.ref a) ⟨h', g, d, t, os⟩) : wpAny (model prog w) A (newList vs) Q E ⟨h, g, d, t, os⟩ :=
  r_list O k (by unfold sizeLine; (first | lia | omega))
theorem r_menu {prog : Program} {w : World} {A : Around} {E : Value → Shared → Prop} {Q : Value → Shared → Prop} {h₀ h : Heap} {B₀ B : Sto} {M₀ : List Addr} {L : Addr} {own : Own} {m : Str → Option Value} {g : Array GenState} {d : Drawn} {t : Nat} {os : OsState} {env : Env} {c1 c2 c3 c4 c5 c6 c7 c8 c9 c10 c11 c12 c13 c14 c15 c16 : Nat} {p1 p2 p3 p4 p5 p6 p7 p8 p9 p10 p11 p12 p13 p14 p15 p16 pos : Pos}
    (O : Ow h₀ B₀ M₀ L B own m h) (k : ∀ la B' h' t' a0 a1 a2 a3 a4 a5 a6, Ow h₀ B₀ M₀ L B' ((la, lstO [.ref a0, .ref a1, .ref a2, .ref a3, .ref a4, .ref a5, .ref a6] 0) :: own) m h' → Le B B' →
      (IntsT B' a0 [97] ∧ IntsT B' a1 [101, 769] ∧ IntsT B' a2 [12354] ∧ IntsT B' a3 [32] ∧ IntsT B' a4 [] ∧ IntsT B' a5 [111, 769, 770] ∧ IntsT B' a6 [98]) → Q (.ref la) ⟨h', g, d, t', os⟩) :
    wpAny (model prog w) A (eval (.List [.Tuple [.Constant (.int 97) c1 p1] c2 p2, .Tuple [.Constant (.int 101) c3 p3, .Constant (.int 769) c4 p4] c5 p5, .Tuple [.Constant (.int 12354) c6 p6] c7 p7, .Tuple [.Constant (.int 32) c8 p8] c9 p9, .Tuple [] c10 p10, .Tuple [.Constant (.int 111) c11 p11, .Constant (.int 769) c12 p12, .Constant (.int 770) c13 p13] c14 p14, .Tuple [.Constant (.int 98) c15 p15] c16 p16] pos) env) Q E ⟨h, g, d, t, os⟩ := by
  refine List_ ?_
  refine wpAny_items_cons ?_
  refine Tuple_ ?_
  refine wpAny_items_cons ?_
  refine r_int ?_; intro _ _
  refine wpAny_items_nil ?_
  refine @r_tupleI _ _ _ _ _ _ _ _ _ _ _ _ _ _ _ _ _ _ _ O ((.cons _ _ .nil)) (Nat.le_of_ble_eq_true rfl) ?_
  intro a0 B0 h0 O0 le0 e0
  refine wpAny_items_cons ?_
  refine Tuple_ ?_
  refine wpAny_items_cons ?_
  refine r_int ?_; intro _ _
  refine wpAny_items_cons ?_
  refine r_int ?_; intro _ _
  refine wpAny_items_nil ?_
  refine @r_tupleI _ _ _ _ _ _ _ _ _ _ _ _ _ _ _ _ _ _ _ O0 ((.cons _ _ (.cons _ _ .nil))) (Nat.le_of_ble_eq_true rfl) ?_
  intro a1 B1 h1 O1 le1 e1
  refine wpAny_items_cons ?_
  refine Tuple_ ?_
  refine wpAny_items_cons ?_
  refine r_int ?_; intro _ _
  refine wpAny_items_nil ?_
  refine @r_tupleI _ _ _ _ _ _ _ _ _ _ _ _ _ _ _ _ _ _ _ O1 ((.cons _ _ .nil)) (Nat.le_of_ble_eq_true rfl) ?_
  intro a2 B2 h2 O2 le2 e2
  refine wpAny_items_cons ?_
  refine Tuple_ ?_
  refine wpAny_items_cons ?_
  refine r_int ?_; intro _ _
  refine wpAny_items_nil ?_
  refine @r_tupleI _ _ _ _ _ _ _ _ _ _ _ _ _ _ _ _ _ _ _ O2 ((.cons _ _ .nil)) (Nat.le_of_ble_eq_true rfl) ?_
  intro a3 B3 h3 O3 le3 e3
  refine wpAny_items_cons ?_
  refine Tuple_ ?_
  refine wpAny_items_nil ?_
  refine @r_tupleI _ _ _ _ _ _ _ _ _ _ _ _ _ _ _ _ _ _ _ O3 (.nil) (Nat.le_of_ble_eq_true rfl) ?_
  intro a4 B4 h4 O4 le4 e4
  refine wpAny_items_cons ?_
  refine Tuple_ ?_
  refine wpAny_items_cons ?_
  refine r_int ?_; intro _ _
  refine wpAny_items_cons ?_
  refine r_int ?_; intro _ _
  refine wpAny_items_cons ?_
  refine r_int ?_; intro _ _
  refine wpAny_items_nil ?_
  refine @r_tupleI _ _ _ _ _ _ _ _ _ _ _ _ _ _ _ _ _ _ _ O4 ((.cons _ _ (.cons _ _ (.cons _ _ .nil)))) (Nat.le_of_ble_eq_true rfl) ?_
  intro a5 B5 h5 O5 le5 e5
  refine wpAny_items_cons ?_
  refine Tuple_ ?_
  refine wpAny_items_cons ?_
  refine r_int ?_; intro _ _
  refine wpAny_items_nil ?_
  refine @r_tupleI _ _ _ _ _ _ _ _ _ _ _ _ _ _ _ _ _ _ _ O5 ((.cons _ _ .nil)) (Nat.le_of_ble_eq_true rfl) ?_
  intro a6 B6 h6 O6 le6 e6
  refine wpAny_items_nil ?_
  refine @r_listI _ _ _ _ _ _ _ _ _ _ _ _ _ _ _ _ _ _ O6 (Nat.le_of_ble_eq_true rfl) ?_
  intro la h15 O15
  have l5 := le6
  have l4 := Le.trans le5 l5
  have l3 := Le.trans le4 l4
  have l2 := Le.trans le3 l3
  have l1 := Le.trans le2 l2
  have l0 := Le.trans le1 l1
  exact k la B6 h15 _ a0 a1 a2 a3 a4 a5 a6 O15 (Le.trans le0 l0) ⟨e0.mono l0, e1.mono l1, e2.mono l2, e3.mono l3, e4.mono l4, e5.mono l5, e6⟩
section
variable {prog : Program} {w : World} {A : Around} {E : Value → Shared → Prop} {Q : Value → Shared → Prop} {QU : Unit → Shared → Prop} {R : Result → Shared → Prop}
variable {h : Heap} {B : Sto} {g : Array GenState} {d : Drawn} {t : Nat} {os : OsState} {v : Value} {ow : Own} {x : Addr} {l : LineD}
variable {K : Frag} {N : Nm} {Y : Nb} {p : Program} {loose : List Str} {mg mb : Str → Option Value} {H : Heap}

theorem layD_len_snoc (sg : List Cell) (c : Cell) (h : c.w = 1 ∨ c.w = 2) : ((layD (sg ++ [c])).length : Int) = (layD sg).length + c.w := by
  rw [layD_snoc, List.length_append]
  have := sgC_len h
  (first | lia | omega)

/-- what holds between the turns of _law_signs -/
inductive SgInv (prog : Program) (w : World) (dk sa : Addr) (ow : Own) (n : Nat) (B' : Sto) (own' : Own) (m' : Str → Option Value) : Prop
  | mk (svs : List Value) (sq : Nat) (ow' : Own) (sg : List Cell) (u : Tok) (e1 : own' = (sa, lstO svs sq) :: ow') (e2 : ow'.map (·.1) = ow.map (·.1)) (e3 : DeckOwn prog w dk ow') (e4 : Each (SgV B') svs sg) (e5 : ∀ c ∈ sg, sgOk c) (e6 : (layD sg).length + n = 4) (e7 : m' "deck" = some (.ref dk)) (e8 : m' "signs" = some (.ref sa)) (e9 : m' "left" = some (.int (n : Nat) u)) (e10 : svs.length ≤ (layD sg).length) : SgInv prog w dk sa ow n B' own' m'

set_option maxHeartbeats 200000 in
set_option maxRecDepth 10000 in
theorem c_signs (W : Wd K p loose mg mb H) (Z : OkB K N Y) (Zv : OkV K N) (hH : Le H.get? B) (kp : Kp B h) (r : Room A 3) {dk : Addr} (hd : DeckOwn prog w dk ow) (hl : Lent B h ow)
    (k : ∀ B' h' t' ow' sa svs sq sg, Back h B ow ow' B' h' → DeckOwn prog w dk ow' → Made h B' h' sa (lstO svs sq) → Each (SgV B') svs sg → RowOk sg → Q (.ref sa) ⟨h', g, d, t', os⟩) : wpAny (model prog w) A (call (.ref Y.signs) [.ref dk]) Q E ⟨h, g, d, t, os⟩ := by
  refine enterF (own := ow) (binds := [("deck", .ref dk)]) W hH kp hl.1 hl.2 Z.f_signs r.room fun L h1 t1 cdv O => ?_
  have rd := r.deeper (env := envOf "_law_signs" (scpF (top 36)) L Y.signs cdv)
  refine wpAny_execs_cons ?_
  refine Assign_Tuple_swapped (names := ["signs", "left"]) ?_
  refine Tuple_ ?_
  refine wpAny_items_cons ?_
  refine List_ ?_
  refine wpAny_items_nil ?_
  refine r_list O fun sa h2 O2 => ?_
  refine wpAny_items_cons ?_
  refine r_int ?_; intro _ _
  refine wpAny_items_nil ?_
  refine r_tuple O2 fun b B3 h3 O3 le3 e3 => ?_
  refine r_unpack rd.handled O3 e3 rfl fun h4 O4 => ?_
  refine assignInOrder_cons (bindName_ ?_)
  refine r_store O4 fun h5 t5 O5 => ?_
  refine assignInOrder_cons (bindName_ ?_)
  refine r_store O5 fun h6 t6 O6 => assignInOrder_nil ?_
  refine wpAny_execs_cons ?_
  refine wpAny_While ?_
  refine while_own O6 (SgInv prog w dk sa ow) 4 ?_ fun n B7 own7 m7 h7 t7 inv le7 O7 => ?_
  · exact ⟨[], 0, ow, [], _, rfl, rfl, hd, .nil, by simp, rfl, rfl, rfl, rfl, by simp⟩
  obtain ⟨svs, sq, ow', sg, u, rfl, hmap, hd7, hsv, hok, hlen, md, ms, ml, hsl⟩ := inv
  refine wpAny_isTrue_Compare1 ?_
  refine r_local (by assumption) (by assumption) ?_
  refine r_int ?_; intro _ _
  refine PySem.P.gt_int ?_
  refine wpAny_truthy_bool ?_
  refine PyProof.Rows.split_dec (fun h0 => ?_) (fun h0 => ?_)
  · refine wpAny_execs_cons ?_
    refine wpAny_Assign_Name ?_
    refine Subscript_ ?_
    refine @r_menu _ _ _ _ _ _ _ _ _ _ _ _ _ _ _ _ _ _ _ _ _ _ _ _ _ _ _ _ _ _ _ _ _ _ _ _ _ _ _ _ _ _ _ _ _ _ _ _ _ _ _ O7 ?_
    intro la B14 h15 t15 a0 a1 a2 a3 a4 a5 a6 O15 le14 he
    obtain ⟨e0, e1, e2, e3, e4, e5, e6⟩ := he
    refine Call_ ?_
    refine r_global (by assumption) (by assumption) (by assumption) (by exact OkB.g_draw (by assumption)) ?_
    refine r_callF (by assumption) (by assumption) (by assumption) (by exact OkB.f_draw (by assumption)) ?_
    refine wpAny_items_cons ?_
    refine r_local (by assumption) (by assumption) ?_
    refine wpAny_items_cons ?_
    refine r_int ?_; intro _ _
    refine wpAny_items_nil ?_
    refine r_inK (by assumption) (by assumption) (by assumption) ?_
    have P : ((la, lstO [.ref a0, .ref a1, .ref a2, .ref a3, .ref a4, .ref a5, .ref a6] 0) :: (sa, lstO svs sq) :: ow').Perm (ow' ++ [(la, lstO [.ref a0, .ref a1, .ref a2, .ref a3, .ref a4, .ref a5, .ref a6] 0), (sa, lstO svs sq)]) :=
      List.perm_append_comm (l₁ := [(la, lstO [.ref a0, .ref a1, .ref a2, .ref a3, .ref a4, .ref a5, .ref a6] 0), (sa, lstO svs sq)]) (l₂ := ow')
    refine c_draw (n := 7) W Z (Le.trans hH O15.g.sub) O15.g.keep rd hd7 (O15.lend P) (by decide) fun B16 h16 t16 ow16 r u16 F16 hd16 hr => ?_
    have O16 := O15.back P F16
    have leA : Le B14 B16 := F16.1.sub
    obtain ⟨ca, cs, hca, hcs, hall⟩ : ∃ ca cs, [Value.ref a0, .ref a1, .ref a2, .ref a3, .ref a4, .ref a5, .ref a6][r]? = some (.ref ca) ∧ IntsT B16 ca cs ∧ cs ∈ ([[97], [101, 769], [12354], [32], [], [111, 769, 770], [98]] : List (List Int)) := by
      match r, hr with
      | 0, _ => exact ⟨_, _, rfl, e0.mono leA, by simp⟩
      | 1, _ => exact ⟨_, _, rfl, e1.mono leA, by simp⟩
      | 2, _ => exact ⟨_, _, rfl, e2.mono leA, by simp⟩
      | 3, _ => exact ⟨_, _, rfl, e3.mono leA, by simp⟩
      | 4, _ => exact ⟨_, _, rfl, e4.mono leA, by simp⟩
      | 5, _ => exact ⟨_, _, rfl, e5.mono leA, by simp⟩
      | 6, _ => exact ⟨_, _, rfl, e6.mono leA, by simp⟩
    skip
    refine r_lstItem (O16.mlst (List.mem_append_right _ (.head _))) (by (first | lia | omega)) (by (first | lia | omega)) (by simpa using hca) ?_
    have O17 := O16.perm (List.perm_append_comm (l₁ := ow16) (l₂ := [(la, lstO [.ref a0, .ref a1, .ref a2, .ref a3, .ref a4, .ref a5, .ref a6] 0), (sa, lstO svs sq)]))
    have O17 : Ow _ _ _ _ B16 ((sa, lstO svs sq) :: ow16) _ h16 := O17.drop (.cons _ (.refl _))
    refine r_store O17 fun h18 t18 O18 => ?_
    refine wpAny_execs_cons ?_
    refine wpAny_Assign_Name ?_
    have h3 : cs.length ≤ 3 := by
      simp only [List.mem_cons, List.not_mem_nil, or_false] at hall
      rcases hall with e | e | e | e | e | e | e <;> rw [e] <;> decide
    refine wpAny_mono (Q := fun v s => ∃ ca' cs' B' h' t', v = .ref ca' ∧ s = ⟨h', g, d, t', os⟩ ∧ Ow h B (ow.map (·.1)) L B' ((sa, lstO svs sq) :: ow16) (upd m7 "codes" (.ref ca)) h' ∧ Le B16 B' ∧ IntsT B' ca' cs' ∧ cs'.length ≤ 3 ∧ (cs' = [12354] → 2 ≤ n)) ?_ ?_ fun _ _ e => e
    · refine wpAny_IfExp ?_
      refine wpAny_isTrue_BoolOp ?_
      refine wpAny_allTrue_And_cons ?_
      refine wpAny_isTrue_Compare1 ?_
      refine r_local (by assumption) rfl ?_
      refine Tuple_ ?_
      refine wpAny_items_cons ?_
      refine r_int ?_; intro _ _
      refine wpAny_items_nil ?_
      refine @r_tupleI _ _ _ _ _ _ _ _ _ _ _ _ _ _ _ _ _ _ _ O18 (.cons _ _ .nil) (Nat.le_of_ble_eq_true rfl) ?_
      intro b19 B19 h19 O19 le19 e19
      obtain ⟨cvs, ec, ic⟩ := hcs
      obtain ⟨xvs, ex, ix⟩ := e19
      refine r_eqInts (O19.tupl (le19 _ _ ec)) (O19.tupl ex) ic ix rd.unit ?_
      refine wpAny_truthy_bool ?_
      refine PyProof.Rows.split_dec (fun hT => ?_) (fun hF => ?_)
      · refine wpAny_allTrue_And_cons ?_
        refine wpAny_isTrue_Compare1 ?_
        refine r_local (by assumption) (by assumption) ?_
        refine r_int ?_; intro _ _
        refine PySem.P.eq_int ?_
        refine wpAny_truthy_bool ?_
        refine PyProof.Rows.split_bool (fun hT2 => ?_) (fun hF2 => ?_)
        · refine wpAny_allTrue_And_nil ?_
          refine iteT ?_
          refine Tuple_ ?_
          refine wpAny_items_cons ?_
          refine r_int ?_; intro _ _
          refine wpAny_items_nil ?_
          refine @r_tupleI _ _ _ _ _ _ _ _ _ _ _ _ _ _ _ _ _ _ _ O19 (.cons _ _ .nil) (Nat.le_of_ble_eq_true rfl) ?_
          intro b20 B20 h20 O20 le20 e20
          exact ⟨b20, [99], B20, h20, _, rfl, rfl, O20, Le.trans le19 le20, e20, by decide, fun e => by cases e⟩
        · refine iteF ?_
          refine r_local (by assumption) rfl ?_
          exact ⟨ca, cs, B19, h19, _, rfl, rfl, O19, le19, ⟨cvs, le19 _ _ ec, ic⟩, h3, fun _ => by simp at hF2; (first | lia | omega)⟩
      · refine iteF ?_
        refine r_local (by assumption) rfl ?_
        exact ⟨ca, cs, B19, h19, _, rfl, rfl, O19, le19, ⟨cvs, le19 _ _ ec, ic⟩, h3, fun e => absurd e hF⟩
    · rintro v s ⟨ca', cs', B20, h20, t20, rfl, rfl, O20, le20, hcs', h3', hn2⟩
      refine r_store O20 fun h21 t21 O21 => ?_
      refine wpAny_execs_cons ?_
      refine wpAny_Assign_Name ?_
      refine wpAny_mono (Q := fun v s => ∃ wd B' h' t' u', v = .int wd u' ∧ s = ⟨h', g, d, t', os⟩ ∧ Ow h B (ow.map (·.1)) L B' ((sa, lstO svs sq) :: ow16) (upd (upd m7 "codes" (.ref ca)) "codes" (.ref ca')) h' ∧ Le B20 B' ∧ wd = if cs' = [12354] then 2 else 1) ?_ ?_ fun _ _ e => e
      · refine wpAny_IfExp ?_
        refine wpAny_isTrue_Compare1 ?_
        refine r_local (by assumption) rfl ?_
        refine Tuple_ ?_
        refine wpAny_items_cons ?_
        refine r_int ?_; intro _ _
        refine wpAny_items_nil ?_
        refine @r_tupleI _ _ _ _ _ _ _ _ _ _ _ _ _ _ _ _ _ _ _ O21 (.cons _ _ .nil) (Nat.le_of_ble_eq_true rfl) ?_
        intro b22 B22 h22 O22 le22 e22
        obtain ⟨cvs, ec, ic⟩ := hcs'
        obtain ⟨xvs, ex, ix⟩ := e22
        refine r_eqInts (O22.tupl (le22 _ _ ec)) (O22.tupl ex) ic ix rd.unit ?_
        refine wpAny_truthy_bool ?_
        refine PyProof.Rows.split_dec (fun hT => ?_) (fun hF => ?_)
        · refine r_int ?_; intro _ _
          exact ⟨2, B22, h22, _, _, rfl, rfl, O22, le22, by rw [if_pos hT]⟩
        · refine r_int ?_; intro _ _
          exact ⟨1, B22, h22, _, _, rfl, rfl, O22, le22, by rw [if_neg hF]⟩
      · rintro v s ⟨wd, B22, h22, t22, u22, rfl, rfl, O22, le22, hwd⟩
        refine r_store O22 fun h23 t23 O23 => ?_
        have hw : wd = 1 ∨ wd = 2 := by rw [hwd]; split <;> simp
        have hwn : wd ≤ n := by rw [hwd]; split
                                · rename_i e; have := hn2 e; (first | lia | omega)
                                · (first | lia | omega)
        refine wpAny_execs_cons ?_
        refine wpAny_Expr_any ?_
        refine MethodCall_ ?_
        refine r_local (by assumption) (by assumption) ?_
        refine r_mAppend O23 (.head _) ?_
        refine r_callB ?_
        refine wpAny_items_cons ?_
        refine Tuple_ ?_
        refine wpAny_items_cons ?_
        refine r_local (by assumption) rfl ?_
        refine wpAny_items_cons ?_
        refine r_local (by assumption) rfl ?_
        refine wpAny_items_nil ?_
        refine r_tuple O23 fun b24 B24 h24 O24 le24 e24 => ?_
        refine wpAny_items_nil ?_
        refine r_append O24 0 rfl (fun h25 O25 => ?_) (by unfold sizeLine; (first | lia | omega))
        refine wpAny_execs_cons ?_
        refine wpAny_Assign_Name ?_
        refine wpAny_BinOp ?_
        refine r_local (by assumption) (by assumption) ?_
        refine r_local (by assumption) rfl ?_
        refine r_sub ?_; intro _ _
        refine r_store O25 fun h26 t26 O26 => ?_
        refine wpAny_execs_nil ?_
        have hsg : sgOk ⟨cs', wd⟩ := ⟨hw, fun (e : cs' = []) => by rw [hwd, e]; rfl, h3'⟩
        have hlen2 := layD_len_snoc sg ⟨cs', wd⟩ hw
        have hnw : (n : Int) - wd = ((((n : Int) - wd).toNat : Nat) : Int) := by (first | lia | omega)
        have leAll : Le B7 B24 := Le.trans (Le.trans le14 (Le.trans leA le20)) (Le.trans le22 le24)
        refine ⟨(n - wd).toNat, _, _, _, _, _, by (first | lia | omega), rfl, O26, Le.trans le7 leAll, svs ++ [.ref b24], sq + 1, ow16, sg ++ [⟨cs', wd⟩], _, rfl, F16.2.1.trans hmap, hd16, (hsv.mono fun _ _ y => y.mono leAll).append (.cons ⟨b24, ca', _, rfl, e24, hcs'.mono (Le.trans le22 le24)⟩ .nil), ?_, ?_, md, ms, (congrArg (fun z => some (Value.int z _)) hnw : some (Value.int ((n : Int) - wd) _) = some (Value.int ((((n : Int) - wd).toNat : Nat) : Int) _)), ?_⟩
        · intro c hc
          rcases List.mem_append.mp hc with hc | hc
          · exact hok c hc
          · rw [List.mem_singleton.mp hc]; exact hsg
        · simp only at hlen2; (first | lia | omega)
        · rw [List.length_append, List.length_singleton]; simp only at hlen2; (first | lia | omega)
  · refine wpAny_execs_nil ?_
    refine wpAny_execs_cons ?_
    refine wpAny_Return_some ?_
    refine r_local (by assumption) (by assumption) ?_
    have hn : n = 0 := by (first | lia | omega)
    have mk := O7.mn (sa, lstO svs sq) (.head _)
    have hsa : h.get? sa = none := by
      refine mk.2.2.2.elim (fun z => ?_) id
      rw [← hmap] at z
      obtain ⟨q, hq, e⟩ := List.mem_map.mp z
      exact absurd e.symm ((List.pairwise_cons.mp O7.nd).1 q hq)
    have O8 := O7.drop (own' := ow') (List.sublist_cons_self _ _)
    exact k _ _ _ ow' sa svs sq sg (O8.endsAll hmap) hd7 ⟨hsa, mk.1, mk.2.2.1⟩ hsv ⟨hok, by (first | lia | omega)⟩
end
end

section
open PySem PySem.W PySem.Calls PyProof.Rows PySem.SeqAt

inductive RowV (B : Sto) (v : Value) (sg : List Cell) : Prop
  | mk (sa : Addr) (svs : List Value) (sq : Nat) (e : v = .ref sa) (f : B sa = some (lstO svs sq)) (g : Each (SgV B) svs sg) : RowV B v sg
theorem RowV.mono {B B' : Sto} {v : Value} {sg : List Cell} (x : RowV B v sg) (le : Le B B') : RowV B' v sg := let ⟨a, b, c, e, f, g⟩ := x; ⟨a, b, c, e, le _ _ f, g.mono fun _ _ y => y.mono le⟩
def BoolV (v : Value) (b : Bool) : Prop := v = .bool b
/-- an entry of the law's own counting -/
abbrev Lc := Nat × Nat × Int × Bool
inductive LcV (B : Sto) (v : Value) (x : Lc) : Prop
  | mk (a : Addr) (u1 u2 u3 : Tok) (e : v = .ref a) (f : B a = some (tupO [.int x.1 u1, .int x.2.1 u2, .int x.2.2.1 u3, .bool x.2.2.2])) : LcV B v x
theorem LcV.mono {B B' : Sto} {v : Value} {x : Lc} (t : LcV B v x) (le : Le B B') : LcV B' v x := let ⟨a, u1, u2, u3, e, f⟩ := t; ⟨a, u1, u2, u3, e, le _ _ f⟩
def trimS (sg : List Cell) : Nat → Nat
  | 0 => 0
  | n + 1 => if (sg[n]?).map (·.codes.isEmpty) = some true then trimS sg n else n + 1
/-- what a row shows -/
def shownD (rows : List (List Cell)) (goes : List Bool) (r : Nat) : List Cell := match rows[r]? with
  | none => []
  | some sg => if goes[r]? = some true then
      (if (match sg.getLast? with | some c => c.codes.isEmpty | none => false) && (match rows[r + 1]? with | some (c :: _) => c.w == 2 | _ => false) then sg.take (sg.length - 1) else sg)
    else sg.take (trimS sg sg.length)
def sigLc (r col : Nat) (w : Int) (n : Nat) : List Lc := (List.range n).map fun i => (r, col, (col : Int) + w - 1, i == 0)
def preLc (r : Nat) (sh : List Cell) : Nat → List Lc
  | 0 => []
  | j + 1 => preLc r sh j ++ (match sh[j]? with | some c => sigLc r (layD (sh.take j)).length c.w (max 1 c.codes.length) | none => [])
def rowLc (rows : List (List Cell)) (goes : List Bool) (r : Nat) : List Lc :=
  preLc r (shownD rows goes r) (shownD rows goes r).length ++ (if goes[r]? = some true then [] else [(r, (layD (shownD rows goes r)).length, ((layD (shownD rows goes r)).length : Int), true)])
def lcD (rows : List (List Cell)) (goes : List Bool) : Nat → List Lc
  | 0 => []
  | r + 1 => lcD rows goes r ++ rowLc rows goes r
theorem sigLc_len (r col : Nat) (w : Int) (n : Nat) : (sigLc r col w n).length = n := by simp [sigLc]
theorem sigLc_succ (r col : Nat) (w : Int) (n : Nat) : sigLc r col w (n + 1) = sigLc r col w n ++ [(r, col, (col : Int) + w - 1, n == 0)] := by
  unfold sigLc
  rw [List.range_succ, List.map_append]
  rfl
theorem preLc_len {r : Nat} {sh : List Cell} (ok : ∀ c ∈ sh, sgOk c) : ∀ j, (preLc r sh j).length ≤ 3 * j
  | 0 => Nat.le_refl _
  | j + 1 => by
    unfold preLc
    rw [List.length_append]
    have := preLc_len (r := r) ok j
    cases h : sh[j]? with
    | none => simp; (first | lia | omega)
    | some c =>
      have := (ok c (List.mem_of_getElem? h)).2.2
      simp only [sigLc_len]
      (first | lia | omega)
theorem layD_cons_le (sg : List Cell) : sg.length ≤ (layD sg).length := by
  induction sg with
  | nil => exact Nat.le_refl _
  | cons c r ih =>
    have : layD (c :: r) = sgC c ++ layD r := rfl
    rw [this, List.length_append, List.length_cons]
    have : 1 ≤ (sgC c).length := by unfold sgC; split <;> simp
    (first | lia | omega)
theorem shown_take (rows : List (List Cell)) (goes : List Bool) (r : Nat) : ∃ n, shownD rows goes r = ((rows[r]?).getD []).take n := by
  unfold shownD
  cases h : rows[r]? with
  | none => exact ⟨0, rfl⟩
  | some sg =>
    simp only [Option.getD_some]
    by_cases hg : goes[r]? = some true
    · rw [if_pos hg]
      generalize ((match sg.getLast? with | some c => c.codes.isEmpty | none => false) && (match rows[r + 1]? with | some (c :: _) => c.w == 2 | _ => false)) = b
      cases b with
      | true => exact ⟨_, rfl⟩
      | false => exact ⟨sg.length, by simp⟩
    · rw [if_neg hg]
      exact ⟨_, rfl⟩
theorem shown_len {rows : List (List Cell)} {goes : List Bool} {r : Nat} (ok : ∀ sg ∈ rows, RowOk sg) : (shownD rows goes r).length ≤ 4 ∧ (∀ c ∈ shownD rows goes r, sgOk c) := by
  obtain ⟨n, e⟩ := shown_take rows goes r
  rw [e]
  cases h : rows[r]? with
  | none => simp
  | some sg =>
    have := ok sg (List.mem_of_getElem? h)
    refine ⟨?_, fun c hc => this.ok c (List.mem_of_mem_take hc)⟩
    have := layD_cons_le sg
    rw [(ok sg (List.mem_of_getElem? h)).len] at this
    simp only [Option.getD_some, List.length_take]
    (first | lia | omega)
theorem rowLc_len {rows : List (List Cell)} {goes : List Bool} {r : Nat} (ok : ∀ sg ∈ rows, RowOk sg) : (rowLc rows goes r).length ≤ 13 := by
  unfold rowLc
  rw [List.length_append]
  obtain ⟨h1, h2⟩ := shown_len (goes := goes) (r := r) ok
  have := preLc_len (r := r) h2 (shownD rows goes r).length
  split <;> simp <;> (first | lia | omega)
theorem lcD_len {rows : List (List Cell)} {goes : List Bool} (ok : ∀ sg ∈ rows, RowOk sg) : ∀ r, (lcD rows goes r).length ≤ 13 * r
  | 0 => Nat.le_refl _
  | r + 1 => by
    unfold lcD
    rw [List.length_append]
    have := lcD_len (goes := goes) ok r
    have := rowLc_len (goes := goes) (r := r) ok
    (first | lia | omega)
/-- what holds between the turns of _law_codes' loops -/
inductive LcI1 (rows : List (List Cell)) (goes : List Bool) (ra ga F : Addr) (i : Nat) (B' : Sto) (own' : Own) (m' : Str → Option Value) : Prop
  | mk (vs : List Value) (q : Nat) (e : own' = [(F, lstO vs q)]) (hv : Each (LcV B') vs (lcD rows goes i)) (m1 : m' "rows" = some (.ref ra)) (m2 : m' "goes" = some (.ref ga)) (m3 : m' "found" = some (.ref F)) : LcI1 rows goes ra ga F i B' own' m'
inductive LcI2 (base : List Lc) (i : Nat) (sh : List Cell) (ra ga F : Addr) (j : Nat) (B' : Sto) (own' : Own) (m' : Str → Option Value) : Prop
  | mk (vs' : List Value) (q' : Nat) (u1 u2 : Tok) (e : own' = [(F, lstO vs' q')]) (hv : Each (LcV B') vs' (base ++ preLc i sh j)) (m1 : m' "rows" = some (.ref ra)) (m2 : m' "goes" = some (.ref ga)) (m3 : m' "found" = some (.ref F)) (m4 : m' "at" = some (.int i u1)) (m5 : m' "column" = some (.int ((layD (sh.take j)).length : Nat) u2)) : LcI2 base i sh ra ga F j B' own' m'
inductive LcI3 (base : List Lc) (i col : Nat) (wd : Int) (ra ga F : Addr) (n : Nat) (B' : Sto) (own' : Own) (m' : Str → Option Value) : Prop
  | mk (vs2 : List Value) (q2 : Nat) (u1 u2 u3 : Tok) (e : own' = [(F, lstO vs2 q2)]) (hv : Each (LcV B') vs2 (base ++ sigLc i col wd n)) (m1 : m' "rows" = some (.ref ra)) (m2 : m' "goes" = some (.ref ga)) (m3 : m' "found" = some (.ref F)) (m4 : m' "at" = some (.int i u1)) (m5 : m' "column" = some (.int (col : Nat) u2)) (m6 : m' "width" = some (.int wd u3)) : LcI3 base i col wd ra ga F n B' own' m'
section
variable {prog : Program} {w : World} {A : Around} {E : Value → Shared → Prop} {Q : Value → Shared → Prop} {QU : Unit → Shared → Prop} {R : Result → Shared → Prop}
variable {h : Heap} {B : Sto} {g : Array GenState} {d : Drawn} {t : Nat} {os : OsState} {v : Value} {ow : Own} {x : Addr} {l : LineD}
variable {K : Frag} {N : Nm} {Y : Nb} {p : Program} {loose : List Str} {mg mb : Str → Option Value} {H : Heap}

set_option maxHeartbeats 1000000 in
set_option maxRecDepth 10000 in
theorem c_lcodes (W : Wd K p loose mg mb H) (Z : OkB K N Y) (Zv : OkV K N) (hH : Le H.get? B) (kp : Kp B h) (r : Room A 3) {ra ga : Addr} {rvs gvs : List Value} {rq gq : Nat} {rows : List (List Cell)} {goes : List Bool}
    (hr : B ra = some (lstO rvs rq)) (hrv : Each (RowV B) rvs rows) (hg : B ga = some (lstO gvs gq)) (hgv : Each BoolV gvs goes) (hlen : goes.length = rows.length) (hok : ∀ sg ∈ rows, RowOk sg) (hgo : ∀ i, goes[i]? = some true → i + 1 < rows.length) (hz : rows.length ≤ 100)
    (k : ∀ B' h' t' a vs q, Grow h B [] B' h' → B' a = some (lstO vs q) → Each (LcV B') vs (lcD rows goes rows.length) → Q (.ref a) ⟨h', g, d, t', os⟩) : wpAny (model prog w) A (call (.ref Y.lcodes) [.ref ra, .ref ga]) Q E ⟨h, g, d, t, os⟩ := by
  refine enterF (own := []) (binds := [("rows", .ref ra), ("goes", .ref ga)]) W hH kp (by simp) .nil Z.f_lcodes r.room fun L h1 t1 cdv O => ?_
  have rd := r.deeper (env := envOf "_law_codes" (scpF (top 38)) L Y.lcodes cdv)
  refine wpAny_execs_cons ?_
  refine wpAny_Assign_Name ?_
  refine List_ ?_
  refine wpAny_items_nil ?_
  refine r_list O fun F h2 O2 => ?_
  refine r_store O2 fun h3 t3 O3 => ?_
  refine wpAny_execs_cons ?_
  refine wpAny_For ?_
  refine Call_ ?_
  refine r_builtin (by assumption) (by assumption) (by assumption) (by exact OkV.b_enumerate (by assumption)) (by boot_by_name) ?_
  refine r_callT ?_
  refine wpAny_items_cons ?_
  refine r_local (by assumption) rfl ?_
  refine wpAny_items_nil ?_
  refine r_enum rd.handled O3 (O3.g.sub _ _ hr) fun I h4 t4 O4 S4 => ?_
  refine for_pair (P2 := fun j v1 v2 => (∃ u, v1 = .int j u) ∧ rvs[j]? = some v2) rd.handled S4 (fun j vals hP => ?_) O4
    (LcI1 rows goes ra ga F)
    ⟨[], 0, rfl, .nil, rfl, rfl, rfl⟩ (fun i v1 v2 B5 own5 m5 h5 t5 E5 hi hP inv le5 O5 N5 => ?_) (fun B5 own5 m5 h5 t5 inv le5 O5 => ?_)
  · obtain ⟨u, x, h1, h2⟩ := hP
    exact ⟨_, _, h2, ⟨u, rfl⟩, h1⟩
  · obtain ⟨⟨u1, rfl⟩, hv2⟩ := hP
    obtain ⟨vs, q, rfl, hvs, mr, mg5, mf⟩ := inv
    have hi' : i < rows.length := by rw [← hrv.length]; exact hi
    obtain ⟨v2', ev2, sa, svs, sq, rfl, esa, hsv⟩ := hrv.get i _ (List.getElem?_eq_getElem hi')
    rw [hv2] at ev2
    cases ev2
    have hsok := hok _ (List.getElem_mem hi')
    have hrow : rows[i]? = some rows[i] := List.getElem?_eq_getElem hi'
    generalize rows[i] = sg at hsv hsok hrow
    obtain ⟨bv, ebv, hbv⟩ := hgv.get i _ (List.getElem?_eq_getElem (by rw [hlen]; exact hi'))
    have hgi : goes[i]? = some (goes[i]'(by rw [hlen]; exact hi')) := List.getElem?_eq_getElem _
    generalize goes[i]'(by rw [hlen]; exact hi') = go at hbv hgi
    cases hbv
    have hH5 := Le.trans hH O5.g.sub
    refine r_store N5 fun h6 t6 N6 => ?_
    refine r_store N6 fun h7 t7 N7 => ?_
    refine wpAny_execs_cons ?_
    refine wpAny_Assign_Name ?_
    refine Call_ ?_
    refine r_builtin (by assumption) (by assumption) (by assumption) (by exact OkB.b_list (by assumption)) (by boot_by_name) ?_
    refine r_callT ?_
    refine wpAny_items_cons ?_
    refine r_local (by assumption) rfl ?_
    refine wpAny_items_nil ?_
    refine r_listOf (N7.g.keep _ _ (O5.g.sub _ _ esa)) N7 (by rw [hsv.length]; have := layD_cons_le sg; rw [hsok.len] at this; unfold sizeLine; (first | lia | omega)) fun S h8 q8 N8 => ?_
    refine r_store N8 fun h9 t9 N9 => ?_
    refine wpAny_execs_cons ?_
    refine wpAny_While ?_
    have hsl := hsv.length
    have hsl4 : sg.length ≤ 4 := by have := layD_cons_le sg; rw [hsok.len] at this; exact this
    have hga := O5.g.sub _ _ hg
    have hgB := hgi
    refine codeAny_mono (R := fun r s => ∃ k B' h' t' q' m', r = .ok .next ∧ s = ⟨h', g, d, t', os⟩ ∧ Le B5 B' ∧ Ow h5 B5 [(envOf "_law_codes" (scpF (top 38)) L Y.lcodes cdv).locals, F] L B' [(S, lstO (svs.take k) q'), (F, lstO vs q)] m' h' ∧ k ≤ sg.length ∧ k = (if go = true then sg.length else trimS sg sg.length) ∧
      m' "rows" = some (.ref ra) ∧ m' "goes" = some (.ref ga) ∧ m' "found" = some (.ref F) ∧ m' "shown" = some (.ref S) ∧ ∃ u, m' "at" = some (.int i u)) ?_ ?_
    · refine while_own N9 (fun k _ own' m' => ∃ q' u, own' = [(S, lstO (svs.take k) q'), (F, lstO vs q)] ∧ k ≤ sg.length ∧ (go = true → k = sg.length) ∧ trimS sg k = trimS sg sg.length ∧ m' "rows" = some (.ref ra) ∧ m' "goes" = some (.ref ga) ∧ m' "found" = some (.ref F) ∧ m' "shown" = some (.ref S) ∧ m' "at" = some (.int i u)) sg.length ?_ fun k B10 own10 m10 h10 t10 inv le10 O10 => ?_
      · exact ⟨q8, u1, by rw [← hsl, List.take_length], Nat.le_refl _, fun _ => rfl, rfl, mr, mg5, mf, rfl, rfl⟩
      · obtain ⟨q', u, rfl, hk, hkg, htr, m1, m2, m3, m4, m5'⟩ := inv
        refine wpAny_isTrue_BoolOp ?_
        refine wpAny_allTrue_And_cons ?_
        refine wpAny_isTrue_Not ?_
        refine wpAny_isTrue_value ?_
        refine Subscript_ ?_
        refine r_local (by assumption) (by assumption) ?_
        refine r_local (by assumption) (by assumption) ?_
        refine r_lstItem (O10.lst (le10 _ _ hga)) (by (first | lia | omega)) (by (first | lia | omega)) (by simpa using ebv) ?_
        refine wpAny_truthy_bool ?_
        cases go with
        | true =>
          refine iteF ?_
          refine iteF ?_
          refine wpAny_execs_nil ?_
          exact ⟨k, _, _, _, q', _, rfl, rfl, le10, O10, hk, by rw [if_pos rfl]; exact hkg rfl, m1, m2, m3, m4, _, m5'⟩
        | false =>
          refine iteT ?_
          refine wpAny_allTrue_And_cons ?_
          refine wpAny_isTrue_Compare1 ?_
          refine r_local (by assumption) (by assumption) ?_
          refine List_ ?_
          refine wpAny_items_nil ?_
          refine r_list O10 fun e h11 O11 => ?_
          refine r_lstNeNil (O11.mn _ (.tail _ (.head _))).1 (O11.mn _ (.head _)).1 rd.unit ?_
          refine wpAny_truthy_bool ?_
          cases k with
          | zero =>
            refine iteF ?_
            refine iteF ?_
            refine wpAny_execs_nil ?_
            exact ⟨0, _, _, _, q', _, rfl, rfl, le10, O11.drop (List.sublist_cons_self _ _), hk, by rw [if_neg Bool.false_ne_true]; exact htr, m1, m2, m3, m4, _, m5'⟩
          | succ k =>
            have hks : k < svs.length := by (first | lia | omega)
            obtain ⟨c, hc⟩ : ∃ c, sg[k]? = some c := ⟨_, List.getElem?_eq_getElem (by (first | lia | omega))⟩
            obtain ⟨cv, ecv, ca, cca, cu, rfl, eca, cvs, ecc, hcc⟩ := hsv.get k c hc
            have etk : svs.take (k + 1) = svs.take k ++ [.ref ca] := by rw [List.take_add_one, ecv]; rfl
            have hlk : (svs.take k).length = k := by rw [List.length_take]; (first | lia | omega)
            rw [etk] at O11 ⊢
            rw [show (svs.take k ++ [Value.ref ca]).isEmpty = false by simp]
            refine iteT ?_
            refine wpAny_allTrue_And_cons ?_
            refine wpAny_isTrue_Compare1 ?_
            refine Subscript_ ?_
            refine Subscript_ ?_
            refine r_local (by assumption) (by assumption) ?_
            refine wpAny_UnaryOp ?_
            refine r_int ?_; intro _ _
            refine r_neg ?_; intro _ _
            refine r_lstItemN (O11.mlst (.tail _ (.head _))) (by decide) (by simp; (first | lia | omega)) (v := .ref ca) (by
              rw [List.length_append, hlk, List.length_singleton, show ((-1 : Int) + ((k + 1 : Nat) : Int)).toNat = k by (first | lia | omega), List.getElem?_append_right (by (first | lia | omega)), hlk, Nat.sub_self]; rfl) ?_
            refine r_int ?_; intro _ _
            refine r_tupItem (O11.tup (le10 _ _ (O5.g.sub _ _ eca))) rfl rfl ?_
            refine Tuple_ ?_
            refine wpAny_items_nil ?_
            refine r_tuple O11 fun e2 B12 h12 O12 le12 e12 => ?_
            refine r_eqNil (O12.tupl (le12 _ _ (le10 _ _ (O5.g.sub _ _ ecc)))) (O12.tupl e12) rd.unit ?_
            refine wpAny_truthy_bool ?_
            rw [ints_empty hcc]
            refine PyProof.Rows.split_bool (fun hT => ?_) (fun hF => ?_)
            · refine wpAny_allTrue_And_nil ?_
              refine iteT ?_
              refine wpAny_execs_cons ?_
              refine wpAny_Expr_any ?_
              refine MethodCall_ ?_
              refine r_local (by assumption) (by assumption) ?_
              refine r_mPop O12 (.tail _ (.head _)) ?_
              refine r_callB0 ?_
              refine r_popLast O12 1 rfl (fun h13 q13 O13 => ?_) (by simp; unfold sizeLine; (first | lia | omega))
              refine wpAny_execs_nil ?_
              have htr' : trimS sg (k + 1) = trimS sg k := by
                show (if (sg[k]?).map (·.codes.isEmpty) = some true then trimS sg k else k + 1) = _
                rw [hc, if_pos (by simpa using hT)]
              exact ⟨k, _, _, _, _, _, Nat.lt_succ_self _, rfl, O13.drop (List.sublist_cons_self _ _), Le.trans le10 le12, q13, u, rfl, by (first | lia | omega), (fun e => by cases e), htr'.symm.trans htr, m1, m2, m3, m4, m5'⟩
            · refine iteF ?_
              refine wpAny_execs_nil ?_
              have htr' : trimS sg (k + 1) = k + 1 := by
                show (if (sg[k]?).map (·.codes.isEmpty) = some true then trimS sg k else k + 1) = _
                rw [hc, if_neg (by simpa using hF)]
              refine ⟨k + 1, _, _, _, q', _, rfl, rfl, Le.trans le10 le12, ?_, hk, by rw [if_neg Bool.false_ne_true, ← htr, htr'], m1, m2, m3, m4, _, m5'⟩
              rw [etk]
              exact O12.drop (List.sublist_cons_self _ _)
    · rintro r s ⟨k, B10, h10, t10, q', m10, rfl, rfl, le10, O10, hk, hke, m1, m2, m3, m4, u10, m5'⟩
      refine wpAny_execs_cons ?_
      refine wpAny_mono (Q := fun f s => ∃ k2 B' h' t' q', f = .next ∧ s = ⟨h', g, d, t', os⟩ ∧ Le B5 B' ∧ Ow h5 B5 [(envOf "_law_codes" (scpF (top 38)) L Y.lcodes cdv).locals, F] L B' [(S, lstO (svs.take k2) q'), (F, lstO vs q)] m10 h' ∧ sg.take k2 = shownD rows goes i) ?_ ?_ fun _ _ e => e
      · refine wpAny_If ?_
        refine wpAny_isTrue_BoolOp ?_
        refine wpAny_allTrue_And_cons ?_
        refine wpAny_isTrue_value ?_
        refine Subscript_ ?_
        refine r_local (by assumption) (by assumption) ?_
        refine r_local (by assumption) (by assumption) ?_
        refine r_lstItem (O10.lst (le10 _ _ hga)) (by (first | lia | omega)) (by (first | lia | omega)) (by simpa using ebv) ?_
        refine wpAny_truthy_bool ?_
        cases go with
        | false =>
          refine iteF ?_
          refine iteF ?_
          refine wpAny_execs_nil ?_
          refine ⟨k, _, _, _, q', rfl, rfl, le10, O10, ?_⟩
          unfold shownD
          rw [hrow, hgi]
          simp only [if_neg Bool.false_ne_true] at hke
          simp [hke]
        | true =>
          rw [if_pos rfl] at hke
          subst hke
          refine iteT ?_
          refine wpAny_allTrue_And_cons ?_
          refine wpAny_isTrue_Compare1 ?_
          refine Subscript_ ?_
          refine Subscript_ ?_
          refine r_local (by assumption) (by assumption) ?_
          refine wpAny_UnaryOp ?_
          refine r_int ?_; intro _ _
          refine r_neg ?_; intro _ _
          obtain ⟨n, hn⟩ : ∃ n, sg.length = n + 1 := ⟨sg.length - 1, by
            have h4 := hsok.len
            cases sg with
            | nil => cases h4
            | cons c r => simp⟩
          have hsh : shownD rows goes i = (if (match sg.getLast? with | some c => c.codes.isEmpty | none => false) && (match rows[i + 1]? with | some (c :: _) => c.w == 2 | _ => false) then sg.take (sg.length - 1) else sg) := by
            unfold shownD
            rw [hrow, hgi]
            simp
          obtain ⟨c, hc⟩ : ∃ c, sg[n]? = some c := ⟨_, List.getElem?_eq_getElem (by (first | lia | omega))⟩
          obtain ⟨cv, ecv, ca, cca, cu, rfl, eca, cvs, ecc, hcc⟩ := hsv.get n c hc
          have hgl : sg.getLast? = some c := by rw [List.getLast?_eq_getElem?, hn]; exact hc
          have etk : svs.take sg.length = svs.take n ++ [.ref ca] := by rw [hn, List.take_add_one, ecv]; rfl
          have hlk : (svs.take n).length = n := by rw [List.length_take]; (first | lia | omega)
          rw [etk] at O10
          refine r_lstItemN (O10.mlst (.head _)) (by decide) (by simp; (first | lia | omega)) (v := .ref ca) (by
              rw [List.length_append, hlk, List.length_singleton, show ((-1 : Int) + ((n + 1 : Nat) : Int)).toNat = n by (first | lia | omega), List.getElem?_append_right (by (first | lia | omega)), hlk, Nat.sub_self]; rfl) ?_
          refine r_int ?_; intro _ _
          refine r_tupItem (O10.tup (le10 _ _ (O5.g.sub _ _ eca))) rfl rfl ?_
          refine Tuple_ ?_
          refine wpAny_items_nil ?_
          refine r_tuple O10 fun e2 B12 h12 O12 le12 e12 => ?_
          refine r_eqNil (O12.tupl (le12 _ _ (le10 _ _ (O5.g.sub _ _ ecc)))) (O12.tupl e12) rd.unit ?_
          refine wpAny_truthy_bool ?_
          rw [ints_empty hcc]
          refine PyProof.Rows.split_bool (fun hT => ?_) (fun hF => ?_)
          · have hi1 := hgo i hgi
            obtain ⟨rv2, erv2, sa2, svs2, sq2, rfl, esa2, hsv2⟩ := hrv.get (i + 1) _ (List.getElem?_eq_getElem hi1)
            have hsok2 := hok _ (List.getElem_mem hi1)
            have hrow2 : rows[i + 1]? = some rows[i + 1] := List.getElem?_eq_getElem hi1
            generalize rows[i + 1] = sg2 at hsv2 hsok2 hrow2
            cases hsv2 with
            | nil => cases hsok2.len
            | @cons v2 c2 svs2 sg2 hv2 hrest =>
              obtain ⟨ca2, cca2, cu2, rfl, eca2, hcc2⟩ := hv2
              have up12 := Le.trans O5.g.sub (Le.trans le10 le12)
              refine wpAny_allTrue_And_cons ?_
              refine wpAny_isTrue_Compare1 ?_
              refine Subscript_ ?_
              refine Subscript_ ?_
              refine Subscript_ ?_
              refine r_local (by assumption) (by assumption) ?_
              refine wpAny_BinOp ?_
              refine r_local (by assumption) (by assumption) ?_
              refine r_int ?_; intro _ _
              refine r_add ?_; intro _ _
              refine r_lstItem (O12.lst (up12 _ _ hr)) (by (first | lia | omega)) (by (first | lia | omega)) (by rw [show ((i : Int) + 1).toNat = i + 1 by (first | lia | omega)]; exact erv2) ?_
              refine r_int ?_; intro _ _
              refine r_lstItem (O12.lst (up12 _ _ esa2)) (by decide) (by decide) rfl ?_
              refine r_int ?_; intro _ _
              refine r_tupItem (O12.tup (up12 _ _ eca2)) rfl rfl ?_
              refine r_int ?_; intro _ _
              refine PySem.P.eq_int ?_
              refine wpAny_truthy_bool ?_
              refine PyProof.Rows.split_bool (fun hT2 => ?_) (fun hF2 => ?_)
              · refine wpAny_allTrue_And_nil ?_
                refine iteT ?_
                refine wpAny_execs_cons ?_
                refine wpAny_Expr_any ?_
                refine MethodCall_ ?_
                refine r_local (by assumption) (by assumption) ?_
                refine r_mPop O12 (.head _) ?_
                refine r_callB0 ?_
                refine r_popLast O12 0 rfl (fun h13 q13 O13 => ?_) (by simp; unfold sizeLine; (first | lia | omega))
                refine wpAny_execs_nil ?_
                refine ⟨n, _, _, _, q13, rfl, rfl, Le.trans le10 le12, O13, ?_⟩
                rw [hsh, hgl, hrow2]
                simp only [hT, hT2, Bool.and_self, if_true, hn, Nat.add_sub_cancel]
              · refine iteF ?_
                refine wpAny_execs_nil ?_
                refine ⟨sg.length, _, _, _, q', rfl, rfl, Le.trans le10 le12, by rw [etk]; exact O12, ?_⟩
                rw [hsh, hgl, hrow2]
                simp [hF2]
          · refine iteF ?_
            refine wpAny_execs_nil ?_
            refine ⟨sg.length, _, _, _, q', rfl, rfl, Le.trans le10 le12, by rw [etk]; exact O12, ?_⟩
            rw [hsh, hgl]
            simp [hF]
      · rintro f s ⟨k2, B14, h14, t14, q14, rfl, rfl, le14, O14, hsh⟩
        refine wpAny_execs_cons ?_
        refine wpAny_Assign_Name ?_
        refine r_int ?_; intro _ _
        refine r_store O14 fun h15 t15 O15 => ?_
        refine wpAny_execs_cons ?_
        refine wpAny_For ?_
        refine r_local (by assumption) (by assumption) ?_
        have hSF : S ≠ F := (List.pairwise_cons.mp O15.nd).1 _ (.head _)
        have hSL := (O15.mn _ (.head _)).2.1
        obtain ⟨O16, le16, e16⟩ := O15.rest (by
          intro z
          rcases List.mem_cons.mp z with z | z
          · exact hSL z
          · exact hSF (List.mem_singleton.mp z))
        have hE := (hsv.take k2).mono fun _ _ y => y.mono (Le.trans O5.g.sub (Le.trans le14 le16))
        rw [hsh] at hE
        obtain ⟨hs4, hsgok⟩ := shown_len (goes := goes) (r := i) hok
        have hlc := lcD_len (goes := goes) hok i
        generalize hshg : shownD rows goes i = sh at hE hs4 hsgok
        refine r_iterPairs (xs := pairAt _ (svs.take k2)) rd.handled O16 e16 (pairs_of hE).1 fun I2 h17 t17 O17 S17 => ?_
        refine for_pair (P2 := fun j v1 v2 => ∀ c, sh[j]? = some c → ∃ ca u, v1 = .ref ca ∧ v2 = .int c.w u ∧ IntsT _ ca c.codes) rd.handled S17 (fun j vals hP => by subst hP; exact (pairs_of hE).2 j) O17
          (LcI2 (lcD rows goes i) i sh ra ga F)
          ⟨vs, q, _, _, rfl, by rw [show preLc i sh 0 = [] from rfl, List.append_nil]; exact hvs.mono fun _ _ y => y.mono (Le.trans le14 le16), m1, m2, m3, m5', rfl⟩
          (fun j v1 v2 B18 own18 m18 h18 t18 E18 hj hP inv le18 O18 N18 => ?_) (fun B18 own18 m18 h18 t18 inv le18 O18 => ?_)
        · have hj' : j < sh.length := by rw [← hE.length]; exact hj
          have hc : sh[j]? = some sh[j] := List.getElem?_eq_getElem hj'
          have hcok := hsgok _ (List.getElem_mem hj')
          generalize sh[j] = c at hc hcok
          obtain ⟨ca, cu, rfl, rfl, cvs, eca, hcv⟩ := hP c hc
          obtain ⟨vs', q', v1', v2', rfl, hvs', n1, n2, n3, n4, n5⟩ := inv
          have hH18 := Le.trans hH5 O18.g.sub
          have etake : sh.take (j + 1) = sh.take j ++ [c] := by rw [List.take_add_one, hc]; rfl
          have hcol : ((layD (sh.take (j + 1))).length : Int) = (layD (sh.take j)).length + c.w := by
            rw [etake]; exact layD_len_snoc _ _ hcok.1
          have hpre : preLc i sh (j + 1) = preLc i sh j ++ sigLc i (layD (sh.take j)).length c.w (max 1 c.codes.length) := by
            rw [preLc, hc]
          have hpl := preLc_len (r := i) hsgok j
          have hcl := hcok.2.2
          refine r_store N18 fun h19 t19 N19 => ?_
          refine r_store N19 fun h20 t20 N20 => ?_
          refine wpAny_execs_cons ?_
          refine wpAny_For ?_
          refine Call_ ?_
          refine r_builtin (by assumption) (by assumption) (by assumption) (by exact OkV.b_range (by assumption)) (by boot_by_name) ?_
          refine r_callT ?_
          refine wpAny_items_cons ?_
          refine Call_ ?_
          refine r_builtin (by assumption) (by assumption) (by assumption) (by exact OkB.b_max (by assumption)) (by boot_by_name) ?_
          refine r_callB ?_
          refine wpAny_items_cons ?_
          refine r_int ?_; intro _ _
          refine wpAny_items_cons ?_
          refine Call_ ?_
          refine r_builtin (by assumption) (by assumption) (by assumption) (by exact OkV.b_len (by assumption)) (by boot_by_name) ?_
          refine r_callB ?_
          refine wpAny_items_cons ?_
          refine r_local (by assumption) rfl ?_
          refine wpAny_items_nil ?_
          refine r_lenT (N20.tup (le18 _ _ eca)) (by rw [hcv.length]; (first | lia | omega)) fun u21 t21 => ?_
          refine wpAny_items_nil ?_
          refine r_max rd.handled N20 fun u22 h22 t22 N22 => ?_
          rw [hcv.length, show max (1 : Int) (c.codes.length : Int) = ((max 1 c.codes.length : Nat) : Int) by (first | lia | omega)]
          refine wpAny_items_nil ?_
          refine r_range rd.handled N22 (by (first | lia | omega)) fun I3 h23 t23 N23 S23 => ?_
          refine for_name S23 N23 (LcI3 (lcD rows goes i ++ preLc i sh j) i (layD (sh.take j)).length c.w ra ga F)
            ⟨vs', q', _, _, _, rfl, by rw [show sigLc i (layD (sh.take j)).length c.w 0 = [] from rfl, List.append_nil]; exact hvs', n1, n2, n3, n4, n5, rfl⟩
            (fun n vn B24 own24 m24 h24 t24 E24 hn hvn inv le24 O24 N24 => ?_) (fun B24 own24 m24 h24 t24 inv le24 O24 => ?_)
          · obtain ⟨un, rfl⟩ := hvn
            obtain ⟨vs2, q2, w1, w2, w3, rfl, hvs2, p1, p2, p3, p4, p5, p6⟩ := inv
            have hlen2 := hvs2.length
            rw [List.length_append, List.length_append, sigLc_len] at hlen2
            refine r_store N24 fun h25 t25 N25 => ?_
            refine wpAny_execs_cons ?_
            refine wpAny_Expr_any ?_
            refine MethodCall_ ?_
            refine r_local (by assumption) (by assumption) ?_
            refine r_mAppend N25 (.head _) ?_
            refine r_callB ?_
            refine wpAny_items_cons ?_
            refine Tuple_ ?_
            refine wpAny_items_cons ?_
            refine r_local (by assumption) (by assumption) ?_
            refine wpAny_items_cons ?_
            refine r_local (by assumption) (by assumption) ?_
            refine wpAny_items_cons ?_
            refine wpAny_BinOp ?_
            refine wpAny_BinOp ?_
            refine r_local (by assumption) (by assumption) ?_
            refine r_local (by assumption) (by assumption) ?_
            refine r_add ?_; intro _ _
            refine r_int ?_; intro _ _
            refine r_sub ?_; intro _ _
            refine wpAny_items_cons ?_
            refine wpAny_Compare1 ?_
            refine r_local (by assumption) rfl ?_
            refine r_int ?_; intro _ _
            refine PySem.P.eq_int ?_
            refine wpAny_items_nil ?_
            refine r_tuple N25 fun b26 B26 h26 N26 le26 e26 => ?_
            refine wpAny_items_nil ?_
            refine r_append N26 0 rfl (fun h27 N27 => ?_) (by unfold sizeLine; (first | lia | omega))
            refine wpAny_execs_nil ?_
            refine ⟨_, _, _, _, _, rfl, N27, _, _, _, _, _, rfl, ?_, p1, p2, p3, p4, p5, p6⟩
            rw [sigLc_succ, ← List.append_assoc]
            have eb : ((n : Int) == 0) = (n == 0) := by
              rw [Bool.eq_iff_iff, beq_iff_eq, beq_iff_eq]; (first | lia | omega)
            rw [eb] at e26
            exact (hvs2.mono fun _ _ y => y.mono le26).append (.cons ⟨b26, _, _, _, rfl, e26⟩ .nil)
          · obtain ⟨vs2, q2, w1, w2, w3, rfl, hvs2, p1, p2, p3, p4, p5, p6⟩ := inv
            refine wpAny_execs_cons ?_
            refine wpAny_Assign_Name ?_
            refine wpAny_BinOp ?_
            refine r_local (by assumption) (by assumption) ?_
            refine r_local (by assumption) (by assumption) ?_
            refine r_add ?_; intro _ _
            refine r_store O24 fun h28 t28 O28 => ?_
            refine wpAny_execs_nil ?_
            rw [← hcol] at O28
            refine ⟨_, _, _, _, _, rfl, O28, vs2, q2, _, _, rfl, ?_, p1, p2, p3, p4, rfl⟩
            rw [hpre, ← List.append_assoc]
            exact hvs2
        · obtain ⟨vs', q', v1', v2', rfl, hvs', n1, n2, n3, n4, n5⟩ := inv
          rw [hE.length] at hvs' n5
          have hpl := preLc_len (r := i) hsgok sh.length
          have hlen2 := hvs'.length
          rw [List.length_append] at hlen2
          have hrl : rowLc rows goes i = preLc i sh sh.length ++ (if goes[i]? = some true then [] else [(i, (layD sh).length, ((layD sh).length : Int), true)]) := by
            unfold rowLc; rw [hshg]
          rw [List.take_length] at n5
          refine wpAny_execs_cons ?_
          refine wpAny_If ?_
          refine wpAny_isTrue_Not ?_
          refine wpAny_isTrue_value ?_
          refine Subscript_ ?_
          refine r_local (by assumption) (by assumption) ?_
          refine r_local (by assumption) (by assumption) ?_
          refine r_lstItem (O18.lst (by exact (Le.trans (Le.trans le14 le16) le18) _ _ hga)) (by (first | lia | omega)) (by (first | lia | omega)) (by simpa using ebv) ?_
          refine wpAny_truthy_bool ?_
          cases go with
          | true =>
            refine iteF ?_
            refine wpAny_execs_nil ?_
            refine wpAny_execs_nil ?_
            refine ⟨_, _, _, _, _, rfl, O18, vs', q', rfl, ?_, n1, n2, n3⟩
            rw [lcD, hrl, hgi, if_pos rfl, List.append_nil]
            exact hvs'
          | false =>
            refine iteT ?_
            refine wpAny_execs_cons ?_
            refine wpAny_Expr_any ?_
            refine MethodCall_ ?_
            refine r_local (by assumption) (by assumption) ?_
            refine r_mAppend O18 (.head _) ?_
            refine r_callB ?_
            refine wpAny_items_cons ?_
            refine Tuple_ ?_
            refine wpAny_items_cons ?_
            refine r_local (by assumption) (by assumption) ?_
            refine wpAny_items_cons ?_
            refine r_local (by assumption) (by assumption) ?_
            refine wpAny_items_cons ?_
            refine r_local (by assumption) (by assumption) ?_
            refine wpAny_items_cons ?_
            refine wpAny_Constant_bool ?_
            refine wpAny_items_nil ?_
            refine r_tuple O18 fun b26 B26 h26 O26 le26 e26 => ?_
            refine wpAny_items_nil ?_
            refine r_append O26 0 rfl (fun h27 O27 => ?_) (by unfold sizeLine; (first | lia | omega))
            refine wpAny_execs_nil ?_
            refine wpAny_execs_nil ?_
            refine ⟨_, _, _, _, _, rfl, O27, _, _, rfl, ?_, n1, n2, n3⟩
            rw [lcD, hrl, hgi, if_neg (by simp), ← List.append_assoc]
            exact (hvs'.mono fun _ _ y => y.mono le26).append (.cons ⟨b26, _, _, _, rfl, e26⟩ .nil)
  · obtain ⟨vs, q, rfl, hvs, mr, mg5, mf⟩ := inv
    refine wpAny_execs_cons ?_
    refine wpAny_Return_some ?_
    refine r_local (by assumption) (by assumption) ?_
    obtain ⟨O7, le7, e7⟩ := O5.rest (by simp)
    rw [hrv.length] at hvs
    exact k _ _ _ _ _ _ O7.g e7 (hvs.mono fun _ _ y => y.mono le7)
end
end

section
open PySem PySem.W PySem.Calls PyProof.Rows PySem.SeqAt

theorem Ow.restT {h₀ h : Heap} {B₀ B : Sto} {L a : Addr} {own own₀ : Own} {m : Str → Option Value} {o : Obj} (O : Ow h₀ B₀ (L :: own₀.map (·.1)) L B ((a, o) :: own) m h) (hs : ∀ p ∈ own₀, ∃ q ∈ own, q.1 = p.1) :
    Ow h₀ B₀ (L :: own₀.map (·.1)) L (put B a o) own m h ∧ Le B (put B a o) ∧ put B a o a = some o := by
  refine O.rest fun z => ?_
  rcases List.mem_cons.mp z with z | z
  · exact (O.mn _ (.head _)).2.1 z
  · obtain ⟨p, hp, e⟩ := List.mem_map.mp z
    obtain ⟨q, hq, e2⟩ := hs p hp
    exact (List.pairwise_cons.mp O.nd).1 q hq (e.symm.trans e2.symm)
/-- what the law finds due, for m codes from (r, c) -/
def dueD (told : List Lc) (m r c : Nat) : Option (Nat × Int) :=
  match told.findIdx? (fun x => x.1 == r && x.2.1 == c && x.2.2.2) with
  | none => none
  | some i => if m = 0 then none else match told[i + m - 1]? with
    | none => none
    | some x => some (x.1, x.2.2.1)
def hitL (told : List Lc) (r c i : Nat) : Bool := match told[i]? with | some x => x.1 == r && x.2.1 == c && x.2.2.2 | none => false
theorem hitL_at {told : List Lc} {r c i : Nat} {x : Lc} (h : told[i]? = some x) : hitL told r c i = (x.1 == r && x.2.1 == c && x.2.2.2) := by unfold hitL; rw [h]
def spD (told : List Lc) (r c : Nat) (j : Nat) : List Nat := (List.range j).filter (hitL told r c)
theorem spD_succ (told : List Lc) (r c j : Nat) : spD told r c (j + 1) = spD told r c j ++ (if hitL told r c j = true then [j] else []) := by
  unfold spD
  rw [List.range_succ, List.filter_append]
  by_cases hh : hitL told r c j = true <;> simp [hh]
theorem spD_first (told : List Lc) (r c : Nat) : (spD told r c told.length).head? = told.findIdx? (fun x => x.1 == r && x.2.1 == c && x.2.2.2) := by
  unfold spD
  cases h : told.findIdx? (fun x => x.1 == r && x.2.1 == c && x.2.2.2) with
  | none =>
    rw [List.findIdx?_eq_none_iff] at h
    have : (List.range told.length).filter (hitL told r c) = [] := by
      rw [List.filter_eq_nil_iff]
      intro i hi
      rw [List.mem_range] at hi
      rw [hitL_at (List.getElem?_eq_getElem hi), h _ (List.getElem_mem hi)]
      decide
    rw [this]; rfl
  | some i =>
    rw [List.findIdx?_eq_some_iff_getElem] at h
    obtain ⟨hi, h1, h2⟩ := h
    have e : List.range told.length = List.range i ++ i :: (List.range (told.length - i - 1)).map (fun k => i + 1 + k) := by
      have a1 : told.length = i + ((told.length - i - 1) + 1) := by (first | lia | omega)
      conv => lhs; rw [a1]
      rw [List.range_add, List.range_succ_eq_map, List.map_cons, List.map_map]
      congr 1
      congr 1
      apply List.map_congr_left
      intro k _
      simp only [Function.comp]
      (first | lia | omega)
    rw [e, List.filter_append]
    have : (List.range i).filter (hitL told r c) = [] := by
      rw [List.filter_eq_nil_iff]
      intro j hj
      rw [List.mem_range] at hj
      rw [hitL_at (List.getElem?_eq_getElem (by (first | lia | omega)))]
      have := h2 j hj
      simpa using this
    rw [this, List.nil_append, List.filter_cons, hitL_at (List.getElem?_eq_getElem hi), h1]
    rfl
def NatV (v : Value) (n : Nat) : Prop := ∃ u, v = .int n u

section
variable {prog : Program} {w : World} {A : Around} {E : Value → Shared → Prop} {Q : Value → Shared → Prop} {QU : Unit → Shared → Prop} {R : Result → Shared → Prop}
variable {h h₀ : Heap} {B B₀ : Sto} {M₀ : List Addr} {g : Array GenState} {d : Drawn} {t : Nat} {os : OsState} {v : Value} {ow own : Own} {x : Addr} {l : LineD} {L : Addr} {cdv : Value} {m : Str → Option Value}
variable {K : Frag} {N : Nm} {Y : Nb} {p : Program} {loose : List Str} {mg mb : Str → Option Value} {H : Heap}

abbrev lawE (Y : Nb) (L : Addr) (cdv : Value) : Env := envC "law" (scpF (top 39)) L Y.law cdv

set_option maxHeartbeats 1000000 in
set_option maxRecDepth 10000 in
theorem law_C (W : Wd K p loose mg mb H) (Z : OkB K N Y) (Zv : OkV K N) (hH : Le H.get? B₀) (rd : Room A 7) {oc oa om : Obj} {c1 c2 : Option Value} {mn sz : Nat} {um us : Tok} {ab : Nat} {ls : List LineD} {ta : Addr} {tvs : List Value} {tq : Nat} {told : List Lc}
    (O : Ow h₀ B₀ [] L B [(L + 1 + 1 + 1 + 1, oc), (L + 1 + 1 + 1, oa), (L + 1 + 1, om)] m h) (d1 : oc.data = .cell c1) (d2 : oa.data = .cell c2) (d3 : om.data = .cell (some (.int mn um)))
    (mv : m "view" = some v) (hv : ViewV N B v ab ls) (mt : m "told" = some (.ref ta)) (hta : B ta = some (lstO tvs tq)) (htv : Each (LcV B) tvs told) (ms : m "size" = some (.int sz us))
    (hmn : mn ≤ 100) (hsz : sz ≤ 100) (htl : told.length ≤ 2000) (hll : ls.length < 2 ^ 20) (hcz : ∀ l ∈ ls, l.cells.length ≤ 2 ^ 20) (hbig : (toldD ls ls.length).length ≤ 2 ^ 20)
    (hplain : ∀ r c, r < mn → c < 6 → foundD ls sz r c = dueD told sz r c)
    (k : ∀ B' h' t', Grow h₀ B₀ [] B' h' → Q (.bool true) ⟨h', g, d, t', os⟩) :
    wpAny (model prog w) A (execs ((bodF (top 39)).drop 9) (lawE Y L cdv)) (fun fl s' => Q (match fl with | .ret v => v | _ => .none) s') (fun _ _ => False) ⟨h, g, d, t, os⟩ := by
  refine wpAny_execs_cons ?_
  refine wpAny_For ?_
  refine Call_ ?_
  refine r_builtin (by assumption) (by assumption) (by assumption) (by exact OkV.b_range (by assumption)) (by boot_by_name) ?_
  refine r_callT ?_
  refine wpAny_items_cons ?_
  refine r_cell (by assumption) rfl (by repeat (first | exact List.Mem.head _ | apply List.Mem.tail)) (by assumption) ?_
  refine wpAny_items_nil ?_
  refine r_range rd.handled O (by (first | lia | omega)) fun I h5 t5 O5 S5 => ?_
  have hvr := hv.ref
  obtain ⟨vr, rfl⟩ := hvr
  refine for_name S5 O5 (fun i B' own' m' => ∃ oc oa c1 c2, own' = [(L + 1 + 1 + 1 + 1, oc), (L + 1 + 1 + 1, oa), (L + 1 + 1, om)] ∧ oc.data = .cell c1 ∧ oa.data = .cell c2 ∧ m' "view" = some (.ref vr) ∧ m' "told" = some (.ref ta) ∧ m' "size" = some (.int sz us))
    ⟨oc, oa, c1, c2, rfl, d1, d2, mv, mt, ms⟩ (fun i vi B6 own6 m6 h6 t6 E' hi hvi inv le6 O6 N6 => ?_) (fun B6 own6 m6 h6 t6 inv le6 O6 => ?_)
  · obtain ⟨u6, rfl⟩ := hvi
    obtain ⟨oc, oa, c1, c2, rfl, d1, d2, mv, mt, ms⟩ := inv
    refine r_storeC N6 rfl 1 rfl d2 fun h7 oa d2 N7 => ?_
    have hH6 := Le.trans hH (Le.trans O.g.sub le6)
    refine wpAny_execs_cons ?_
    refine wpAny_For ?_
    refine Call_ ?_
    refine r_builtin (by assumption) (by assumption) (by assumption) (by exact OkV.b_range (by assumption)) (by boot_by_name) ?_
    refine r_callT ?_
    refine wpAny_items_cons ?_
    refine r_int ?_; intro _ _
    refine wpAny_items_nil ?_
    refine r_range (i := 6) rd.handled N7 (by decide) fun I2 h8 t8 N8 S8 => ?_
    refine codeAny_mono (R := fun r s => r = .ok .next ∧ ∃ oc c1 B' m' h' t', s = ⟨h', g, d, t', os⟩ ∧ Ow h6 B6 [(lawE Y L cdv).locals, L + 1 + 1 + 1 + 1, L + 1 + 1 + 1, L + 1 + 1] L B' [(L + 1 + 1 + 1 + 1, oc), (L + 1 + 1 + 1, oa), (L + 1 + 1, om)] m' h' ∧ oc.data = .cell c1 ∧ m' "view" = some (.ref vr) ∧ m' "told" = some (.ref ta) ∧ m' "size" = some (.int sz us)) ?_ ?_
    · refine for_name S8 N8 (fun j B' own' m' => ∃ oc c1, own' = [(L + 1 + 1 + 1 + 1, oc), (L + 1 + 1 + 1, oa), (L + 1 + 1, om)] ∧ oc.data = .cell c1 ∧ m' "view" = some (.ref vr) ∧ m' "told" = some (.ref ta) ∧ m' "size" = some (.int sz us))
        ⟨oc, c1, rfl, d1, mv, mt, ms⟩ (fun j vj B9 own9 m9 h9 t9 E9 hj hvj inv le9 O9 N9 => ?_) (fun B9 own9 m9 h9 t9 inv le9 O9 => ?_)
      · obtain ⟨u9, rfl⟩ := hvj
        obtain ⟨oc, c1, rfl, d1, mv, mt, ms⟩ := inv
        refine r_storeC N9 rfl 0 rfl d1 fun h10 oc d1 N10 => ?_
        have up := Le.trans le6 le9
        have hH9 := Le.trans hH (Le.trans O.g.sub up)
        refine wpAny_execs_cons ?_
        refine r_compTo ?_
        refine Call_ ?_
        refine r_builtin (by assumption) (by assumption) (by assumption) (by exact OkV.b_enumerate (by assumption)) (by boot_by_name) ?_
        refine r_callT ?_
        refine wpAny_items_cons ?_
        refine r_local (by assumption) (by assumption) ?_
        refine wpAny_items_nil ?_
        refine r_enum rd.handled N10 (up _ _ hta) fun I3 h11 t11 N11 S11 => ?_
        have htl' := htv.length
        refine comp_pair (P2 := fun k v1 v2 => (∃ u, v1 = .int k u) ∧ tvs[k]? = some v2) S11 (fun k vals hP => ?_) N11 rfl
          (fun k xs B' own' => own' = [(L + 1 + 1 + 1 + 1, oc), (L + 1 + 1 + 1, oa), (L + 1 + 1, om)] ∧ Each NatV xs (spD told i j k)) ⟨rfl, .nil⟩ ?_ ?_ (by unfold sizeLine; (first | lia | omega)) rd.handled
        · obtain ⟨u, x, h1, h2⟩ := hP
          exact ⟨_, _, h2, ⟨u, rfl⟩, h1⟩
        · intro kk v1 v2 xs B' own' C D oL q mc h' h1 t' E' hk hP hxs inv le hL kp' O7
          obtain ⟨⟨uk, rfl⟩, hv2⟩ := hP
          obtain ⟨rfl, hxs2⟩ := inv
          have hk' : kk < told.length := by (first | lia | omega)
          obtain ⟨tv, etv, ea, w1, w2, w3, rfl, eea⟩ := htv.get kk _ (List.getElem?_eq_getElem hk')
          rw [hv2] at etv
          cases etv
          have hat := hitL_at (r := i) (c := j) (List.getElem?_eq_getElem hk')
          generalize told[kk] = e at eea hat
          have hH7 := Le.trans hH9 (Le.trans N11.g.sub le)
          have eea' := Le.trans up le _ _ eea
          refine wpAny_isTrue_BoolOp ?_
          refine wpAny_allTrue_And_cons ?_
          refine wpAny_isTrue_Compare1 ?_
          refine Subscript_ ?_
          refine r_local (by assumption) rfl ?_
          refine wpAny_Slice ?_
          refine r_partNone ?_
          refine r_partSome ?_
          refine r_int ?_; intro _ _
          refine r_partNone ?_
          refine r_tupUpto O7 (k := 2) eea' (by simp) fun c2 B8 h8 O8 le8 e8 => ?_
          refine Tuple_ ?_
          refine wpAny_items_cons ?_
          refine r_cell (by assumption) rfl (by repeat (first | exact List.Mem.head _ | apply List.Mem.tail)) (by assumption) ?_
          refine wpAny_items_cons ?_
          refine r_cell (by assumption) rfl (by repeat (first | exact List.Mem.head _ | apply List.Mem.tail)) (by assumption) ?_
          refine wpAny_items_nil ?_
          refine r_tuple O8 fun c3 B10 h10 O10 le10 e10 => ?_
          refine r_eqInts (O10.tupl (le10 _ _ e8)) (O10.tupl e10) (.cons _ _ (.cons _ _ .nil)) (.cons _ _ (.cons _ _ .nil)) rd.unit ?_
          refine wpAny_truthy_bool ?_
          have hspd := spD_succ told i j kk
          refine PyProof.Rows.split_dec (fun hT => ?_) (fun hF => ?_)
          · refine wpAny_allTrue_And_cons ?_
            refine wpAny_isTrue_value ?_
            refine Subscript_ ?_
            refine r_local (by assumption) rfl ?_
            refine r_int ?_; intro _ _
            refine r_tupItem (O10.tup (le10 _ _ (le8 _ _ eea'))) rfl rfl ?_
            refine wpAny_truthy_bool ?_
            have h12 : e.1 = i ∧ e.2.1 = j := by
              simp only [List.cons.injEq, and_true] at hT
              (first | lia | omega)
            rw [hat, h12.1, h12.2, beq_self_eq_true, beq_self_eq_true, Bool.true_and, Bool.true_and] at hspd
            generalize e.2.2.2 = fl at hspd
            cases fl with
            | true =>
              refine iteT ?_
              refine wpAny_allTrue_And_nil ?_
              refine iteT ?_
              refine r_local (by assumption) rfl ?_
              refine ⟨_, _, _, _, _, rfl, O10, rfl, ?_⟩
              rw [hspd, if_pos rfl]
              exact hxs2.append (.cons ⟨_, rfl⟩ .nil)
            | false =>
              refine iteF ?_
              refine iteF ?_
              refine ⟨_, _, _, _, _, rfl, O10, rfl, ?_⟩
              rw [hspd, if_neg Bool.false_ne_true, List.append_nil]
              exact hxs2
          · have hh : hitL told i j kk = false := by
              rw [hat]
              simp only [List.cons.injEq, and_true, Bool.and_eq_false_iff, beq_eq_false_iff_ne] at hF ⊢
              (first | lia | omega)
            rw [hh, if_neg Bool.false_ne_true, List.append_nil] at hspd
            refine iteF ?_
            refine ⟨_, _, _, _, _, rfl, O10, rfl, ?_⟩
            rw [hspd]
            exact hxs2
        · intro xs B' own' D q hxs inv le
          obtain ⟨rfl, hxs2⟩ := inv
          refine ⟨_, _, rfl, rfl, rfl, fun h12 t12 O12 => ?_⟩
          refine wpAny_execs_cons ?_
          refine wpAny_Assign_Name ?_
          refine wpAny_Constant_none ?_
          refine r_store O12 fun h13 t13 O13 => ?_
          have hfirst := spD_first told i j
          rw [htl'] at hxs2
          generalize spD told i j told.length = sp at hxs2 hfirst
          have upB := Le.trans up (Le.trans N11.g.sub le)
          refine wpAny_execs_cons ?_
          refine wpAny_mono (Q := fun f s => ∃ v B' h' t' m', f = .next ∧ s = ⟨h', g, d, t', os⟩ ∧ Le B9 B' ∧ Ow h9 B9 ((lawE Y L cdv).locals :: [(L + 1 + 1 + 1 + 1, oc), (L + 1 + 1 + 1, oa), (L + 1 + 1, om)].map (·.1)) L B' [(L + 1 + 1 + 1 + 1, oc), (L + 1 + 1 + 1, oa), (L + 1 + 1, om)] m' h' ∧
            m' "due" = some v ∧ FoundV B' v (dueD told sz i j) ∧ m' "view" = some (.ref vr) ∧ m' "told" = some (.ref ta) ∧ m' "size" = some (.int sz us)) ?_ ?_ fun _ _ e => e
          · refine wpAny_If ?_
            refine wpAny_isTrue_BoolOp ?_
            refine wpAny_allTrue_And_cons ?_
            refine wpAny_isTrue_Compare1 ?_
            refine r_local (by assumption) rfl ?_
            refine List_ ?_
            refine wpAny_items_nil ?_
            refine r_list O13 fun e h14 O14 => ?_
            refine r_lstNeNil (O14.mn _ (.tail _ (.head _))).1 (O14.mn _ (.head _)).1 rd.unit ?_
            refine wpAny_truthy_bool ?_
            have hta' := upB _ _ hta
            cases hxs2 with
            | nil =>
              refine iteF ?_
              refine iteF ?_
              refine wpAny_execs_nil ?_
              have hdue : dueD told sz i j = none := by
                unfold dueD
                rw [← hfirst]; rfl
              exact ⟨.none, B', _, _, _, rfl, rfl, Le.trans N11.g.sub le, O14.drop (.cons _ (.cons _ (.refl _))), rfl, by rw [hdue]; rfl, mv, mt, ms⟩
            | @cons v0 s0 xs sp hv0 hrest =>
              obtain ⟨u0, rfl⟩ := hv0
              have hf : told.findIdx? (fun x => x.1 == i && x.2.1 == j && x.2.2.2) = some s0 := hfirst.symm
              have hs0 : s0 < told.length := (List.findIdx?_eq_some_iff_getElem.mp hf).1
              have hdue : dueD told sz i j = if sz = 0 then none else match told[s0 + sz - 1]? with
                  | none => none
                  | some x => some (x.1, x.2.2.1) := by
                unfold dueD
                rw [hf]
              refine iteT ?_
              refine wpAny_allTrue_And_cons ?_
              refine wpAny_isTrue_Compare1 ?_
              refine r_local (by assumption) (by assumption) ?_
              refine r_int ?_; intro _ _
              refine PySem.P.gt_int ?_
              refine wpAny_truthy_bool ?_
              refine PyProof.Rows.split_dec (fun hT => ?_) (fun hF => ?_)
              · refine wpAny_allTrue_And_cons ?_
                refine wpAny_isTrue_Compare1 ?_
                refine wpAny_BinOp ?_
                refine Subscript_ ?_
                refine r_local (by assumption) rfl ?_
                refine r_int ?_; intro _ _
                refine r_lstItem (O14.mlst (.tail _ (.head _))) (by decide) (by decide) rfl ?_
                refine r_local (by assumption) (by assumption) ?_
                refine r_add ?_; intro _ _
                refine Call_ ?_
                refine r_builtin (by assumption) (by assumption) (by assumption) (by exact OkV.b_len (by assumption)) (by boot_by_name) ?_
                refine r_callB ?_
                refine wpAny_items_cons ?_
                refine r_local (by assumption) (by assumption) ?_
                refine wpAny_items_nil ?_
                refine r_len (O14.lst hta') (by (first | lia | omega)) fun u15 t15 => ?_
                refine PySem.P.le_int ?_
                refine wpAny_truthy_bool ?_
                rw [htl']
                refine PyProof.Rows.split_dec (fun hT2 => ?_) (fun hF2 => ?_)
                · have hlt : s0 + sz - 1 < told.length := by (first | lia | omega)
                  obtain ⟨lv, elv, la, w1, w2, w3, rfl, ela⟩ := htv.get _ _ (List.getElem?_eq_getElem hlt)
                  have ela' := upB _ _ ela
                  rw [if_neg (by (first | lia | omega)), List.getElem?_eq_getElem hlt] at hdue
                  generalize told[s0 + sz - 1] = lx at ela' hdue
                  refine wpAny_allTrue_And_nil ?_
                  refine iteT ?_
                  refine wpAny_execs_cons ?_
                  refine wpAny_Assign_Name ?_
                  refine Subscript_ ?_
                  refine r_local (by assumption) (by assumption) ?_
                  refine wpAny_BinOp ?_
                  refine wpAny_BinOp ?_
                  refine Subscript_ ?_
                  refine r_local (by assumption) rfl ?_
                  refine r_int ?_; intro _ _
                  refine r_lstItem (O14.mlst (.tail _ (.head _))) (by decide) (by decide) rfl ?_
                  refine r_local (by assumption) (by assumption) ?_
                  refine r_add ?_; intro _ _
                  refine r_int ?_; intro _ _
                  refine r_sub ?_; intro _ _
                  refine r_lstItem (O14.lst hta') (by (first | lia | omega)) (by (first | lia | omega)) (by rw [← elv]; congr 1; (first | lia | omega)) ?_
                  refine r_store O14 fun h16 t16 O16 => ?_
                  refine wpAny_execs_cons ?_
                  refine wpAny_Assign_Name ?_
                  refine Tuple_ ?_
                  refine wpAny_items_cons ?_
                  refine Subscript_ ?_
                  refine r_local (by assumption) rfl ?_
                  refine r_int ?_; intro _ _
                  refine r_tupItem (O16.tup ela') rfl rfl ?_
                  refine wpAny_items_cons ?_
                  refine Subscript_ ?_
                  refine r_local (by assumption) rfl ?_
                  refine r_int ?_; intro _ _
                  refine r_tupItem (O16.tup ela') rfl rfl ?_
                  refine wpAny_items_nil ?_
                  refine r_tuple O16 fun b17 B17 h17 O17 le17 e17 => ?_
                  refine r_store O17 fun h18 t18 O18 => ?_
                  refine wpAny_execs_nil ?_
                  exact ⟨.ref b17, B17, _, _, _, rfl, rfl, Le.trans (Le.trans N11.g.sub le) le17, O18.drop (.cons _ (.cons _ (.refl _))), rfl, by rw [hdue]; exact ⟨b17, _, _, rfl, e17⟩, mv, mt, ms⟩
                · refine iteF ?_
                  refine wpAny_execs_nil ?_
                  rw [if_neg (by (first | lia | omega)), List.getElem?_eq_none_iff.mpr (by (first | lia | omega))] at hdue
                  exact ⟨.none, B', _, _, _, rfl, rfl, Le.trans N11.g.sub le, O14.drop (.cons _ (.cons _ (.refl _))), rfl, by rw [hdue]; rfl, mv, mt, ms⟩
              · refine iteF ?_
                refine wpAny_execs_nil ?_
                rw [if_pos (by (first | lia | omega))] at hdue
                exact ⟨.none, B', _, _, _, rfl, rfl, Le.trans N11.g.sub le, O14.drop (.cons _ (.cons _ (.refl _))), rfl, by rw [hdue]; rfl, mv, mt, ms⟩
          · rintro f s ⟨v, B14, h14, t14, m14, rfl, rfl, le14, O14, n1, n2, n3, n4, n5⟩
            refine wpAny_execs_cons ?_
            refine wpAny_Assign_Name ?_
            refine Call_ ?_
            refine r_global (by assumption) (by assumption) (by assumption) (by exact OkV.g_fend (by assumption)) ?_
            refine r_callF (by assumption) (by assumption) (by assumption) (by exact OkV.f_fend (by assumption)) ?_
            refine wpAny_items_cons ?_
            refine r_local (by assumption) (by assumption) ?_
            refine wpAny_items_cons ?_
            refine wpAny_BinOp ?_
            refine List_ ?_
            refine wpAny_items_cons ?_
            refine r_int ?_; intro _ _
            refine wpAny_items_nil ?_
            refine @r_listI _ _ _ _ _ _ _ _ _ _ _ _ _ _ _ _ _ _ O14 (Nat.le_of_ble_eq_true rfl) ?_
            intro a15 h15 O15
            refine r_local (by assumption) (by assumption) ?_
            refine r_mulList (O15.mn _ (.head _)).1 O15 (by (first | lia | omega)) fun c16 h16 O16 => ?_
            refine wpAny_items_cons ?_
            refine Tuple_ ?_
            refine wpAny_items_cons ?_
            refine r_cell (by assumption) rfl (by repeat (first | exact List.Mem.head _ | apply List.Mem.tail)) (by assumption) ?_
            refine wpAny_items_cons ?_
            refine r_cell (by assumption) rfl (by repeat (first | exact List.Mem.head _ | apply List.Mem.tail)) (by assumption) ?_
            refine wpAny_items_nil ?_
            refine r_tuple O16 fun b17 B17 h17 O17 le17 e17 => ?_
            refine wpAny_items_nil ?_
            refine r_inK (by assumption) (by assumption) (by assumption) ?_
            obtain ⟨O18, le18, e18⟩ := O17.restT (by simp)
            have hvl : ∀ u, (List.replicate sz (Value.int 7 u)).length = sz := fun u => List.length_replicate ..
            refine c_fend W Zv (Le.trans hH9 O18.g.sub) O18.g.keep (rd.less (by decide)) (hv.mono (Le.trans up O18.g.sub)) hll hcz hbig e18 (by rw [hvl]; (first | lia | omega)) (le18 _ _ e17) fun B19 h19 t19 x19 G19 hx => ?_
            have O19 := O18.call G19
            have hdue19 : FoundV B19 v (dueD told sz i j) := by
              cases hd : dueD told sz i j with
              | none => rw [hd] at n2; exact n2
              | some q =>
                rw [hd] at n2
                obtain ⟨a, u1, u2, e1, e2⟩ := n2
                exact ⟨a, u1, u2, e1, G19.sub _ _ (le18 _ _ (le17 _ _ e2))⟩
            rw [hvl, hplain i j hi hj] at hx
            refine r_store O19 fun h20 t20 O20 => ?_
            refine wpAny_execs_cons ?_
            refine wpAny_If ?_
            refine wpAny_isTrue_Compare1 ?_
            refine wpAny_IfExp ?_
            refine wpAny_isTrue_Compare1 ?_
            refine r_local (by assumption) rfl ?_
            refine wpAny_Constant_none ?_
            cases hd : dueD told sz i j with
            | none =>
              rw [hd] at hx hdue19
              cases hx
              cases hdue19
              refine is_none_none ?_
              refine wpAny_truthy_bool ?_
              refine iteT ?_
              refine wpAny_Constant_none ?_
              refine r_local (by assumption) (by assumption) ?_
              refine PySem.EqNone.ne_none_none ?_
              refine wpAny_truthy_bool ?_
              refine iteF ?_
              refine wpAny_execs_nil ?_
              refine wpAny_execs_nil ?_
              exact ⟨_, _, _, _, _, rfl, O20.drop (.cons _ (.refl _)), oc, _, rfl, d1, n3, n4, n5⟩
            | some q =>
              rw [hd] at hx hdue19
              obtain ⟨a1, w1, w2, rfl, ea1⟩ := hx
              obtain ⟨a2, w3, w4, rfl, ea2⟩ := hdue19
              refine is_ref_none ?_
              refine wpAny_truthy_bool ?_
              refine iteF ?_
              refine Call_ ?_
              refine r_builtin (by assumption) (by assumption) (by assumption) (by exact OkB.b_tuple (by assumption)) (by boot_by_name) ?_
              refine r_callT ?_
              refine wpAny_items_cons ?_
              refine r_local (by assumption) rfl ?_
              refine wpAny_items_nil ?_
              refine r_tupleOf (O20.tupl ea1) ?_
              refine r_local (by assumption) (by assumption) ?_
              refine r_neInts (O20.tupl ea1) (O20.tupl ea2) (.cons _ _ (.cons _ _ .nil)) (.cons _ _ (.cons _ _ .nil)) rd.unit ?_
              rw [decide_eq_true rfl]
              refine wpAny_truthy_bool ?_
              refine iteF ?_
              refine wpAny_execs_nil ?_
              refine wpAny_execs_nil ?_
              exact ⟨_, _, _, _, _, rfl, O20.drop (.cons _ (.refl _)), oc, _, rfl, d1, n3, n4, n5⟩
      · obtain ⟨oc, c1, rfl, d1, mv, mt, ms⟩ := inv
        exact ⟨rfl, oc, c1, _, _, _, _, rfl, O9, d1, mv, mt, ms⟩
    · rintro r s ⟨rfl, oc, c1, B9, m9, h9, t9, rfl, O9, d1, mv, mt, ms⟩
      refine wpAny_execs_nil ?_
      exact ⟨_, _, _, _, _, rfl, O9, oc, oa, c1, _, rfl, d1, d2, mv, mt, ms⟩
  · refine wpAny_execs_cons ?_
    refine wpAny_Return_some ?_
    refine wpAny_Constant_bool ?_
    exact k _ _ _ O6.g
end
end

section
open PySem PySem.W PySem.Calls PyProof.Rows PySem.SeqAt

section
variable {h₀ h h' : Heap} {B₀ B B' : Sto} {M₀ : List Addr} {L a : Addr} {own pre post ow ow' : Own} {m : Str → Option Value} {o : Obj}
theorem permM (pre ow post : Own) : (pre ++ (ow ++ post)).Perm (ow ++ (pre ++ post)) := by
  rw [← List.append_assoc, ← List.append_assoc]
  exact List.perm_append_comm.append_right _
theorem Ow.lendM (O : Ow h₀ B₀ M₀ L B (pre ++ (ow ++ post)) m h) : Lent B h ow := O.lend (permM pre ow post)
theorem Ow.backM (O : Ow h₀ B₀ M₀ L B (pre ++ (ow ++ post)) m h) (F : Back h B ow ow' B' h') : Ow h₀ B₀ M₀ L B' (pre ++ (ow' ++ post)) m h' :=
  (O.back (permM pre ow post) F).perm (permM pre ow' post).symm
theorem permIns (x a b c d : Own) : (x ++ (a ++ (b ++ (c ++ d)))).Perm (a ++ (b ++ ((c ++ x) ++ d))) := by
  have e1 : x ++ (a ++ (b ++ (c ++ d))) = (x ++ (a ++ b ++ c)) ++ d := by simp
  have e2 : a ++ (b ++ ((c ++ x) ++ d)) = ((a ++ b ++ c) ++ x) ++ d := by simp
  rw [e1, e2]
  exact List.perm_append_comm.append_right _
theorem permOut (a b c d x e : Own) : (a ++ (b ++ (c ++ (d ++ (x ++ e))))).Perm (x ++ (a ++ (b ++ (c ++ (d ++ e))))) := by
  have e1 : a ++ (b ++ (c ++ (d ++ (x ++ e)))) = ((a ++ b ++ c ++ d) ++ x) ++ e := by simp
  have e2 : x ++ (a ++ (b ++ (c ++ (d ++ e)))) = (x ++ (a ++ b ++ c ++ d)) ++ e := by simp
  rw [e1, e2]
  exact List.perm_append_comm.append_right _
end
section
variable {prog : Program} {w : World} {A : Around} {E : Value → Shared → Prop} {Q : Value → Shared → Prop} {QU : Unit → Shared → Prop} {R : Result → Shared → Prop}
variable {h₀ h : Heap} {B₀ B : Sto} {M₀ : List Addr} {L x dx C f fI : Addr} {m : Str → Option Value} {g : Array GenState} {d : Drawn} {t : Nat} {os : OsState} {v : Value} {own ow : Own} {es : List DictEntry} {n : Nat} {fs : Str → Option Value} {kk : Nat} {name : Str}
variable {K : Frag} {N : Nm} {Y : Nb} {p : Program} {loose : List Str} {mg mb : Str → Option Value} {H : Heap}
theorem r_setAttrB (W : Wd K p loose mg mb H) (hH : Le H.get? B₀) (O : Ow h₀ B₀ M₀ L B own m h) (hx : B x = some (instObj C dx)) (i : Nat) (hi : own[i]? = some (dx, dictOf es n)) (F : SetOk K C name) (D : Dct es fs kk)
    (k : ∀ h' t' es' n', Dct es' (upd fs name v) (kk + 1) → Ow h₀ B₀ M₀ L B (own.set i (dx, dictOf es' n')) m h' → QU () ⟨h', g, d, t', os⟩) (hz : kk ≤ 900 := by decide) : wpAny (model prog w) A (setAttr (.ref x) name v) QU E ⟨h, g, d, t, os⟩ :=
  r_setAttr O W hH (O.g.keep _ _ hx) i hi F (by rw [D.2.2]; rfl) (Nat.le_trans D.1 hz) fun h' t' O' => k h' t' _ _ (D.put name _ _ v) O'
end

theorem putL_len_same {x : Str} {hsh : Int} {key v : Value} : ∀ {es : List DictEntry}, es.any (·.key.isStr x) = true → (putL x hsh key v es).length = es.length
  | [], h => by simp at h
  | e :: r, h => by
    unfold putL
    split
    · rfl
    · rename_i q
      simp only [List.any_cons, Bool.or_eq_true] at h
      rw [List.length_cons, putL_len_same (h.resolve_left q), List.length_cons]
theorem Dct.put_same {es : List DictEntry} {fs : Str → Option Value} {k : Nat} (D : Dct es fs k) {x : Str} {v0 : Value} (h0 : fs x = some v0) (hsh : Int) (t : Tok) (v : Value) : Dct (putL x hsh (.str x t) v es) (upd fs x v) k := by
  refine ⟨?_, (D.put x hsh t v).2⟩
  rw [putL_len_same]
  · exact D.1
  · have := D.2.2 x
    rw [h0] at this
    unfold getL at this
    split at this
    · rename_i e he
      exact List.any_eq_true.mpr ⟨e, List.mem_of_find?_eq_some he, by have q := List.find?_some he; exact q⟩
    · split at this <;> cases this
section
variable {prog : Program} {w : World} {A : Around} {E : Value → Shared → Prop} {QU : Unit → Shared → Prop}
variable {h₀ h : Heap} {B₀ B : Sto} {M₀ : List Addr} {L x dx C : Addr} {m : Str → Option Value} {g : Array GenState} {d : Drawn} {t : Nat} {os : OsState} {v v0 : Value} {own : Own} {es : List DictEntry} {n : Nat} {fs : Str → Option Value} {kk : Nat} {name : Str}
variable {K : Frag} {p : Program} {loose : List Str} {mg mb : Str → Option Value} {H : Heap}
theorem r_setAttrS (W : Wd K p loose mg mb H) (hH : Le H.get? B₀) (O : Ow h₀ B₀ M₀ L B own m h) (hx : B x = some (instObj C dx)) (i : Nat) (hi : own[i]? = some (dx, dictOf es n)) (F : SetOk K C name) (D : Dct es fs kk) (h0 : fs name = some v0)
    (k : ∀ h' t' es' n', Dct es' (upd fs name v) kk → Ow h₀ B₀ M₀ L B (own.set i (dx, dictOf es' n')) m h' → QU () ⟨h', g, d, t', os⟩) (hz : kk ≤ 900 := by decide) : wpAny (model prog w) A (setAttr (.ref x) name v) QU E ⟨h, g, d, t, os⟩ :=
  r_setAttr O W hH (O.g.keep _ _ hx) i hi F (by rw [D.2.2]; rfl) (Nat.le_trans D.1 hz) fun h' t' O' => k h' t' _ _ (D.put_same h0 _ _ v) O'
end
theorem LinesOwn.rest {N : Nm} {B B' : Sto} {vs : List Value} {ls : List LineD} {ows : Own} (y : LinesOwn N B vs ls ows) (le : Le B B') (hr : ∀ p ∈ ows, B' p.1 = some p.2) : LinesV N B' vs ls := by
  induction y with
  | nil => exact ⟨rfl, fun i l e => by simp at e⟩
  | @cons x l ow vs ls ows a b ih =>
    have ih := ih (fun p hp => hr p (List.mem_append_right _ hp))
    refine ⟨by simp [ih.1], fun i z e => ?_⟩
    cases i with
    | zero =>
      simp at e; subst e
      obtain ⟨dx, es, n, c, lvs, q, fs, e1, rfl, D, f1, f2, f3, f4, hcs⟩ := a
      exact ⟨.ref x, by simp, x, dx, es, n, c, lvs, q, rfl, le _ _ e1, hr (dx, dictOf es n) (by simp), by rw [D.2.2, f1], by rw [D.2.2, f2], hr (c, lstO lvs q) (by simp), hcs.mono le⟩
    | succ i => simpa using ih.2 i z (by simpa using e)

/-- the line of a row -/
def tgtD (rows : List (List Cell)) (goes : List Bool) (j : Nat) : LineD := ⟨layD (rows[j]?.getD []), goes[j]?.getD false⟩
def lsD (rows : List (List Cell)) (goes : List Bool) : List LineD := (List.range rows.length).map (tgtD rows goes)
def hlD (rows : List (List Cell)) (goes : List Bool) (ab i : Nat) : List LineD := (List.range (min i ab)).map (tgtD rows goes)
def glD (rows : List (List Cell)) (goes : List Bool) (ab i : Nat) : List LineD := (List.range (rows.length - ab)).map fun j => if ab + j < i then tgtD rows goes (ab + j) else blankLine 4
theorem hlD_succ {rows : List (List Cell)} {goes : List Bool} {ab i : Nat} (h : i < ab) : hlD rows goes ab (i + 1) = hlD rows goes ab i ++ [tgtD rows goes i] := by
  unfold hlD
  rw [show min (i + 1) ab = i + 1 by (first | lia | omega), show min i ab = i by (first | lia | omega), List.range_succ, List.map_append]
  rfl
theorem hlD_same {rows : List (List Cell)} {goes : List Bool} {ab i : Nat} (h : ab ≤ i) : hlD rows goes ab (i + 1) = hlD rows goes ab i := by
  unfold hlD
  rw [show min (i + 1) ab = ab by (first | lia | omega), show min i ab = ab by (first | lia | omega)]
theorem glD_same {rows : List (List Cell)} {goes : List Bool} {ab i : Nat} (h : i < ab) : glD rows goes ab (i + 1) = glD rows goes ab i := by
  unfold glD
  apply List.map_congr_left
  intro j _
  rw [if_neg (by (first | lia | omega)), if_neg (by (first | lia | omega))]
theorem glD_at {rows : List (List Cell)} {goes : List Bool} {ab i : Nat} (h : ab ≤ i) (hi : i < rows.length) : (glD rows goes ab i)[i - ab]? = some (blankLine 4) := by
  unfold glD
  rw [List.getElem?_map, List.getElem?_range (by (first | lia | omega))]
  simp only [Option.map_some]
  rw [if_neg (by (first | lia | omega))]
theorem glD_succ {rows : List (List Cell)} {goes : List Bool} {ab i : Nat} (h : ab ≤ i) (hi : i < rows.length) : glD rows goes ab (i + 1) = (glD rows goes ab i).set (i - ab) (tgtD rows goes i) := by
  apply List.ext_getElem?
  intro j
  rw [List.getElem?_set]
  unfold glD
  simp only [List.getElem?_map, List.length_map, List.length_range]
  by_cases hj : j < rows.length - ab
  · rw [List.getElem?_range hj]
    simp only [Option.map_some]
    by_cases e : i - ab = j
    · rw [if_pos e, if_pos (by (first | lia | omega)), if_pos (by (first | lia | omega))]
      congr 2
      (first | lia | omega)
    · rw [if_neg e]
      congr 1
      by_cases q : ab + j < i
      · rw [if_pos (by (first | lia | omega)), if_pos q]
      · rw [if_neg (by (first | lia | omega)), if_neg q]
  · rw [List.getElem?_eq_none_iff.mpr (by simp; (first | lia | omega))]
    simp only [Option.map_none]
    rw [if_neg (by (first | lia | omega))]
theorem glD_zero (rows : List (List Cell)) (goes : List Bool) (ab : Nat) : glD rows goes ab 0 = List.replicate (rows.length - ab) (blankLine 4) := by
  unfold glD
  simp [List.map_const']
theorem hg_all {rows : List (List Cell)} {goes : List Bool} {ab : Nat} (h : ab ≤ rows.length) : hlD rows goes ab rows.length ++ glD rows goes ab rows.length = lsD rows goes := by
  unfold hlD glD lsD
  rw [show min rows.length ab = ab by (first | lia | omega)]
  conv => rhs; rw [show rows.length = ab + (rows.length - ab) by (first | lia | omega), List.range_add, List.map_append, List.map_map]
  congr 1
  apply List.map_congr_left
  intro j hj
  rw [List.mem_range] at hj
  rw [if_pos (by (first | lia | omega))]
  rfl
theorem lsD_cells {rows : List (List Cell)} {goes : List Bool} (ok : ∀ sg ∈ rows, RowOk sg) : ∀ l ∈ lsD rows goes, l.cells.length = 4 := by
  intro l hl
  obtain ⟨j, hj, rfl⟩ := List.mem_map.mp hl
  rw [List.mem_range] at hj
  unfold tgtD
  rw [List.getElem?_eq_getElem hj]
  exact (ok _ (List.getElem_mem hj)).len
theorem lsD_len (rows : List (List Cell)) (goes : List Bool) : (lsD rows goes).length = rows.length := by simp [lsD]
end

section
open PySem PySem.W PySem.Calls PyProof.Rows PySem.SeqAt

/-- what holds between the turns of the building loop -/
inductive BInv (N : Nm) (rows : List (List Cell)) (goes : List Bool) (ab : Nat) (pre1 : Obj → List Value → Nat → Own) (gvs : List Value) (dow : Own) (ra ga hx gx : Addr) (ua : Tok) (i : Nat) (B' : Sto) (own' : Own) (m' : Str → Option Value) : Prop
  | mk (oa : Obj) (c2 : Option Value) (hvs : List Value) (hq : Nat) (hows gows : Own) (e : own' = pre1 oa hvs hq ++ (dow ++ (hows ++ gows))) (d2 : oa.data = .cell c2) (hh : LinesOwn N B' hvs (hlD rows goes ab i) hows) (hg : LinesOwn N B' gvs (glD rows goes ab i) gows)
    (m1 : m' "rows" = some (.ref ra)) (m2 : m' "goes" = some (.ref ga)) (m3 : m' "above" = some (.int ab ua)) (m4 : m' "history" = some (.ref hx)) (m5 : m' "grid" = some (.ref gx)) : BInv N rows goes ab pre1 gvs dow ra ga hx gx ua i B' own' m'
section
variable {prog : Program} {w : World} {A : Around} {E : Value → Shared → Prop} {Q : Value → Shared → Prop} {QU : Unit → Shared → Prop} {R : Result → Shared → Prop}
variable {h h₀ : Heap} {B B₀ : Sto} {M₀ : List Addr} {g : Array GenState} {d : Drawn} {t : Nat} {os : OsState} {v : Value} {ow own : Own} {x : Addr} {l : LineD} {L : Addr} {cdv : Value} {m : Str → Option Value}
variable {K : Frag} {N : Nm} {Y : Nb} {p : Program} {loose : List Str} {mg mb : Str → Option Value} {H : Heap}

set_option maxHeartbeats 2000000 in
set_option maxRecDepth 10000 in
theorem law_B (W : Wd K p loose mg mb H) (Z : OkB K N Y) (Zv : OkV K N) (hH : Le H.get? B₀) (rd : Room A 7) {oc oa om od : Obj} {c1 c2 : Option Value} {um ua : Tok} {ab : Nat} {rows : List (List Cell)} {goes : List Bool} {dow ows : Own} {dk hx dh hl gx dg gl ra ga : Addr}
    {hes ges : List DictEntry} {hn gn gq rq gq2 : Nat} {gvs rvs gvs2 : List Value}
    (O : Ow h₀ B₀ [] L B ((L + 1 + 1 + 1 + 1, oc) :: (L + 1 + 1 + 1, oa) :: (L + 1 + 1, om) :: (L + 1, od) :: (dh, dictOf hes hn) :: (hl, lstO [] 0) :: (dg, dictOf ges gn) :: (gl, lstO gvs gq) :: (dow ++ ([] ++ ows))) m h)
    (d1 : oc.data = .cell c1) (d2 : oa.data = .cell c2) (d3 : om.data = .cell (some (.int rows.length um))) (d4 : od.data = .cell (some (.ref dk)))
    (hhx : HistOwn N B hx dh hl hes) (hgx : GridOwn N B gx dg gl ges) (hgl : LinesOwn N B gvs (List.replicate (rows.length - ab) (blankLine 4)) ows) (hdk : DeckOwn prog w dk dow)
    (hr : B ra = some (lstO rvs rq)) (hrv : Each (RowV B) rvs rows) (hg : B ga = some (lstO gvs2 gq2)) (hgv : Each BoolV gvs2 goes) (hlen : goes.length = rows.length) (hok : ∀ sg ∈ rows, RowOk sg) (hgo : ∀ i, goes[i]? = some true → i + 1 < rows.length) (hz : rows.length ≤ 3) (hab : ab < rows.length)
    (mr : m "rows" = some (.ref ra)) (mg' : m "goes" = some (.ref ga)) (ma : m "above" = some (.int ab ua)) (mh : m "history" = some (.ref hx)) (mgr : m "grid" = some (.ref gx))
    (hplain : ∀ sz r c, sz < 8 → r < rows.length → c < 6 → foundD (lsD rows goes) sz r c = dueD (lcD rows goes rows.length) sz r c) (hbig : (toldD (lsD rows goes) (lsD rows goes).length).length ≤ 2 ^ 20)
    (k : ∀ B' h' t', Grow h₀ B₀ [] B' h' → Q (.bool true) ⟨h', g, d, t', os⟩) :
    wpAny (model prog w) A (execs ((bodF (top 39)).drop 6) (lawE Y L cdv)) (fun fl s' => Q (match fl with | .ret v => v | _ => .none) s') (fun _ _ => False) ⟨h, g, d, t, os⟩ := by
  refine wpAny_execs_cons ?_
  refine wpAny_For ?_
  refine Call_ ?_
  refine r_builtin (by assumption) (by assumption) (by assumption) (by exact OkV.b_enumerate (by assumption)) (by boot_by_name) ?_
  refine r_callT ?_
  refine wpAny_items_cons ?_
  refine r_local (by assumption) (by assumption) ?_
  refine wpAny_items_nil ?_
  refine r_enum rd.handled O hr fun I h5 t5 O5 S5 => ?_
  refine for_pair (P2 := fun j v1 v2 => (∃ u, v1 = .int j u) ∧ rvs[j]? = some v2) rd.handled S5 (fun j vals hP => ?_) O5
    (BInv N rows goes ab (fun oa hvs hq => [(L + 1 + 1 + 1 + 1, oc), (L + 1 + 1 + 1, oa), (L + 1 + 1, om), (L + 1, od), (dh, dictOf hes hn), (hl, lstO hvs hq), (dg, dictOf ges gn), (gl, lstO gvs gq)]) gvs dow ra ga hx gx ua)
    ⟨oa, c2, [], 0, [], ows, rfl, d2, .nil, by rw [glD_zero]; exact hgl, mr, mg', ma, mh, mgr⟩ (fun i v1 v2 B6 own6 m6 h6 t6 E6 hi hP inv le6 O6 N6 => ?_) (fun B6 own6 m6 h6 t6 inv le6 O6 => ?_)
  · obtain ⟨u, x, h1, h2⟩ := hP
    exact ⟨_, _, h2, ⟨u, rfl⟩, h1⟩
  · obtain ⟨⟨u1, rfl⟩, hv2⟩ := hP
    obtain ⟨oa, c2, hvs, hq, hows, gows, rfl, d2, hhl, hgl, mr, mg', ma, mh, mgr⟩ := inv
    have hi' : i < rows.length := by rw [← hrv.length]; exact hi
    obtain ⟨v2', ev2, sa, svs, sq, rfl, esa, hsv⟩ := hrv.get i _ (List.getElem?_eq_getElem hi')
    rw [hv2] at ev2
    cases ev2
    have hsok := hok _ (List.getElem_mem hi')
    have hrow : rows[i]? = some rows[i] := List.getElem?_eq_getElem hi'
    generalize rows[i] = sg at hsv hsok hrow
    obtain ⟨bv, ebv, hbv⟩ := hgv.get i _ (List.getElem?_eq_getElem (by rw [hlen]; exact hi'))
    have hgi : goes[i]? = some (goes[i]'(by rw [hlen]; exact hi')) := List.getElem?_eq_getElem _
    generalize goes[i]'(by rw [hlen]; exact hi') = go at hbv hgi
    cases hbv
    have htgt : tgtD rows goes i = ⟨layD sg, go⟩ := by
      unfold tgtD
      rw [hrow, hgi]
      rfl
    have hH6 := Le.trans hH (Le.trans O.g.sub le6)
    refine r_storeC N6 rfl 1 rfl d2 fun h7 oa d2 N7 => ?_
    refine r_store N7 fun h8 t8 N8 => ?_
    refine wpAny_execs_cons ?_
    refine wpAny_Assign_Name ?_
    refine wpAny_IfExp ?_
    refine wpAny_isTrue_Compare1 ?_
    refine r_cell (by assumption) rfl (by repeat (first | exact List.Mem.head _ | apply List.Mem.tail)) (by assumption) ?_
    refine r_local (by assumption) (by assumption) ?_
    refine PySem.P.lt_int ?_
    refine wpAny_truthy_bool ?_
    have hhx6 := hhx.mono le6
    have hgx6 := hgx.mono le6
    have hpl := penV_plain W Z (Le.trans hH6 N8.g.sub)
    obtain ⟨fsh, u5, exh, Dh, fh1, fh2, fh3⟩ := id hhx6
    obtain ⟨fsg, exg, Dg, fg1, fg2⟩ := id hgx6
    by_cases hia : i < ab
    · have hdec : decide ((i : Int) < ab) = true := by simp; (first | lia | omega)
      rw [hdec]
      refine iteT ?_
      refine Call_ ?_
      refine r_global (by assumption) (by assumption) (by assumption) (by exact OkB.g_Line (by assumption)) ?_
      refine r_callC (by assumption) (by assumption) (by assumption) (by exact OkB.c_Line (by assumption)) ?_
      refine wpAny_items_cons ?_
      refine r_int ?_; intro _ _
      refine wpAny_items_cons ?_
      refine r_global (by assumption) (by assumption) (by assumption) (by exact OkB.v_PLAIN (by assumption)) ?_
      refine wpAny_items_nil ?_
      refine r_inK (by assumption) (by assumption) (by assumption) ?_
      refine c_mkLine (n := 4) W Z Zv (Le.trans hH6 N8.g.sub) N8.g.keep (rd.less (by decide)) hpl (by decide) fun B9 h9 t9 x ow G9 hx9 hm9 hnd9 => ?_
      have N9 := N8.takeAll (N8.call G9) hm9 hnd9 own_same
      refine r_store N9 fun h10 t10 N10 => ?_
      refine wpAny_execs_cons ?_
      refine wpAny_Expr_any ?_
      refine Call_ ?_
      refine r_global (by assumption) (by assumption) (by assumption) (by exact OkB.g_laid (by assumption)) ?_
      refine r_callF (by assumption) (by assumption) (by assumption) (by exact OkB.f_laid (by assumption)) ?_
      refine wpAny_items_cons ?_
      refine r_local (by assumption) rfl ?_
      refine wpAny_items_cons ?_
      refine r_local (by assumption) rfl ?_
      refine wpAny_items_nil ?_
      refine r_inK (by assumption) (by assumption) (by assumption) ?_
      refine c_laid W Z Zv (Le.trans hH6 N10.g.sub) N10.g.keep (rd.less (by decide)) hx9 (N10.lend (ow := ow) (.refl _)) (N10.g.sub _ _ (le6 _ _ esa)) (hsv.mono fun _ _ y => y.mono (Le.trans le6 N10.g.sub)) hsok fun B11 h11 t11 ow11 F11 hx11 => ?_
      have N11 := N10.back (ow := ow) (.refl _) F11
      obtain ⟨dx, esx, nx, cx, lvs, lq, fsx, exx, rfl, Dx, f1, f2, f3, f4, hcs⟩ := hx11
      refine wpAny_execs_cons ?_
      refine plainObj_wpAny_Assign_Attribute ?_
      refine Subscript_ ?_
      refine r_local (by assumption) (by assumption) ?_
      refine r_cell (by assumption) rfl (by repeat (first | exact List.Mem.head _ | apply List.Mem.tail)) (by assumption) ?_
      refine r_lstItem (N11.lst (N11.g.sub _ _ (le6 _ _ hg))) (by (first | lia | omega)) (by (first | lia | omega)) (by simpa using ebv) ?_
      refine r_local (by assumption) rfl ?_
      refine r_setAttrS W hH6 N11 exx 0 rfl Z.s_wrapped Dx f2 fun h12 t12 es12 n12 D12 N12 => ?_
      refine wpAny_execs_cons ?_
      refine wpAny_If ?_
      refine wpAny_isTrue_Compare1 ?_
      refine r_cell (by assumption) rfl (by repeat (first | exact List.Mem.head _ | apply List.Mem.tail)) (by assumption) ?_
      refine r_local (by assumption) (by assumption) ?_
      refine PySem.P.lt_int ?_
      refine wpAny_truthy_bool ?_
      rw [hdec]
      refine iteT ?_
      refine wpAny_execs_cons ?_
      refine wpAny_Expr_any ?_
      refine MethodCall_ ?_
      refine r_local (by assumption) (by assumption) ?_
      refine r_methO (by assumption) (by assumption) (by assumption) (by assumption) (by repeat (first | exact List.Mem.head _ | apply List.Mem.tail)) (by exact OkB.m_hpush (by assumption)) (by assumption) (by assumption) ?_
      refine r_callF (by assumption) (by assumption) (by assumption) (by exact OkB.f_hpush (by assumption)) ?_
      refine wpAny_items_cons ?_
      refine r_local (by assumption) rfl ?_
      refine wpAny_items_nil ?_
      refine r_inK (by assumption) (by assumption) (by assumption) ?_
      have hhvl := hhl.length
      refine c_hpush W Z Zv (Le.trans hH6 N12.g.sub) N12.g.keep (rd.less (by decide)) (hhx6.mono N12.g.sub) (N12.lendM (pre := [_, _, _, _, _, _]) (ow := [(dh, dictOf hes hn), (hl, lstO hvs hq)])) (by rw [hhvl]; unfold hlD; simp; (first | lia | omega)) fun B13 h13 t13 F13 => ?_
      have N13 := N12.backM (pre := [_, _, _, _, _, _]) (ow := [(dh, dictOf hes hn), (hl, lstO hvs hq)]) F13
      have le13 := F13.1.sub
      refine wpAny_execs_nil ?_
      refine wpAny_execs_nil ?_
      have N14 := N13.perm (permIns [_, _] [_, _, _, _, _, _, _, _] dow hows gows)
      refine ⟨_, _, _, _, _, rfl, N14, oa, _, _, _, hows ++ _, gows, rfl, d2, ?_, ?_, mr, mg', ma, mh, mgr⟩
      · rw [hlD_succ hia, htgt]
        exact (hhl.mono (Le.trans N12.g.sub le13)).append (.one ⟨dx, es12, n12, cx, lvs, lq, _, le13 _ _ exx, rfl, D12, f1, rfl, f3, f4, hcs.mono le13⟩)
      · rw [glD_same hia]
        exact hgl.mono (Le.trans N12.g.sub le13)
    · have hdec : decide ((i : Int) < ab) = false := by simp; (first | lia | omega)
      rw [hdec]
      refine iteF ?_
      refine MethodCall_ ?_
      refine r_local (by assumption) (by assumption) ?_
      refine r_methO (by assumption) (by assumption) (by assumption) (by assumption) (by repeat (first | exact List.Mem.head _ | apply List.Mem.tail)) (by exact OkB.m_gline (by assumption)) (by assumption) (by assumption) ?_
      refine r_callF (by assumption) (by assumption) (by assumption) (by exact OkB.f_gline (by assumption)) ?_
      refine wpAny_items_cons ?_
      refine wpAny_BinOp ?_
      refine r_cell (by assumption) rfl (by repeat (first | exact List.Mem.head _ | apply List.Mem.tail)) (by assumption) ?_
      refine r_local (by assumption) (by assumption) ?_
      refine r_sub ?_; intro _ _
      refine wpAny_items_nil ?_
      refine r_inK (by assumption) (by assumption) (by assumption) ?_
      obtain ⟨x, ow, o1, o2, exi, rfl, hx0, hset⟩ := hgl.at (i - ab) _ (glD_at (by (first | lia | omega)) hi')
      have hgvl := hgl.length
      rw [show (i : Int) - ab = ((i - ab : Nat) : Int) by (first | lia | omega)]
      refine c_gline W Z Zv (Le.trans hH6 N8.g.sub) N8.g.keep (rd.less (by decide)) (hgx6.mono N8.g.sub) (N8.lendM (pre := [_, _, _, _, _, _]) (ow := [(dg, dictOf ges gn), (gl, lstO gvs gq)])) exi (by rw [hgvl]; unfold glD; simp; (first | lia | omega)) fun B9 h9 t9 F9 => ?_
      have N9 := N8.backM (pre := [_, _, _, _, _, _]) (ow := [(dg, dictOf ges gn), (gl, lstO gvs gq)]) F9
      refine r_store N9 fun h10 t10 N10 => ?_
      have N10 := N10.perm (permOut [_, _, _, _, _, _, _, _] dow hows o1 ow o2)
      have hx9 := hx0.mono (Le.trans N8.g.sub F9.1.sub)
      refine wpAny_execs_cons ?_
      refine wpAny_Expr_any ?_
      refine Call_ ?_
      refine r_global (by assumption) (by assumption) (by assumption) (by exact OkB.g_laid (by assumption)) ?_
      refine r_callF (by assumption) (by assumption) (by assumption) (by exact OkB.f_laid (by assumption)) ?_
      refine wpAny_items_cons ?_
      refine r_local (by assumption) rfl ?_
      refine wpAny_items_cons ?_
      refine r_local (by assumption) rfl ?_
      refine wpAny_items_nil ?_
      refine r_inK (by assumption) (by assumption) (by assumption) ?_
      refine c_laid W Z Zv (Le.trans hH6 N10.g.sub) N10.g.keep (rd.less (by decide)) hx9 (N10.lend (ow := ow) (.refl _)) (N10.g.sub _ _ (le6 _ _ esa)) (hsv.mono fun _ _ y => y.mono (Le.trans le6 N10.g.sub)) hsok fun B11 h11 t11 ow11 F11 hx11 => ?_
      have N11 := N10.back (ow := ow) (.refl _) F11
      obtain ⟨dx, esx, nx, cx, lvs, lq, fsx, exx, rfl, Dx, f1, f2, f3, f4, hcs⟩ := hx11
      refine wpAny_execs_cons ?_
      refine plainObj_wpAny_Assign_Attribute ?_
      refine Subscript_ ?_
      refine r_local (by assumption) (by assumption) ?_
      refine r_cell (by assumption) rfl (by repeat (first | exact List.Mem.head _ | apply List.Mem.tail)) (by assumption) ?_
      refine r_lstItem (N11.lst (N11.g.sub _ _ (le6 _ _ hg))) (by (first | lia | omega)) (by (first | lia | omega)) (by simpa using ebv) ?_
      refine r_local (by assumption) rfl ?_
      refine r_setAttrS W hH6 N11 exx 0 rfl Z.s_wrapped Dx f2 fun h12 t12 es12 n12 D12 N12 => ?_
      refine wpAny_execs_cons ?_
      refine wpAny_If ?_
      refine wpAny_isTrue_Compare1 ?_
      refine r_cell (by assumption) rfl (by repeat (first | exact List.Mem.head _ | apply List.Mem.tail)) (by assumption) ?_
      refine r_local (by assumption) (by assumption) ?_
      refine PySem.P.lt_int ?_
      refine wpAny_truthy_bool ?_
      rw [hdec]
      refine iteF ?_
      refine wpAny_execs_nil ?_
      refine wpAny_execs_nil ?_
      have N14 := N12.perm (permOut [_, _, _, _, _, _, _, _] dow hows o1 [_, _] o2).symm
      refine ⟨_, _, _, _, _, rfl, N14, oa, _, hvs, hq, hows, o1 ++ (_ ++ o2), rfl, d2, ?_, ?_, mr, mg', ma, mh, mgr⟩
      · rw [hlD_same (by (first | lia | omega))]
        exact hhl.mono N12.g.sub
      · rw [glD_succ (by (first | lia | omega)) hi']
        exact hset _ _ _ N12.g.sub (by rw [htgt]; exact ⟨dx, es12, n12, cx, lvs, lq, _, exx, rfl, D12, f1, rfl, f3, f4, hcs⟩)
  · obtain ⟨oa, c2, hvs, hq, hows, gows, rfl, d2, hhl, hgl, mr, mg', ma, mh, mgr⟩ := inv
    rw [hrv.length] at hhl hgl
    refine wpAny_execs_cons ?_
    refine Assign_Tuple_swapped (names := ["view", "told"]) ?_
    refine Tuple_ ?_
    refine wpAny_items_cons ?_
    refine Call_ ?_
    refine r_global (by assumption) (by assumption) (by assumption) (by exact OkB.g_View (by assumption)) ?_
    refine r_callC (by assumption) (by assumption) (by assumption) (by exact OkB.c_View (by assumption)) ?_
    refine wpAny_items_cons ?_
    refine r_local (by assumption) (by assumption) ?_
    refine wpAny_items_cons ?_
    refine r_local (by assumption) (by assumption) ?_
    refine wpAny_items_nil ?_
    refine r_inK (by assumption) (by assumption) (by assumption) ?_
    refine c_mkView W Z (Le.trans hH O6.g.sub) O6.g.keep (rd.less (by decide)) fun B7 h7 t7 xv dv esv nv fsv G7 exv Dv v1 v2 v3 v4 v5 v6 mk7 => ?_
    have O7 := O6.takes (O6.call G7) mk7 (fun p hp => .inl (own_same p hp))
    have le7 := Le.trans le6 G7.sub
    refine wpAny_items_cons ?_
    refine Call_ ?_
    refine r_global (by assumption) (by assumption) (by assumption) (by exact OkB.g_lcodes (by assumption)) ?_
    refine r_callF (by assumption) (by assumption) (by assumption) (by exact OkB.f_lcodes (by assumption)) ?_
    refine wpAny_items_cons ?_
    refine r_local (by assumption) (by assumption) ?_
    refine wpAny_items_cons ?_
    refine r_local (by assumption) (by assumption) ?_
    refine wpAny_items_nil ?_
    refine r_inK (by assumption) (by assumption) (by assumption) ?_
    refine c_lcodes W Z Zv (Le.trans hH O7.g.sub) O7.g.keep (rd.less (by decide)) (le7 _ _ hr) (hrv.mono fun _ _ y => y.mono le7) (le7 _ _ hg) hgv hlen hok hgo (by (first | lia | omega)) fun B8 h8 t8 ta tvs tq G8 eta htv => ?_
    have O8 := O7.call G8
    refine wpAny_items_nil ?_
    refine r_tuple O8 fun b9 B9 h9 O9 le9 e9 => ?_
    refine r_unpack rd.handled O9 e9 rfl fun h10 O10 => ?_
    refine assignInOrder_cons (bindName_ ?_)
    refine r_store O10 fun h11 t11 O11 => ?_
    refine assignInOrder_cons (bindName_ ?_)
    refine r_store O11 fun h12 t12 O12 => assignInOrder_nil ?_
    refine wpAny_execs_cons ?_
    refine wpAny_Assign_Name ?_
    refine Call_ ?_
    refine r_global (by assumption) (by assumption) (by assumption) (by exact OkB.g_draw (by assumption)) ?_
    refine r_callF (by assumption) (by assumption) (by assumption) (by exact OkB.f_draw (by assumption)) ?_
    refine wpAny_items_cons ?_
    refine r_cell (by assumption) rfl (by repeat (first | exact List.Mem.head _ | apply List.Mem.tail)) (by assumption) ?_
    refine wpAny_items_cons ?_
    refine r_int ?_; intro _ _
    refine wpAny_items_nil ?_
    refine r_inK (by assumption) (by assumption) (by assumption) ?_
    refine c_draw (n := 8) W Z (Le.trans hH O12.g.sub) O12.g.keep (rd.less (by decide)) hdk (O12.lendM (pre := [_, _, _, _, _, _, _, _, _]) (ow := dow)) (by decide) fun B13 h13 t13 dow' r u13 F13 hd13 hr => ?_
    have O13 := O12.backM (pre := [_, _, _, _, _, _, _, _, _]) (ow := dow) F13
    refine r_store O13 fun h14 t14 O14 => ?_
    have O15 := O14.perm ((permM [_] [_, _, _] _).trans List.perm_append_comm)
    obtain ⟨B16, O16, le16, h16⟩ := Ow.restAll (xs := (dv, dictOf esv nv) :: (L + 1, od) :: (dh, dictOf hes hn) :: (hl, lstO hvs hq) :: (dg, dictOf ges gn) :: (gl, lstO gvs gq) :: (dow' ++ (hows ++ gows))) (own := [(L + 1 + 1 + 1 + 1, oc), (L + 1 + 1 + 1, oa), (L + 1 + 1, om)]) O15 (fun p _ z => by cases z)
    have le13 : Le B7 B16 := Le.trans (Le.trans G8.sub le9) (Le.trans F13.1.sub le16)
    have le6' : Le B6 B16 := Le.trans G7.sub le13
    obtain ⟨fsh, u5, exh, Dh, fh1, fh2, fh3⟩ := hhx.mono (Le.trans le6 le6')
    obtain ⟨fsg, exg, Dg, fg1, fg2⟩ := hgx.mono (Le.trans le6 le6')
    have hall := (hhl.append hgl).rest le6' (fun p hp => h16 p (by
      rcases List.mem_append.mp hp with hp | hp
      · simp [hp]
      · simp [hp]))
    rw [hg_all (Nat.le_of_lt hab)] at hall
    have hhvl : hvs.length = ab := by
      rw [hhl.length]
      unfold hlD
      simp
      (first | lia | omega)
    have hv : ViewV N B16 (.ref xv) ab (lsD rows goes) :=
      ⟨xv, dv, esv, nv, hx, dh, hes, hn, hl, hq, gx, dg, ges, gn, gl, gq, hvs, gvs, rfl, le13 _ _ exv, h16 (dv, _) (by simp), by rw [Dv.2.2, v1], by rw [Dv.2.2, v2], by rw [Dv.2.2, v3], by rw [Dv.2.2, v4], by rw [Dv.2.2, v5], by rw [Dv.2.2, v6],
        exh, h16 (dh, _) (by simp), by rw [Dh.2.2, fh2], h16 (hl, _) (by simp), exg, h16 (dg, _) (by simp), by rw [Dg.2.2, fg1], h16 (gl, _) (by simp), hhvl, hall⟩
    have htl := lcD_len (goes := goes) hok rows.length
    have leT : Le B8 B16 := Le.trans le9 (Le.trans F13.1.sub le16)
    have X : wpAny (model prog w) A (execs ((bodF (top 39)).drop 9) (lawE Y L cdv)) (fun fl s' => Q (match fl with | .ret v => v | _ => .none) s') (fun _ _ => False) ⟨h14, g, d, t14, os⟩ :=
      law_C W Z Zv hH rd O16 d1 d2 d3 rfl hv rfl (leT _ _ eta) (htv.mono fun _ _ y => y.mono leT) rfl (by (first | lia | omega)) (by (first | lia | omega)) (by (first | lia | omega)) (by rw [lsD_len]; (first | lia | omega)) (fun l hl => by rw [lsD_cells hok l hl]; decide) hbig (fun r' c hr' hc => hplain _ r' c hr hr' hc) k
    exact X
end
end

section
open PySem PySem.W PySem.Calls PyProof.Rows PySem.SeqAt

section
variable {h₀ h h' : Heap} {B₀ B B' : Sto} {M₀ : List Addr} {L a : Addr} {own pre ow ow' : Own} {m : Str → Option Value} {o : Obj}
theorem Ow.lendE (O : Ow h₀ B₀ M₀ L B (pre ++ ow) m h) : Lent B h ow := O.lend List.perm_append_comm
theorem Ow.backE (O : Ow h₀ B₀ M₀ L B (pre ++ ow) m h) (F : Back h B ow ow' B' h') : Ow h₀ B₀ M₀ L B' (pre ++ ow') m h' := (O.back List.perm_append_comm F).perm List.perm_append_comm
theorem back_same (pre : Own) (e : ow'.map (·.1) = ow.map (·.1)) : ∀ p ∈ pre ++ ow', ∃ q ∈ pre ++ ow, q.1 = p.1 := fun p hp => by
  rcases List.mem_append.mp hp with hp | hp
  · exact ⟨p, List.mem_append_left _ hp, rfl⟩
  · have : p.1 ∈ ow.map (·.1) := e ▸ List.mem_map_of_mem hp
    obtain ⟨q, hq, e2⟩ := List.mem_map.mp this
    exact ⟨q, List.mem_append_right _ hq, e2⟩
end
theorem permL (a b c d e : Own) : ((a ++ b) ++ (c ++ (d ++ e))).Perm (d ++ (c ++ (a ++ (e ++ b)))) := by
  refine List.perm_append_comm.trans ?_
  rw [List.append_assoc, List.append_assoc]
  exact (permM c d (e ++ (a ++ b))).trans (((permM e a b).append_left c).append_left d)
/-- the law in plain words: the two countings end alike -/
def PlainLaw : Prop := ∀ (rows : List (List Cell)) (goes : List Bool), (∀ sg ∈ rows, RowOk sg) → goes.length = rows.length → (∀ i, goes[i]? = some true → i + 1 < rows.length) →
  (∀ sz r c, r < rows.length → foundD (lsD rows goes) sz r c = dueD (lcD rows goes rows.length) sz r c) ∧ (toldD (lsD rows goes) (lsD rows goes).length).length ≤ 13 * rows.length

section
variable {prog : Program} {w : World} {A : Around} {E : Value → Shared → Prop} {Q : Value → Shared → Prop} {QU : Unit → Shared → Prop} {R : Result → Shared → Prop}
variable {h h₀ : Heap} {B B₀ : Sto} {M₀ : List Addr} {g : Array GenState} {d : Drawn} {t : Nat} {os : OsState} {v : Value} {ow own : Own} {x : Addr} {l : LineD} {L : Addr} {cdv : Value} {m : Str → Option Value}
variable {K : Frag} {N : Nm} {Y : Nb} {p : Program} {loose : List Str} {mg mb : Str → Option Value} {H : Heap}

set_option maxHeartbeats 2000000 in
set_option maxRecDepth 10000 in
theorem c_law (W : Wd K p loose mg mb H) (Z : OkB K N Y) (Zv : OkV K N) (hH : Le H.get? B) (kp : Kp B h) (r : Room A 8) (PL : PlainLaw) {sa : Addr} {svs : List Value} {ns : List Int} (hs : ∃ o, B sa = some o ∧ o.cls = .type "list" ∧ ∃ n, o.data = .seq svs.toArray n) (hi : IntsAre svs ns) (hz : svs.length ≤ 1000)
    (k : ∀ B' h' t', Grow h B [] B' h' → Q (.bool true) ⟨h', g, d, t', os⟩) : wpAny (model prog w) A (call (.ref Y.law) [.ref sa]) Q E ⟨h, g, d, t, os⟩ := by
  refine enterC (own := []) (binds := [("script", .ref sa)]) W hH kp (by simp) .nil Z.f_law r.room (fun L h1 t1 cdv cown hco O => ?_) (hkind := ?_) (hlk := ?_)
  · have rd := r.deeper (env := lawE Y L cdv)
    obtain ⟨o4, _, rfl, d4, o3, _, rfl, d3, o2, _, rfl, d2, o1, _, rfl, d1, rfl⟩ := hco
    refine wpAny_execs_cons ?_
    refine wpAny_Assign_Name ?_
    refine Call_ ?_
    refine r_global (by assumption) (by assumption) (by assumption) (by exact OkB.g_deck (by assumption)) ?_
    refine r_callF (by assumption) (by assumption) (by assumption) (by exact OkB.f_deck (by assumption)) ?_
    refine wpAny_items_cons ?_
    refine r_local (by assumption) rfl ?_
    refine wpAny_items_nil ?_
    refine r_inK (by assumption) (by assumption) (by assumption) ?_
    refine c_deck W Z Zv (Le.trans hH O.g.sub) O.g.keep (rd.less (by decide)) (by obtain ⟨oS, hoS, hcS⟩ := hs; exact ⟨oS, O.g.sub _ _ hoS, hcS⟩) hi hz fun B2 h2 t2 dk ow G2 hd2 mk2 nd2 => ?_
    have O2 := (O.takeAll (O.call G2) mk2 nd2 own_same).perm List.perm_append_comm
    refine r_storeC O2 rfl 3 rfl d1 fun h3 o1 d1 O3 => ?_
    refine wpAny_execs_cons ?_
    refine wpAny_Assign_Name ?_
    refine wpAny_BinOp ?_
    refine r_int ?_; intro _ _
    refine Call_ ?_
    refine r_global (by assumption) (by assumption) (by assumption) (by exact OkB.g_draw (by assumption)) ?_
    refine r_callF (by assumption) (by assumption) (by assumption) (by exact OkB.f_draw (by assumption)) ?_
    refine wpAny_items_cons ?_
    refine r_cell (by assumption) rfl (by repeat (first | exact List.Mem.head _ | apply List.Mem.tail)) (by assumption) ?_
    refine wpAny_items_cons ?_
    refine r_int ?_; intro _ _
    refine wpAny_items_nil ?_
    refine r_inK (by assumption) (by assumption) (by assumption) ?_
    refine c_draw (n := 3) W Z (Le.trans hH O3.g.sub) O3.g.keep (rd.less (by decide)) hd2 (O3.lendE (pre := [_, _, _, _]) (ow := ow)) (by decide) fun B4 h4 t4 ow4 rm u4 F4 hd4 hrm => ?_
    have O4 := O3.backE (pre := [_, _, _, _]) (ow := ow) F4
    refine r_add ?_; intro _ _
    rw [show (1 : Int) + (rm : Int) = ((1 + rm : Nat) : Int) by (first | lia | omega)]
    obtain ⟨mn, hmn⟩ : ∃ mn, mn = 1 + rm := ⟨_, rfl⟩
    rw [← hmn]
    refine r_storeC O4 rfl 2 rfl d2 fun h5 o2 d2 O5 => ?_
    refine wpAny_execs_cons ?_
    refine r_compTo ?_
    refine Call_ ?_
    refine r_builtin (by assumption) (by assumption) (by assumption) (by exact OkV.b_range (by assumption)) (by boot_by_name) ?_
    refine r_callT ?_
    refine wpAny_items_cons ?_
    refine r_cell (by assumption) rfl (by repeat (first | exact List.Mem.head _ | apply List.Mem.tail)) (by assumption) ?_
    refine wpAny_items_nil ?_
    refine r_range rd.handled O5 (by (first | lia | omega)) fun I h6 t6 O6 S6 => ?_
    refine comp_name S6 O6 rfl (fun j xs B' own' => ∃ dow sgs, own' = (L + 1 + 1 + 1 + 1, o4) :: (L + 1 + 1 + 1, o3) :: (L + 1 + 1, o2) :: (L + 1, o1) :: dow ∧ DeckOwn prog w dk dow ∧ Each (RowV B') xs sgs ∧ ∀ sg ∈ sgs, RowOk sg)
      ⟨ow4, [], rfl, hd4, .nil, by simp⟩ ?_ ?_ (by unfold sizeLine; (first | lia | omega)) (hh := rd.handled)
    · intro j v xs B' own' C D oL q mc h' h1 t' E' hj hv hxs inv le hL kp' O7
      obtain ⟨dow, sgs, rfl, hd7, hsgs, hok⟩ := inv
      have hH7 := Le.trans (Le.trans hH O6.g.sub) le
      refine Call_ ?_
      refine r_global (by assumption) (by assumption) (by assumption) (by exact OkB.g_signs (by assumption)) ?_
      refine r_callF (by assumption) (by assumption) (by assumption) (by exact OkB.f_signs (by assumption)) ?_
      refine wpAny_items_cons ?_
      refine r_cell (by assumption) rfl (by repeat (first | exact List.Mem.head _ | apply List.Mem.tail)) (by assumption) ?_
      refine wpAny_items_nil ?_
      refine r_inK (by assumption) (by assumption) (by assumption) ?_
      refine c_signs W Z Zv (Le.trans hH7 O7.g.sub) O7.g.keep (rd.less (by decide)) hd7 (O7.lendE (pre := [_, _, _, _, _, _]) (ow := dow)) fun B8 h8 t8 dow' ra rvs rq sg F8 hd8 mk8 hsv8 hok8 => ?_
      have O8 := O7.takes (O7.backE (pre := [_, _, _, _, _, _]) (ow := dow) F8) mk8 (fun p hp => .inl (back_same [_, _, _, _, _, _] F8.2.1 p hp))
      obtain ⟨O9, le9, e9⟩ := Ow.restT (own₀ := (L, oL) :: (D, lstO xs q) :: (L + 1 + 1 + 1 + 1, o4) :: (L + 1 + 1 + 1, o3) :: (L + 1 + 1, o2) :: (L + 1, o1) :: dow) O8 (back_same (pre := [_, _, _, _, _, _]) F8.2.1.symm)
      refine ⟨_, _, _, h8, _, rfl, O9, dow', sgs ++ [sg], rfl, hd8, ?_, ?_⟩
      · exact (hsgs.mono fun _ _ y => y.mono (Le.trans O7.g.sub (Le.trans F8.1.sub le9))).append (.cons ⟨ra, rvs, rq, rfl, e9, hsv8.mono fun _ _ y => y.mono le9⟩ .nil)
      · intro z hz
        rcases List.mem_append.mp hz with hz | hz
        · exact hok z hz
        · rw [List.mem_singleton.mp hz]; exact hok8
    · intro xs B7 own7 D q hxs inv le7
      obtain ⟨dow, rows, rfl, hd7, hrows, hok⟩ := inv
      refine ⟨_, _, rfl, rfl, rfl, fun h7 t7 O7 => ?_⟩
      obtain ⟨O8, le8, e8⟩ := O7.rest (by simp)
      have hrn : rows.length = mn := by rw [← hrows.length]; exact hxs
      have hrows8 := hrows.mono fun _ _ y => y.mono le8
      refine wpAny_execs_cons ?_
      refine r_compTo ?_
      refine Call_ ?_
      refine r_builtin (by assumption) (by assumption) (by assumption) (by exact OkV.b_range (by assumption)) (by boot_by_name) ?_
      refine r_callT ?_
      refine wpAny_items_cons ?_
      refine r_cell (by assumption) rfl (by repeat (first | exact List.Mem.head _ | apply List.Mem.tail)) (by assumption) ?_
      refine wpAny_items_nil ?_
      refine r_range rd.handled O8 (by (first | lia | omega)) fun I2 h9 t9 O9 S9 => ?_
      refine comp_name S9 O9 rfl (fun j xs B' own' => ∃ dow gs, own' = (L + 1 + 1 + 1 + 1, o4) :: (L + 1 + 1 + 1, o3) :: (L + 1 + 1, o2) :: (L + 1, o1) :: dow ∧ DeckOwn prog w dk dow ∧ Each BoolV xs gs ∧ ∀ i, gs[i]? = some true → i + 1 < mn)
        ⟨dow, [], rfl, hd7, .nil, by simp⟩ ?_ ?_ (by unfold sizeLine; (first | lia | omega)) (hh := rd.handled)
      · intro j v xs B' own' C D2 oL q mc h' h1 t' E' hj hv hxs inv le hL kp' O10
        obtain ⟨dow, gs, rfl, hd10, hgs, hgo⟩ := inv
        obtain ⟨uv, rfl⟩ := hv
        have hH10 := Le.trans (Le.trans hH O9.g.sub) le
        have hgl := hgs.length
        have step : ∀ b : Bool, (b = true → j + 1 < mn) → ∀ i, (gs ++ [b])[i]? = some true → i + 1 < mn := fun b hb i e => by
          rcases Nat.lt_or_ge i gs.length with q | q
          · rw [List.getElem?_append_left q] at e; exact hgo i e
          · rw [List.getElem?_append_right q] at e
            rcases Nat.lt_or_ge (i - gs.length) 1 with q2 | q2
            · rw [show i - gs.length = 0 by (first | lia | omega)] at e
              simp at e
              have := hb e
              (first | lia | omega)
            · rw [List.getElem?_eq_none_iff.mpr (by simpa using q2)] at e; cases e
        refine BoolOp_and ?_
        refine wpAny_Compare1 ?_
        refine wpAny_BinOp ?_
        refine r_local (by assumption) rfl ?_
        refine r_int ?_; intro _ _
        refine r_add ?_; intro _ _
        refine r_cell (by assumption) rfl (by repeat (first | exact List.Mem.head _ | apply List.Mem.tail)) (by assumption) ?_
        refine PySem.P.lt_int ?_
        refine wpAny_truthy_bool ?_
        refine PyProof.Rows.split_dec (fun hT => ?_) (fun hF => ?_)
        · refine BoolOp_one ?_
          refine wpAny_Compare1 ?_
          refine Call_ ?_
          refine r_global (by assumption) (by assumption) (by assumption) (by exact OkB.g_draw (by assumption)) ?_
          refine r_callF (by assumption) (by assumption) (by assumption) (by exact OkB.f_draw (by assumption)) ?_
          refine wpAny_items_cons ?_
          refine r_cell (by assumption) rfl (by repeat (first | exact List.Mem.head _ | apply List.Mem.tail)) (by assumption) ?_
          refine wpAny_items_cons ?_
          refine r_int ?_; intro _ _
          refine wpAny_items_nil ?_
          refine r_inK (by assumption) (by assumption) (by assumption) ?_
          refine c_draw (n := 2) W Z (Le.trans hH10 O10.g.sub) O10.g.keep (rd.less (by decide)) hd10 (O10.lendE (pre := [_, _, _, _, _, _]) (ow := dow)) (by decide) fun B11 h11 t11 dow' r11 u11 F11 hd11 hr11 => ?_
          have O11 := O10.backE (pre := [_, _, _, _, _, _]) (ow := dow) F11
          refine r_int ?_; intro _ _
          refine PySem.P.eq_int ?_
          exact ⟨_, _, _, _, _, rfl, O11, dow', gs ++ [_], rfl, hd11, hgs.append (.cons rfl .nil), step _ fun _ => by (first | lia | omega)⟩
        · skip
          exact ⟨_, _, _, _, _, rfl, O10, dow, gs ++ [false], rfl, hd10, hgs.append (.cons (by rw [BoolV, decide_eq_false hF]) .nil), step _ fun e => by cases e⟩
      · intro xs2 B10 own10 D2 q2 hxs2 inv le10
        obtain ⟨dow, goes, rfl, hd10, hgoes, hgo⟩ := inv
        refine ⟨_, _, rfl, rfl, rfl, fun h10 t10 O10 => ?_⟩
        obtain ⟨O11, le11, e11⟩ := O10.rest (by simp)
        have hgn : goes.length = mn := by rw [← hgoes.length]; exact hxs2
        refine wpAny_execs_cons ?_
        refine wpAny_Assign_Name ?_
        refine wpAny_mono (Q := fun v s => ∃ av : Nat, ∃ u B' h' t' dow', v = .int av u ∧ s = ⟨h', g, d, t', os⟩ ∧ Ow h B [] L B' ((L + 1 + 1 + 1 + 1, o4) :: (L + 1 + 1 + 1, o3) :: (L + 1 + 1, o2) :: (L + 1, o1) :: dow') (upd (upd (bindL (envC "law" (scpF (top 39)) L Y.law cdv).kindOf [("script", .ref sa)] fun _ => none) "rows" (.ref D)) "goes" (.ref D2)) h' ∧ Le (put B10 D2 (lstO xs2 q2)) B' ∧ DeckOwn prog w dk dow' ∧ av < mn) ?_ ?_ fun _ _ e => e
        · refine wpAny_IfExp ?_
          refine wpAny_isTrue_Compare1 ?_
          refine r_cell (by assumption) rfl (by repeat (first | exact List.Mem.head _ | apply List.Mem.tail)) (by assumption) ?_
          refine r_int ?_; intro _ _
          refine PySem.P.gt_int ?_
          refine wpAny_truthy_bool ?_
          refine PyProof.Rows.split_dec (fun hT => ?_) (fun hF => ?_)
          · refine Call_ ?_
            refine r_global (by assumption) (by assumption) (by assumption) (by exact OkB.g_draw (by assumption)) ?_
            refine r_callF (by assumption) (by assumption) (by assumption) (by exact OkB.f_draw (by assumption)) ?_
            refine wpAny_items_cons ?_
            refine r_cell (by assumption) rfl (by repeat (first | exact List.Mem.head _ | apply List.Mem.tail)) (by assumption) ?_
            refine wpAny_items_cons ?_
            refine r_int ?_; intro _ _
            refine wpAny_items_nil ?_
            refine r_inK (by assumption) (by assumption) (by assumption) ?_
            refine c_draw (n := 2) W Z (Le.trans hH O11.g.sub) O11.g.keep (rd.less (by decide)) hd10 (O11.lendE (pre := [_, _, _, _]) (ow := dow)) (by decide) fun B12 h12 t12 dow' r12 u12 F12 hd12 hr12 => ?_
            have O12 := O11.backE (pre := [_, _, _, _]) (ow := dow) F12
            exact ⟨r12, u12, B12, h12, t12, dow', rfl, rfl, O12, F12.1.sub, hd12, by (first | lia | omega)⟩
          · refine r_int ?_; intro _ _
            exact ⟨0, _, _, h10, _, dow, rfl, rfl, O11, Le.refl _, hd10, by (first | lia | omega)⟩
        · rintro v s ⟨av, u12, B12, h12, t12, dow', rfl, rfl, O12, le12, hd12, hav⟩
          refine r_store O12 fun h13 t13 O13 => ?_
          refine wpAny_execs_cons ?_
          refine Assign_Tuple_swapped (names := ["history", "grid"]) ?_
          refine Tuple_ ?_
          refine wpAny_items_cons ?_
          refine Call_ ?_
          refine r_global (by assumption) (by assumption) (by assumption) (by exact OkB.g_History (by assumption)) ?_
          refine r_callC (by assumption) (by assumption) (by assumption) (by exact OkB.c_History (by assumption)) ?_
          refine wpAny_items_cons ?_
          refine r_int ?_; intro _ _
          refine wpAny_items_nil ?_
          refine r_inK (by assumption) (by assumption) (by assumption) ?_
          refine c_mkHist W Z Zv (Le.trans hH O13.g.sub) O13.g.keep (rd.less (by decide)) fun B14 h14 t14 hx dh hl hes hn G14 hhx mk14 hne => ?_
          have O14 := O13.takeAll (O13.call G14) mk14 (.cons (fun p hp => by rw [List.mem_singleton.mp hp]; exact hne) (by simp)) own_same
          refine wpAny_items_cons ?_
          refine Call_ ?_
          refine r_global (by assumption) (by assumption) (by assumption) (by exact OkB.g_Grid (by assumption)) ?_
          refine r_callC (by assumption) (by assumption) (by assumption) (by exact OkB.c_Grid (by assumption)) ?_
          refine wpAny_items_cons ?_
          refine wpAny_BinOp ?_
          refine r_cell (by assumption) rfl (by repeat (first | exact List.Mem.head _ | apply List.Mem.tail)) (by assumption) ?_
          refine r_local (by assumption) rfl ?_
          refine r_sub ?_; intro _ _
          refine wpAny_items_cons ?_
          refine r_int ?_; intro _ _
          refine wpAny_items_nil ?_
          refine r_inK (by assumption) (by assumption) (by assumption) ?_
          subst hrn
          rw [show ((rows.length : Int)) - av = ((rows.length - av : Nat) : Int) by (first | lia | omega)]
          refine c_mkGrid (n := rows.length - av) (m := 4) W Z Zv (Le.trans hH O14.g.sub) O14.g.keep rd (by (first | lia | omega)) (by (first | lia | omega)) (by decide) (by decide) fun B15 h15 t15 gx dg gl ges gn gvs gq ows G15 hgx hgl mk15 nd15 => ?_
          have O15 := O14.takeAll (O14.call G15) mk15 nd15 own_same
          refine wpAny_items_nil ?_
          refine r_tuple O15 fun b16 B16 h16 O16 le16 e16 => ?_
          refine r_unpack rd.handled O16 e16 rfl fun h17 O17 => ?_
          refine assignInOrder_cons (bindName_ ?_)
          refine r_store O17 fun h18 t18 O18 => ?_
          refine assignInOrder_cons (bindName_ ?_)
          refine r_store O18 fun h19 t19 O19 => assignInOrder_nil ?_
          have O20 := O19.perm (permL [_, _] ows [_, _] [_, _, _, _] dow')
          have leA : Le (put B10 D2 (lstO xs2 q2)) B16 := Le.trans le12 (Le.trans (Le.trans G14.sub G15.sub) le16)
          have leB : Le (put B7 D (lstO xs q)) B16 := Le.trans le10 (Le.trans le11 leA)
          obtain ⟨PL1, PL2⟩ := PL rows goes hok hgn hgo
          have X : wpAny (model prog w) (A.deeper (lawE Y L cdv)) (execs ((bodF (top 39)).drop 6) (lawE Y L cdv)) (fun fl s' => Q (match fl with | .ret v => v | _ => .none) s') (fun _ _ => False) ⟨h19, g, d, t19, os⟩ :=
            law_B (dow := dow') (ows := ows) W Z Zv hH rd O20 d4 d3 d2 d1 (hhx.mono (Le.trans G15.sub le16)) (hgx.mono le16) (hgl.mono le16) hd12 (leB _ _ e8) (hrows8.mono fun _ _ y => y.mono leB) (leA _ _ e11) hgoes hgn hok hgo (by (first | lia | omega)) hav rfl rfl rfl rfl rfl (fun sz r c _ hr _ => PL1 sz r c hr) (by (first | lia | omega)) k
          exact X
  · intro n x hx
    simp only [List.mem_singleton] at hx
    subst hx
    exact .inl rfl
  · intro n p hp
    have e : cellsFrom (n + 1) (scpF (top 39)).names [] = [(("column" : Str), (n + 1 + 1 + 1 + 1 : Addr)), (("at" : Str), (n + 1 + 1 + 1 : Addr)), (("many" : Str), (n + 1 + 1 : Addr)), (("deck" : Str), (n + 1 : Addr))] := rfl
    rw [e] at hp ⊢
    rcases List.mem_cons.mp hp with rfl | hp
    · rfl
    rcases List.mem_cons.mp hp with rfl | hp
    · rfl
    rcases List.mem_cons.mp hp with rfl | hp
    · rfl
    rw [List.mem_singleton.mp hp]; rfl
end
end

section
open PySem PySem.W PySem.Calls PyProof.Rows

/-! the plain law: both countings -/
theorem layD_split (sg : List Cell) (j : Nat) (c : Cell) (h : sg[j]? = some c) : layD sg = layD (sg.take j) ++ (sgC c ++ layD (sg.drop (j + 1))) := by
  have e : sg = sg.take j ++ c :: sg.drop (j + 1) := by
    conv => lhs; rw [← List.take_append_drop j sg]
    congr 1
    rw [List.drop_eq_getElem?_toList_append, h]
    rfl
  conv => lhs; rw [e]
  unfold layD
  rw [List.flatMap_append, List.flatMap_cons]
theorem layD_take_succ (sg : List Cell) (j : Nat) (c : Cell) (h : sg[j]? = some c) : layD (sg.take (j + 1)) = layD (sg.take j) ++ sgC c := by
  rw [List.take_add_one, h]
  exact layD_snoc _ _
theorem cell_at (sg : List Cell) (j : Nat) (c : Cell) (h : sg[j]? = some c) (t : Nat) (ht : t < (sgC c).length) : (layD sg)[(layD (sg.take j)).length + t]? = (sgC c)[t]? := by
  rw [layD_split sg j c h, List.getElem?_append_right (by (first | lia | omega)), Nat.add_sub_cancel_left, List.getElem?_append_left ht]
theorem take_layD (sg : List Cell) (n : Nat) : (layD sg).take (layD (sg.take n)).length = layD (sg.take n) := by
  have : layD sg = layD (sg.take n) ++ layD (sg.drop n) := by unfold layD; rw [← List.flatMap_append, List.take_append_drop]
  rw [this, List.take_left]

/-- places of the view's codes -/
def plT (x : Int × Nat × Nat) : Nat × Nat := x.2
def plL (y : Lc) : Nat × Nat := (y.1, y.2.1)
theorem colCodes_succ (r : Nat) (cs : List Cell) (j : Nat) (c : Cell) (h : cs[j]? = some c) : (colCodes r cs (j + 1)).map plT = (colCodes r cs j).map plT ++ List.replicate (ccod c).length (r, j) := by
  rw [colCodes, h, List.map_append, List.map_map]
  congr 1
  exact List.map_const' ..
theorem sigLc_pl (r col : Nat) (w : Int) (n : Nat) : (sigLc r col w n).map plL = List.replicate n (r, col) := by
  unfold sigLc
  rw [List.map_map]
  have : (plL ∘ fun i => (r, col, (col : Int) + w - 1, i == 0)) = fun _ => (r, col) := rfl
  rw [this, List.map_const', List.length_range]
theorem ccod_len {c : Cell} (h : sgOk c) : (ccod c).length = max 1 c.codes.length := by
  unfold ccod
  rw [if_neg (by rcases h.1 with q | q <;> (first | lia | omega))]
  split
  · rename_i q; rw [q]; rfl
  · rename_i q
    have : c.codes.length ≠ 0 := fun e => q (List.length_eq_zero_iff.mp e)
    (first | lia | omega)
theorem row_places (r : Nat) (sh : List Cell) (ok : ∀ c ∈ sh, sgOk c) : ∀ j, j ≤ sh.length → (colCodes r (layD sh) (layD (sh.take j)).length).map plT = (preLc r sh j).map plL
  | 0, _ => rfl
  | j + 1, hj => by
    have hc : sh[j]? = some sh[j] := List.getElem?_eq_getElem (by (first | lia | omega))
    have hok := ok _ (List.getElem_mem (show j < sh.length by (first | lia | omega)))
    generalize sh[j] = c at hc hok
    have ih := row_places r sh ok j (by (first | lia | omega))
    rw [preLc, hc, List.map_append, ← ih, sigLc_pl, layD_take_succ sh j c hc, List.length_append, ← ccod_len hok]
    rcases hok.1 with q | q
    · have e : sgC c = [c] := by unfold sgC; rw [if_neg (by (first | lia | omega))]
      have a0 := cell_at sh j c hc 0 (by rw [e]; simp)
      rw [e] at a0 ⊢
      exact colCodes_succ r _ _ c a0
    · have e : sgC c = [c, ⟨[], 0⟩] := by unfold sgC; rw [if_pos q]
      have a0 := cell_at sh j c hc 0 (by rw [e]; simp)
      have a1 := cell_at sh j c hc 1 (by rw [e]; simp)
      rw [e] at a0 a1 ⊢
      have s1 := colCodes_succ r _ _ c a0
      have s2 := colCodes_succ r _ _ ⟨[], 0⟩ a1
      have z : (ccod ⟨[], 0⟩).length = 0 := rfl
      rw [z, List.replicate_zero, List.append_nil] at s2
      exact s2.trans s1

theorem trim_eq (sg : List Cell) (ok : ∀ c ∈ sg, sgOk c) : ∀ n, n ≤ sg.length → trimN (layD sg) (layD (sg.take n)).length = (layD (sg.take (trimS sg n))).length
  | 0, _ => rfl
  | n + 1, hn => by
    have hc : sg[n]? = some sg[n] := List.getElem?_eq_getElem (by (first | lia | omega))
    have hok := ok _ (List.getElem_mem (show n < sg.length by (first | lia | omega)))
    generalize sg[n] = c at hc hok
    have ih := trim_eq sg ok n (by (first | lia | omega))
    have eS : trimS sg (n + 1) = if c.codes.isEmpty = true then trimS sg n else n + 1 := by
      rw [trimS, hc]
      simp
    rw [eS, layD_take_succ sg n c hc, List.length_append]
    by_cases hcd : c.codes = []
    · have hw := hok.2.1 hcd
      have e : sgC c = [c] := by unfold sgC; rw [if_neg (by (first | lia | omega))]
      have a0 := cell_at sg n c hc 0 (by rw [e]; simp)
      rw [e] at a0 ⊢
      have hb : blankC c = true := by simp [blankC, hcd, hw]
      rw [show (layD (sg.take n)).length + [c].length = (layD (sg.take n)).length + 1 from rfl, trimN]
      simp only [Nat.add_zero] at a0
      rw [a0]
      simp only [List.getElem?_cons_zero, Option.map_some, hb, if_true]
      rw [ih, if_pos (by simp [hcd])]
    · rw [if_neg (by simpa using hcd), layD_take_succ sg n c hc, List.length_append]
      rcases hok.1 with q | q
      · have e : sgC c = [c] := by unfold sgC; rw [if_neg (by (first | lia | omega))]
        have a0 := cell_at sg n c hc 0 (by rw [e]; simp)
        rw [e] at a0 ⊢
        have hb : blankC c = false := by simp [blankC, hcd]
        rw [show (layD (sg.take n)).length + [c].length = (layD (sg.take n)).length + 1 from rfl, trimN]
        simp only [Nat.add_zero] at a0
        rw [a0]
        simp [hb]
      · have e : sgC c = [c, ⟨[], 0⟩] := by unfold sgC; rw [if_pos q]
        have a1 := cell_at sg n c hc 1 (by rw [e]; simp)
        rw [e] at a1 ⊢
        rw [show (layD (sg.take n)).length + [c, ⟨[], 0⟩].length = (layD (sg.take n)).length + 1 + 1 from rfl, trimN, a1]
        have hb : blankC ⟨[], 0⟩ = false := rfl
        simp [hb]
end

section
open PySem PySem.W PySem.Calls PyProof.Rows

section
variable {rows : List (List Cell)} {goes : List Bool} (ok : ∀ sg ∈ rows, RowOk sg) (hlen : goes.length = rows.length) (hgo : ∀ i, goes[i]? = some true → i + 1 < rows.length)
theorem ls_at {r : Nat} {sg : List Cell} (hr : rows[r]? = some sg) : (lsD rows goes)[r]? = some ⟨layD sg, goes[r]?.getD false⟩ := by
  have h := (List.getElem?_eq_some_iff.mp hr).1
  unfold lsD
  rw [List.getElem?_map, List.getElem?_range h]
  unfold tgtD
  rw [Option.map_some, hr]
  rfl
include hgo in
theorem joined_eq {r : Nat} {sg : List Cell} (hr : rows[r]? = some sg) : joinedD (lsD rows goes) r = decide (goes[r]? = some true) := by
  unfold joinedD
  rw [ls_at hr, lsD_len]
  simp only
  rw [Bool.eq_iff_iff, Bool.and_eq_true, decide_eq_true_eq, decide_eq_true_eq]
  constructor
  · rintro ⟨_, h2⟩
    cases h : goes[r]? with
    | none => rw [h] at h2; cases h2
    | some b => rw [h] at h2; simp at h2; rw [h2]
  · intro h
    refine ⟨hgo r h, ?_⟩
    rw [h]; rfl
theorem last_cell {sg : List Cell} {c : Cell} (ok : ∀ c ∈ sg, sgOk c) (h : sg.getLast? = some c) : (match (layD sg).getLast? with | some c => blankC c | none => false) = c.codes.isEmpty := by
  obtain ⟨n, hn⟩ : ∃ n, sg.length = n + 1 := ⟨sg.length - 1, by cases sg with | nil => cases h | cons _ _ => simp⟩
  rw [List.getLast?_eq_getElem?, hn, Nat.add_sub_cancel] at h
  have hok := ok c (List.mem_of_getElem? h)
  have e := layD_take_succ sg n c h
  rw [← hn, List.take_length] at e
  rw [e]
  rcases hok.1 with q | q
  · have e2 : sgC c = [c] := by unfold sgC; rw [if_neg (by (first | lia | omega))]
    rw [e2, List.getLast?_concat]
    simp [blankC, q]
  · have e2 : sgC c = [c, ⟨[], 0⟩] := by unfold sgC; rw [if_pos q]
    have e3 : layD (List.take n sg) ++ sgC c = (layD (List.take n sg) ++ [c]) ++ [⟨[], 0⟩] := by rw [e2]; simp
    rw [e3, List.getLast?_concat]
    have : c.codes ≠ [] := fun z => by have := hok.2.1 z; (first | lia | omega)
    have h2 : c.codes.isEmpty = false := by simpa using this
    rw [h2]
    rfl
theorem head_cell {c : Cell} {r : List Cell} : (match (layD (c :: r)).head? with | some c => c.w == 2 | none => false) = (c.w == 2) := by
  have : layD (c :: r) = sgC c ++ layD r := rfl
  rw [this]
  unfold sgC
  by_cases h : c.w = 2
  · rw [if_pos h]; rfl
  · rw [if_neg h]; rfl
theorem len_dropLast {sg : List Cell} {c : Cell} (ok : ∀ c ∈ sg, sgOk c) (h : sg.getLast? = some c) (hc : c.codes.isEmpty = true) : (layD (sg.take (sg.length - 1))).length = (layD sg).length - 1 := by
  obtain ⟨n, hn⟩ : ∃ n, sg.length = n + 1 := ⟨sg.length - 1, by cases sg with | nil => cases h | cons _ _ => simp⟩
  rw [List.getLast?_eq_getElem?, hn, Nat.add_sub_cancel] at h
  have hok := ok c (List.mem_of_getElem? h)
  have hw := hok.2.1 (by simpa using hc)
  have e := layD_take_succ sg n c h
  rw [← hn, List.take_length] at e
  have e2 : sgC c = [c] := by unfold sgC; rw [if_neg (by (first | lia | omega))]
  rw [e, e2, List.length_append, hn]
  simp
include ok hgo in
theorem width_eq {r : Nat} {sg : List Cell} (hr : rows[r]? = some sg) : widthD (lsD rows goes) r = (layD (shownD rows goes r)).length := by
  have hok := ok sg (List.mem_of_getElem? hr)
  unfold widthD
  rw [ls_at hr, joined_eq hgo hr]
  unfold shownD
  rw [hr]
  simp only
  by_cases hg : goes[r]? = some true
  · have hn := hgo r hg
    have hr2 : rows[r + 1]? = some rows[r + 1] := List.getElem?_eq_getElem hn
    have hok2 := ok _ (List.getElem_mem hn)
    generalize rows[r + 1] = sg2 at hr2 hok2
    rw [if_pos (by simpa using hg), ls_at hr2, if_pos hg, hr2]
    simp only
    obtain ⟨c, hc⟩ : ∃ c, sg.getLast? = some c := by
      cases h : sg.getLast? with
      | some c => exact ⟨c, rfl⟩
      | none =>
        rw [List.getLast?_eq_none_iff] at h
        have := hok.len
        rw [h] at this
        cases this
    cases sg2 with
    | nil => cases hok2.len
    | cons c2 rest =>
      rw [last_cell hok.ok hc, head_cell, hc]
      simp only
      cases hb : (c.codes.isEmpty && c2.w == 2) with
      | true =>
        rw [if_pos rfl, if_pos rfl, len_dropLast hok.ok hc (by simp at hb; simp [hb.1])]
      | false => rw [if_neg (by simp), if_neg (by simp)]; rfl
  · rw [if_neg (by simpa using hg), if_neg hg]
    have := trim_eq sg hok.ok sg.length (Nat.le_refl _)
    rw [List.take_length] at this
    exact this
include ok hgo in
theorem row_eq {r : Nat} {sg : List Cell} (hr : rows[r]? = some sg) : (rowD (lsD rows goes) r).map plT = (rowLc rows goes r).map plL := by
  obtain ⟨n, en⟩ := shown_take rows goes r
  rw [hr, Option.getD_some] at en
  obtain ⟨_, hsok⟩ := shown_len (goes := goes) (r := r) ok
  unfold rowD rowLc
  rw [ls_at hr, joined_eq hgo hr]
  simp only
  rw [width_eq ok hgo hr]
  have et : (layD sg).take (layD (shownD rows goes r)).length = layD (shownD rows goes r) := by rw [en]; exact take_layD sg n
  rw [et, List.map_append, List.map_append]
  have := row_places r (shownD rows goes r) hsok _ (Nat.le_refl _)
  rw [List.take_length] at this
  rw [this]
  congr 1
  by_cases hg : goes[r]? = some true
  · rw [if_pos (by simpa using hg), if_pos hg]; rfl
  · rw [if_neg (by simpa using hg), if_neg hg]; rfl
include ok hgo in
theorem told_eq : ∀ n, n ≤ rows.length → (toldD (lsD rows goes) n).map plT = (lcD rows goes n).map plL
  | 0, _ => rfl
  | n + 1, hn => by
    rw [toldD, lcD, List.map_append, List.map_append, told_eq n (by (first | lia | omega)), row_eq ok hgo (List.getElem?_eq_getElem (show n < rows.length by (first | lia | omega)))]
end
end

section
open PySem PySem.W PySem.Calls PyProof.Rows

/-! where a count ends, and which entry is a place's first -/
def EndOk (ls : List LineD) (y : Lc) : Prop := ∃ l, ls[y.1]? = some l ∧ (if y.2.1 < l.cells.length then sendD l (y.2.1 : Nat) else ((y.2.1 : Nat) : Int)) = y.2.2.1
def FlagOk (L : List Lc) : Prop := ∀ (i : Nat) (y : Lc), L[i]? = some y → y.2.2.2 = false → ∃ (j : Nat) (z : Lc), j < i ∧ L[j]? = some z ∧ plL z = plL y
theorem FlagOk.nil : FlagOk [] := fun i y h => by simp at h
theorem FlagOk.append {L M : List Lc} (a : FlagOk L) (b : FlagOk M) : FlagOk (L ++ M) := fun i y h hy => by
  rcases Nat.lt_or_ge i L.length with q | q
  · rw [List.getElem?_append_left q] at h
    obtain ⟨j, z, hj, hz, e⟩ := a i y h hy
    exact ⟨j, z, hj, by rw [List.getElem?_append_left (by (first | lia | omega))]; exact hz, e⟩
  · rw [List.getElem?_append_right q] at h
    obtain ⟨j, z, hj, hz, e⟩ := b _ y h hy
    exact ⟨j + L.length, z, by (first | lia | omega), by rw [List.getElem?_append_right (by (first | lia | omega)), Nat.add_sub_cancel]; exact hz, e⟩
theorem FlagOk.sig (r col : Nat) (w : Int) (n : Nat) : FlagOk (sigLc r col w n) := fun i y h hy => by
  unfold sigLc at h ⊢
  rw [List.getElem?_map] at h
  have hi : i < n := by
    rcases Nat.lt_or_ge i n with q | q
    · exact q
    · rw [List.getElem?_eq_none_iff.mpr (by simpa using q)] at h; cases h
  rw [List.getElem?_range hi] at h
  simp only [Option.map_some, Option.some.injEq] at h
  subst h
  have hi0 : i ≠ 0 := by simpa using hy
  exact ⟨0, (r, col, (col : Int) + w - 1, true), by (first | lia | omega), by rw [List.getElem?_map, List.getElem?_range (by (first | lia | omega))]; rfl, rfl⟩
theorem FlagOk.pre (r : Nat) (sh : List Cell) : ∀ j, FlagOk (preLc r sh j)
  | 0 => .nil
  | j + 1 => by
    unfold preLc
    refine FlagOk.append (FlagOk.pre r sh j) ?_
    cases sh[j]? with
    | none => exact .nil
    | some c => exact FlagOk.sig _ _ _ _
theorem FlagOk.row (rows : List (List Cell)) (goes : List Bool) (r : Nat) : FlagOk (rowLc rows goes r) := by
  unfold rowLc
  refine FlagOk.append (FlagOk.pre _ _ _) ?_
  split
  · exact .nil
  · intro i y h hy
    cases i with
    | zero => simp at h; subst h; cases hy
    | succ i => simp at h
theorem FlagOk.all (rows : List (List Cell)) (goes : List Bool) : ∀ n, FlagOk (lcD rows goes n)
  | 0 => .nil
  | n + 1 => FlagOk.append (FlagOk.all rows goes n) (FlagOk.row rows goes n)
theorem first_eq {L : List Lc} (h : FlagOk L) (r c : Nat) : L.findIdx? (fun x => x.1 == r && x.2.1 == c && x.2.2.2) = (L.map plL).findIdx? (fun x => x == (r, c)) := by
  rw [List.findIdx?_map]
  have key : ∀ y : Lc, ((fun x => x == (r, c)) ∘ plL) y = (y.1 == r && y.2.1 == c) := fun y => by
    rw [Bool.eq_iff_iff]
    simp [plL, Prod.ext_iff]
  cases q : L.findIdx? ((fun x => x == (r, c)) ∘ plL) with
  | none =>
    rw [List.findIdx?_eq_none_iff] at q ⊢
    intro y hy
    have := q y hy
    rw [key] at this
    rw [this]; rfl
  | some i =>
    rw [List.findIdx?_eq_some_iff_getElem] at q ⊢
    obtain ⟨hi, h1, h2⟩ := q
    rw [key] at h1
    refine ⟨hi, ?_, fun j hj => ?_⟩
    · rw [h1, Bool.true_and]
      cases hf : L[i].2.2.2 with
      | true => rfl
      | false =>
        obtain ⟨j, z, hj, hz, e⟩ := h i _ (List.getElem?_eq_getElem hi) hf
        have h3 := h2 j hj
        have hz' : L[j]'(by (first | lia | omega)) = z := by rw [List.getElem?_eq_getElem (by (first | lia | omega))] at hz; exact Option.some.inj hz
        rw [hz'] at h3
        exfalso
        apply h3
        simp only [Function.comp]
        rw [e]
        have := (key L[i]).trans h1
        exact this
    · have h3 := h2 j hj
      rw [key] at h3
      intro z
      apply h3
      simp only [Bool.and_eq_true] at z
      simp only [Bool.and_eq_true]
      exact z.1

theorem sendD_at {l : LineD} {a : Nat} {c : Cell} (h : l.cells[a]? = some c) (hw : c.w = 1 ∨ c.w = 2) : sendD l (a : Nat) = (a : Int) + c.w - 1 := by
  have hp : lplaceD l (a : Nat) = (a : Int) := by
    unfold lplaceD
    rw [if_neg]
    rintro ⟨_, _, h3⟩
    rw [Int.toNat_natCast, h] at h3
    simp at h3
    (first | lia | omega)
  unfold sendD
  rw [hp, Int.toNat_natCast, h]
  simp only
  rcases hw with q | q
  · rw [if_neg (by rw [q]; decide)]; (first | lia | omega)
  · rw [if_pos (by rw [q]; decide)]; (first | lia | omega)
section
variable {rows : List (List Cell)} {goes : List Bool} (ok : ∀ sg ∈ rows, RowOk sg) (hlen : goes.length = rows.length) (hgo : ∀ i, goes[i]? = some true → i + 1 < rows.length)
include ok in
theorem end_pre {r : Nat} {sg : List Cell} (hr : rows[r]? = some sg) : ∀ j, ∀ y ∈ preLc r (shownD rows goes r) j, EndOk (lsD rows goes) y
  | 0, y, h => by cases h
  | j + 1, y, h => by
    unfold preLc at h
    rcases List.mem_append.mp h with h | h
    · exact end_pre hr j y h
    · cases hc : (shownD rows goes r)[j]? with
      | none => rw [hc] at h; cases h
      | some c =>
        rw [hc] at h
        simp only at h
        unfold sigLc at h
        obtain ⟨i, _, rfl⟩ := List.mem_map.mp h
        obtain ⟨n, en⟩ := shown_take rows goes r
        rw [hr, Option.getD_some] at en
        have hok := ok sg (List.mem_of_getElem? hr)
        rw [en, List.getElem?_take] at hc
        split at hc
        · rename_i hjn
          have hcok := hok.ok c (List.mem_of_getElem? hc)
          have etk : (shownD rows goes r).take j = sg.take j := by rw [en, List.take_take]; congr 1; (first | lia | omega)
          have h1 : 0 < (sgC c).length := by unfold sgC; split <;> simp
          have ha := cell_at sg j c hc 0 h1
          have e0 : (sgC c)[0]? = some c := by unfold sgC; split <;> rfl
          rw [e0, Nat.add_zero] at ha
          refine ⟨_, ls_at hr, ?_⟩
          simp only
          rw [etk]
          have hlt : (layD (sg.take j)).length < (layD sg).length := (List.getElem?_eq_some_iff.mp ha).1
          rw [if_pos hlt]
          exact sendD_at ha hcok.1
        · cases hc
theorem trimS_blank (sg : List Cell) : ∀ n, n ≤ sg.length → ∀ c, trimS sg n < n → sg[trimS sg n]? = some c → c.codes = []
  | 0, _, c, h, _ => by (first | lia | omega)
  | n + 1, hn, c, h, hc => by
    unfold trimS at h hc
    split at h
    · rename_i q
      rw [if_pos q] at hc
      rcases Nat.lt_or_ge (trimS sg n) n with z | z
      · exact trimS_blank sg n (by (first | lia | omega)) c z hc
      · have : trimS sg n = n := by (first | lia | omega)
        rw [this] at hc
        rw [hc] at q
        simpa using q
    · (first | lia | omega)
theorem trimS_le (sg : List Cell) : ∀ n, trimS sg n ≤ n
  | 0 => Nat.le_refl _
  | n + 1 => by
    unfold trimS
    split
    · exact Nat.le_succ_of_le (trimS_le sg n)
    · exact Nat.le_refl _
include ok in
theorem end_row {r : Nat} {sg : List Cell} (hr : rows[r]? = some sg) : ∀ y ∈ rowLc rows goes r, EndOk (lsD rows goes) y := by
  intro y h
  unfold rowLc at h
  rcases List.mem_append.mp h with h | h
  · exact end_pre ok hr _ y h
  · split at h
    · cases h
    · rename_i hg
      rw [List.mem_singleton.mp h]
      have hok := ok sg (List.mem_of_getElem? hr)
      have esh : shownD rows goes r = sg.take (trimS sg sg.length) := by
        unfold shownD
        rw [hr]
        simp only
        rw [if_neg hg]
      refine ⟨_, ls_at hr, ?_⟩
      simp only
      rw [esh]
      split
      · rename_i hlt
        have hn : trimS sg sg.length < sg.length := by
          rcases Nat.lt_or_ge (trimS sg sg.length) sg.length with q | q
          · exact q
          · rw [List.take_of_length_le q] at hlt; (first | lia | omega)
        have hc : sg[trimS sg sg.length]? = some sg[trimS sg sg.length] := List.getElem?_eq_getElem hn
        have hcok := hok.ok _ (List.getElem_mem hn)
        have hb := trimS_blank sg _ (Nat.le_refl _) _ hn hc
        generalize sg[trimS sg sg.length] = c at hc hcok hb
        have h1 : 0 < (sgC c).length := by unfold sgC; split <;> simp
        have ha := cell_at sg _ c hc 0 h1
        have e0 : (sgC c)[0]? = some c := by unfold sgC; split <;> rfl
        rw [e0, Nat.add_zero] at ha
        have hw := hcok.2.1 hb
        rw [sendD_at (l := ⟨layD sg, goes[r]?.getD false⟩) ha hcok.1, hw]
        (first | lia | omega)
      · rfl
include ok in
theorem end_all : ∀ n, n ≤ rows.length → ∀ y ∈ lcD rows goes n, EndOk (lsD rows goes) y
  | 0, _, y, h => by cases h
  | n + 1, hn, y, h => by
    unfold lcD at h
    rcases List.mem_append.mp h with h | h
    · exact end_all n (by (first | lia | omega)) y h
    · exact end_row ok (List.getElem?_eq_getElem (show n < rows.length by (first | lia | omega))) y h
end

theorem plainLaw : PlainLaw := fun rows goes ok hlen hgo => by
  have ht := told_eq ok hgo rows.length (Nat.le_refl _)
  have hl : (toldD (lsD rows goes) rows.length).length = (lcD rows goes rows.length).length := by
    have := congrArg List.length ht
    simpa using this
  rw [lsD_len]
  refine ⟨fun sz r c hr => ?_, by rw [hl]; exact lcD_len ok _⟩
  have hf : (toldD (lsD rows goes) rows.length).findIdx? (fun x => x.2 == (r, c)) = (lcD rows goes rows.length).findIdx? (fun x => x.1 == r && x.2.1 == c && x.2.2.2) := by
    rw [first_eq (FlagOk.all rows goes _), ← ht, List.findIdx?_map]
    rfl
  unfold foundD dueD
  rw [lsD_len, hf]
  cases (lcD rows goes rows.length).findIdx? (fun x => x.1 == r && x.2.1 == c && x.2.2.2) with
  | none => rfl
  | some i =>
    simp only
    split
    · rfl
    · have hk : ∀ k : Nat, ((toldD (lsD rows goes) rows.length)[k]?).map plT = ((lcD rows goes rows.length)[k]?).map plL := fun k => by
        rw [← List.getElem?_map, ← List.getElem?_map, ht]
      have hk := hk (i + sz - 1)
      cases hy : (lcD rows goes rows.length)[i + sz - 1]? with
      | none =>
        rw [hy] at hk
        cases hx : (toldD (lsD rows goes) rows.length)[i + sz - 1]? with
        | none => rfl
        | some x => rw [hx] at hk; cases hk
      | some y =>
        rw [hy] at hk
        cases hx : (toldD (lsD rows goes) rows.length)[i + sz - 1]? with
        | none => rw [hx] at hk; cases hk
        | some x =>
          rw [hx] at hk
          obtain ⟨x0, x1, x2⟩ := x
          obtain ⟨y1, y2, y3, y4⟩ := y
          simp only [Option.map_some, Option.some.injEq, plT, plL, Prod.mk.injEq] at hk
          obtain ⟨rfl, rfl⟩ := hk
          obtain ⟨l, hl, he⟩ := end_all ok _ (Nat.le_refl _) _ (List.mem_of_getElem? hy)
          simp only at hl he
          simp only
          rw [hl]
          simp only
          rw [← he]
          split <;> rfl
end

open PySem PySem.W PySem.Calls PyProof.Rows
def theN : Nm := { lplace := 248, vwidth := 318, ccodes := 325, sbegin := 332, send := 339, vcodes := 344, fend := 351, isblank := 76, above := 269, rows := 276, vline := 283, joined := 290, Line := 237, View := 307, Grid := 498, History := 568 }
def theY : Nb := { eraspen := 62, blankc := 69, lblanks := 84, rhalf := 91, lpart := 98, linit := 126, mpart := 148, mput := 155, ginit := 363, gline := 370, hinit := 516, hpush := 530, vinit := 262, deck := 577, draw := 584, signs := 591, laid := 598, lcodes := 605, law := 610, plain := 22, sizes := 77 }

open PySem PySem.W PySem.Calls PyProof.Rows
set_option maxRecDepth 100000
set_option maxHeartbeats 4000000 in
theorem final_gen (PL : PlainLaw) {q : Program} {loose : List Str} {XP : (Str → Option Value) → Heap → Prop} {K : Params → Frag} {kas : List Addr} {e : ∀ P, kas = (K P).map (·.1)} {df : DefRec} {kwd : List (Str × Expr)}
    (hn : df.name = "law") (okV : ∀ P, OkV (K P) theN) (okB : ∀ P, OkB (K P) theN theY) (hl : ∀ P, nsIn (K P) mainGlobals "law" = some (some (.ref 610))) :
    WalkO q loose XP (kHook K kas e).says PySem.Challenge.rw_og0277_01.row.toRowW df kwd fun f vs => PySem.call f vs := by
  intro w s₀ s₁ mg mb G Y fa o pm cd doc dV kV ho hdd hcd hD hmg hg args vals as hpre hlay hrd hwl hlo
  have KX : (K w.params).In s₁.heap := kIn_of Y
  have T := topRead_of G.T
  have hfa : fa = theY.law := by
    have e := mg_of KX T.g (hl w.params)
    rw [hn] at hmg
    rw [e] at hmg
    cases hmg
    rfl
  subst hfa
  wrow_args hpre hlay hrd hwl hlo
  rename_i ns hs' h0a h0b h0c h0d as1 as2 sa svs as3 hL ra w1 r0 hI hrr hc1 hc2
  obtain ⟨heap, gens, drawn, toks, os⟩ := s₁
  have W : Wd (K w.params) _ _ mg mb heap := ⟨KX, T⟩
  have hlen := hI.length
  refine wpAny_mono (Q := fun v s => ∃ B' h' t', v = .bool true ∧ s = ⟨h', gens, drawn, t', os⟩ ∧ Grow heap heap.get? [] B' h') (E := fun _ _ => False) ?_ ?_ (fun _ _ e => e.elim)
  · refine c_law W (okB w.params) (okV w.params) (Le.refl _) (fun _ _ e => e) ⟨rfl, by decide, by decide⟩ PL (sa := sa) (svs := svs) (ns := ns) hL hI (by (first | lia | omega)) fun B' h' t' GG => ?_
    exact ⟨B', h', t', rfl, rfl, GG⟩
  · rintro v s ⟨B', h', t', rfl, rfl, GG⟩
    refine GoodW.toG ⟨.inl ⟨.bool true, .bool true, [], rfl, raisesW_false ?_, .bool true, ?_, unshared_nil⟩, fun b o e => GG.old b o e (by simp), rfl, hg⟩
    · wrow_none_raised
    · wrow_post

open PySem PySem.W PySem.Calls PyProof.Rows
set_option Elab.async true
set_option maxHeartbeats 0
set_option maxRecDepth 100000
theorem all.tw12727472977556522603 : True := trivial
theorem all.tw16038885495234672192 : True := trivial
theorem all.tw16289423103538884165 : True := trivial
theorem all.tw6719612814794354658 : True := trivial
theorem all.tw4042081470518812301 : True := trivial
theorem all.tw17717444079117462278 : True := trivial
theorem all.tw1964024912093424712 : True := trivial
theorem all.tw9569963337724695947 : True := trivial
theorem all.tw4980397613322432560 : True := trivial
theorem all.tw13966652886959378514 : True := trivial
theorem all.tw271834552726532020 : True := trivial
theorem all.tw6445213124629653078 : True := trivial
theorem all.tw4952488003844399672 : True := trivial
theorem all.tw6568125813757731549 : True := trivial
theorem all.tw15016593662008301440 : True := trivial
theorem all.tw16987476370533704557 : True := trivial
theorem all.tw200202858802481044 : True := trivial
theorem all.tw17053130121481772103 : True := trivial
theorem all.tw10168888151487559394 : True := trivial
theorem all.tw6147308635103535561 : True := trivial
theorem all.tw10793401674749092046 : True := trivial
theorem all.tw4430775014708722610 : True := trivial
theorem all.tw16949009020806574942 : True := trivial
theorem all.tw12926644002878227130 : True := trivial
theorem all.tw16223638597430114740 : True := trivial
theorem all.tw13455461431897201640 : True := trivial
theorem all.tw16400751074865733910 : True := trivial
theorem all.tw10156424416328317940 : True := trivial
theorem all.tw13900070722340429276 : True := trivial
theorem all.tw8616835277999145119 : True := trivial
theorem all.tw4818641064637329869 : True := trivial
theorem all.tw6742200501135914891 : True := trivial
theorem all.tw16644902639655322133 : True := trivial
theorem all.tw17292822351017121783 : True := trivial
theorem all.tw14057782590025463129 : True := trivial
theorem all.tw18441473437031201941 : True := trivial
theorem all.tw17393663094203119047 : True := trivial
theorem all.tw10407399669362838719 : True := trivial
theorem all.tw3357559941945735724 : True := trivial
theorem all.tw11223482586740685078 : True := trivial
theorem all.tw16424727738075169484 : True := trivial
theorem all.tw13657395267715391174 : True := trivial
theorem all.tw6686757251022233349 : True := trivial
theorem all.tw9385597778382524922 : True := trivial
theorem all.tw3006146034401029692 : True := trivial
theorem all.tw13608339801890971764 : True := trivial
theorem all.tw17606682298306965290 : True := trivial
theorem all.tw14549113301119539810 : True := trivial
theorem all.tw5002070824922625533 : True := trivial
theorem all.tw3318677167507295741 : True := trivial
theorem all.tw9807931448117422837 : True := trivial
theorem all.tw12512054102949984058 : True := trivial
theorem all.tw10697019674602590866 : True := trivial
theorem all.tw10971250334911043752 : True := trivial
theorem all.tw4244794441018138637 : True := trivial
theorem all.tw9600454056292803967 : True := trivial
theorem all.tw1750280776747563624 : True := trivial
theorem all.tw13282074430368766303 : True := trivial
theorem all.tw16720883766928916882 : True := trivial
theorem all.tw13492775673106092688 : True := trivial
theorem all.tw12248520049373816357 : True := trivial
theorem all.tw7546461858588002845 : True := trivial
theorem all.tw14229981574245695772 : True := trivial
theorem all.tw927500100414286832 : True := trivial
theorem all.tw2995925781233325151 : True := trivial
theorem all.tw9273556802335580839 : True := trivial
theorem all.tw2362829445674453831 : True := trivial
theorem all.tw17523770736405063376 : True := trivial
theorem all.tw7317653850160689691 : True := trivial
theorem all.tw6946980451890315270 : True := trivial
theorem all.tw11549785766782931663 : True := trivial
theorem all.tw16183010546200382306 : True := trivial
theorem all.tw16526751206710464603 : True := trivial
theorem all.tw8486705261324164726 : True := trivial
theorem all.tw15618092478124507917 : True := trivial
theorem all.tw9301309066579124778 : True := trivial
theorem all.tw409914518651768084 : True := trivial
theorem all.tw1081408078033650336 : True := trivial
theorem all.tw8968355716326206664 : True := trivial
theorem all.tw13280447903547772812 : True := trivial
theorem all.tw13596499734656872166 : True := trivial
theorem all.tw2863937026978368667 : True := trivial
theorem all.tw3630066180865283129 : True := trivial
theorem all.tw18422150028754028023 : True := trivial
theorem all.tw3282140407130366615 : True := trivial
theorem all.tw11051373392699811023 : True := trivial
theorem all.tw5718967094426423161 : True := trivial
theorem all.tw15248031165874397040 : True := trivial
theorem all.tw6896591704953265671 : True := trivial
theorem all.tw10923070005692675132 : True := trivial
theorem all.tw5615151462926910227 : True := trivial
theorem all.tw4613487602407358717 : True := trivial
theorem all.tw4214497047443048748 : True := trivial
theorem all.tw5213130599944360801 : True := trivial
theorem all.tw2690882624139800689 : True := trivial
theorem all.tw5936211784296988740 : True := trivial
theorem all.tw2494268533263957097 : True := trivial
theorem all.tw13320810954380615167 : True := trivial
theorem all.tw16296590348105434372 : True := trivial
theorem all.tw11158953913317867288 : True := trivial
theorem all.tw16665526110328478529 : True := trivial
theorem all.tw17424916104665291489 : True := trivial
theorem all.tw4831860214510110302 : True := trivial
theorem all.tw16700318575013349798 : True := trivial
theorem all.tw14242173848286271349 : True := trivial
theorem all.tw6495733333828780514 : True := trivial
theorem all.tw5004987881651496831 : True := trivial
theorem all.tw3905375630023619888 : True := trivial
theorem all.tw13098716769926991806 : True := trivial
theorem all.tw3339628229899013760 : True := trivial
theorem all.tw10677670038743541358 : True := trivial
theorem all.tw17846619120630023766 : True := trivial
theorem all.tw15775133740396041162 : True := trivial
theorem all.tw10323370424266482742 : True := trivial
theorem all.tw1904651353081489755 : True := trivial
theorem all.tw2286941943676669977 : True := trivial
theorem all.tw3586251380002802234 : True := trivial
theorem all.tw13215351417096909983 : True := trivial
theorem all.tw9379264858417805688 : True := trivial
theorem all.tw13717024376598296668 : True := trivial
theorem all.tw4726450323565452186 : True := trivial
theorem all.tw888978351763286717 : True := trivial
theorem all.tw18058516629519361111 : True := trivial
theorem all.tw3318330705443729038 : True := trivial
theorem all.tw2997595627926355555 : True := trivial
theorem all.tw11925040711228000680 : True := trivial
theorem all.tw15778654729900951400 : True := trivial
theorem all.tw11776277695535270532 : True := trivial
theorem all.tw12381699962588209086 : True := trivial
theorem all.tw11790413056962406381 : True := trivial
theorem all.tw8076105961534405009 : True := trivial
theorem all.tw16088354708999966866 : True := trivial
theorem all.tw15849158762323818722 : True := trivial
theorem all.tw18440353960458814819 : True := trivial
theorem all.tw29985565223642888 : True := trivial
theorem all.tw5191467471856622273 : True := trivial
theorem all.tw9960083256741680508 : True := trivial
theorem all.tw17657238230949819594 : True := trivial
theorem all.tw11102767992079720913 : True := trivial
theorem all.tw10649901628825759099 : True := trivial
theorem all.tw14832718209330476552 : True := trivial
theorem all.tw16779862611959906862 : True := trivial
theorem all.tw1768962640154500726 : True := trivial
theorem all.tw14771985120617686802 : True := trivial
theorem all.tw4188425034280262744 : True := trivial
theorem all.tw9142619525353888168 : True := trivial
theorem all.tw1832691508475867565 : True := trivial
theorem all.tw9111709882147129655 : True := trivial
theorem all.tw6836359950869179439 : True := trivial
theorem all.tw1326175403826912198 : True := trivial
theorem all.tw16176830815697697194 : True := trivial
theorem all.tw16726255535346028473 : True := trivial
theorem all.tw9833964599435250050 : True := trivial
theorem all.tw11961059351148515626 : True := trivial
theorem all.tw13423135486485445016 : True := trivial
theorem all.tw8711421783369662179 : True := trivial
theorem all.tw8661065196793792047 : True := trivial
theorem all.tw12345319411167063811 : True := trivial
theorem all.tw11951307492845570281 : True := trivial
theorem all.tw7385006340035058783 : True := trivial
theorem all.tw5675193095830314289 : True := trivial
theorem all.tw12994552909553032409 : True := trivial
theorem all.tw8678582069086723682 : True := trivial
theorem all.tw2531900633515307401 : True := trivial
theorem all.tw10289937546816008636 : True := trivial
theorem all.tw14044709251442629906 : True := trivial
theorem all.tw13113687655016186724 : True := trivial
theorem all.tw11489409643829403841 : True := trivial
theorem all.tw17172520439673271139 : True := trivial
theorem all.tw4240545211757986076 : True := trivial
theorem all.tw11686026206685797588 : True := trivial
theorem all.tw8223707996358447380 : True := trivial
theorem all.tw12320724196928087214 : True := trivial
theorem all.tw13057232943065969744 : True := trivial
theorem all.tw201708328148552895 : True := trivial
theorem all.tw16339503202031470875 : True := trivial
theorem all.tw8749193726656077916 : True := trivial
theorem all.tw10389294372677164839 : True := trivial
theorem all.tw4338314545742005754 : True := trivial
theorem all.tw18120535436291149196 : True := trivial
theorem all.tw15585509438621463966 : True := trivial
theorem all.tw9609096358927944886 : True := trivial
theorem all.tw17818293817903590521 : True := trivial
theorem all.tw13509908655624090359 : True := trivial
theorem all.tw898707613593260451 : True := trivial
theorem all.tw3578222212851893600 : True := trivial
theorem all.tw12428716410969305734 : True := trivial
theorem all.tw7855422573467142813 : True := trivial
theorem all.tw11113120797386210373 : True := trivial
theorem all.tw17468886310826310451 : True := trivial
theorem all.tw3898467250045930460 : True := trivial
theorem all.tw225468126006155290 : True := trivial
theorem all.tw7755422918602135030 : True := trivial
theorem all.tw11888049472147760879 : True := trivial
theorem all.tw10131221437080536637 : True := trivial
theorem all.tw11230645906715702508 : True := trivial
theorem all.tw2638793534194840904 : True := trivial
theorem all.tw1172340538976468734 : True := trivial
theorem all.tw8600759836979252552 : True := trivial
theorem all.tw5362506446432344171 : True := trivial
theorem all.tw10127320685908719325 : True := trivial
theorem all.tw11091474679367250208 : True := trivial
theorem all.tw12447178028490564450 : True := trivial
theorem all.tw11139934685464864865 : True := trivial
theorem all.tw4950485280699123642 : True := trivial
theorem all.tw8848042172178993908 : True := trivial
theorem all.tw11877403491279123046 : True := trivial
theorem all.tw2411416631991128293 : True := trivial
theorem all.tw5439016543574858206 : True := trivial
theorem all.tw7263415099574290149 : True := trivial
theorem all.tw2842816785644039571 : True := trivial
theorem all.tw2000609977361463965 : True := trivial
theorem all.tw14721843458392949018 : True := trivial
theorem all.tw14832659646925512398 : True := trivial
theorem all.tw9642480246203547912 : True := trivial
theorem all.tw4154878040674242839 : True := trivial
theorem all.tw4765306392115962693 : True := trivial
theorem all.tw11931918283646908614 : True := trivial
theorem all.tw16739844878667351699 : True := trivial
theorem all.tw9107108562952019494 : True := trivial
theorem all.tw15059917014629022394 : True := trivial
theorem all.tw4927947371108770993 : True := trivial
theorem all.tw9570754706468278650 : True := trivial
theorem all.tw1095929389519559783 : True := trivial
theorem all.tw7205895575636617080 : True := trivial
theorem all.tw6651456455751515877 : True := trivial
theorem all.tw1088589479996732829 : True := trivial
theorem all.tw9022205114861038860 : True := trivial
theorem all.tw8316665608867782698 : True := trivial
theorem all.tw9764797518255496921 : True := trivial
theorem all.tw16694476904998839863 : True := trivial
theorem all.tw17408919567675379883 : True := trivial
theorem all.tw11051709101105081487 : True := trivial
theorem all.tw13370487131934946175 : True := trivial
theorem all.tw17711910997332876922 : True := trivial
theorem all.tw5007245332940595331 : True := trivial
theorem all.tw2557191316624668217 : True := trivial
theorem all.tw14421808642430287336 : True := trivial
theorem all.tw2479237469882504799 : True := trivial
theorem all.tw14940032972901115816 : True := trivial
theorem all.tw12405882331826627501 : True := trivial
theorem all.tw9327985806830046984 : True := trivial
theorem all.tw3601427614577313751 : True := trivial
theorem all.tw9285670843845949155 : True := trivial
theorem all.tw16171933092410999983 : True := trivial
theorem all.tw1885294564261713141 : True := trivial
theorem all.tw12724949091593755947 : True := trivial
theorem all.tw5884965284304258897 : True := trivial
theorem all.tw14003663102062188800 : True := trivial
theorem all.tw13663018214320142090 : True := trivial
theorem all.tw15670805634923389295 : True := trivial
theorem all.tw328508388705569248 : True := trivial
theorem all.tw4195489330254351329 : True := trivial
theorem all.tw15014361466247048854 : True := trivial
theorem all.tw4498182102138418894 : True := trivial
theorem all.tw525001674005675781 : True := trivial
theorem all.tw9133701021851612117 : True := trivial
theorem all.tw5377772837010204750 : True := trivial
theorem all.tw8111057081096800836 : True := trivial
theorem all.tw8007103614756019116 : True := trivial
theorem all.tw13172091369480311280 : True := trivial
theorem all.tw18168848097628341329 : True := trivial
theorem all.tw8474492796817999161 : True := trivial
theorem all.tw6853843781069519680 : True := trivial
theorem all.tw17411639873488161413 : True := trivial
theorem all.tw1352723322627576488 : True := trivial
theorem all.tw7473514446972121862 : True := trivial
theorem all.tw16573077582942348641 : True := trivial
theorem all.tw8908958038130373740 : True := trivial
theorem all.tw18291108133853008933 : True := trivial
theorem all.tw11798761498685784450 : True := trivial
theorem all.tw2412950195513398651 : True := trivial
theorem all.tw13431290835526063760 : True := trivial
theorem all.tw14822214895437561417 : True := trivial
theorem all.tw1644255569911684797 : True := trivial
theorem all.tw8203446524507428889 : True := trivial
theorem all.tw18369841484834026144 : True := trivial
theorem all.tw14883968960377749705 : True := trivial
theorem all.tw15145278206449419223 : True := trivial
theorem all.tw9448091282758670523 : True := trivial
theorem all.tw1734884918528286522 : True := trivial
theorem all.tw11375281295658956675 : True := trivial
theorem all.tw5641124861440336686 : True := trivial
theorem all.tw11990357761064164650 : True := trivial
theorem all.tw10600613889749566790 : True := trivial
theorem all.tw13476624294007221044 : True := trivial
theorem all.tw18124843273605240230 : True := trivial
theorem all.tw15575253945988166476 : True := trivial
theorem all.tw17740860788197283744 : True := trivial
theorem all.tw4965207536615798822 : True := trivial
theorem all.tw5558808128744370633 : True := trivial
theorem all.tw12267468486907949403 : True := trivial
theorem all.tw3140866203998610647 : True := trivial
theorem all.tw5601264028959731896 : True := trivial
theorem all.tw4722931859811370693 : True := trivial
theorem all.tw4814944892674192296 : True := trivial
theorem all.tw9952970006915852218 : True := trivial
theorem all.tw1717485560449817402 : True := trivial
theorem all.tw12885334096101347146 : True := trivial
theorem all.tw5888963250497168203 : True := trivial
theorem all.tw4005113011885737416 : True := trivial
theorem all.tw7918374967389245632 : True := trivial
theorem all.tw14970210157437980911 : True := trivial
theorem all.tw7657994479303150727 : True := trivial
theorem all.tw9543871751676338751 : True := trivial
theorem all.tw16705860606270256717 : True := trivial
theorem all.tw3108443244893856389 : True := trivial
theorem all.tw11533779600810293282 : True := trivial
theorem all.tw3185962312253278316 : True := trivial
theorem all.tw3390864358609898268 : True := trivial
theorem all.tw1585303152785439333 : True := trivial
theorem all.tw15902913901339227234 : True := trivial
theorem all.tw17260577670642009320 : True := trivial
theorem all.tw16876236935048986776 : True := trivial
theorem all.tw17103938086974590038 : True := trivial
theorem all.tw5646740079091317433 : True := trivial
theorem all.tw16926426053830025025 : True := trivial
theorem all.tw14478419276589960357 : True := trivial
theorem all.tw11446199593928302625 : True := trivial
theorem all.tw9405301459192476718 : True := trivial
theorem all.tw1142058581544160548 : True := trivial
theorem all.tw9843424985483213050 : True := trivial
theorem all.tw14151137839513740329 : True := trivial
theorem all.tw4613981591765525805 : True := trivial
theorem all.tw6271033356711949733 : True := trivial
theorem all.tw11045270430615452010 : True := trivial
theorem all.tw16016398639907115627 : True := trivial
theorem all.tw15054863418237798948 : True := trivial
theorem all.tw5187159431361770467 : True := trivial
theorem all.tw4645612490112672357 : True := trivial
theorem all.tw335442867052375821 : True := trivial
theorem all.tw1327343985113690801 : True := trivial
theorem all.tw7492772011675989385 : True := trivial
theorem all.tw6635096433462372448 : True := trivial
theorem all.tw18111398738982083773 : True := trivial
theorem all.tw8096221689764760052 : True := trivial
theorem all.tw3804168243799541492 : True := trivial
theorem all.tw1075291646940621582 : True := trivial
theorem all.tw6189357195160471388 : True := trivial
theorem all.tw561872325786274548 : True := trivial
theorem all.tw12304872625307995750 : True := trivial
theorem all.tw8398887430952950212 : True := trivial
theorem all.tw200952908838891698 : True := trivial
theorem all.tw15198316981687975854 : True := trivial
theorem all.tw2613816272192447989 : True := trivial
theorem all.tw11242623580682996947 : True := trivial
theorem all.tw7778630667622746703 : True := trivial
theorem all.tw11298796024306172991 : True := trivial
theorem all.tw12985212532813657682 : True := trivial
theorem all.tw7946034326556018432 : True := trivial
theorem all.tw14099800850047386279 : True := trivial
theorem all.tw8166991320080258738 : True := trivial
theorem all.tw9900696922168193843 : True := trivial
theorem all.tw6176105912117767087 : True := trivial
theorem all.tw11777086365064915542 : True := trivial
theorem all.tw8728704332973717658 : True := trivial
theorem all.tw2114198189418970486 : True := trivial
theorem all.tw4438364104728389296 : True := trivial
theorem all.tw4874642235004048027 : True := trivial
theorem all.tw14365998534574843411 : True := trivial
theorem all.tw17368901067910498557 : True := trivial
theorem all.tw6178583632892115015 : True := trivial
theorem all.tw5440085390276978291 : True := trivial
theorem all.tw2972125363121769464 : True := trivial
theorem all.tw15081044799308232511 : True := trivial
theorem all.tw5061037604254504937 : True := trivial
theorem all.tw7347661181068853997 : True := trivial
theorem all.tw5870148494974776200 : True := trivial
theorem all.tw4382491568596388571 : True := trivial
theorem all.tw9090173269774583996 : True := trivial
theorem all.tw8401958774316805891 : True := trivial
theorem all.tw18003279642469066050 : True := trivial
theorem all.tw2020152571437148077 : True := trivial
theorem all.tw10175558820241607032 : True := trivial
theorem all.tw7686242042924871683 : True := trivial
theorem all.tw13467292715098799918 : True := trivial
theorem all.tw5248012151768918434 : True := trivial
theorem all.tw8146785798897364014 : True := trivial
theorem all.tw2054712967208431000 : True := trivial
theorem all.tw3780143478300131934 : True := trivial
theorem all.tw6717767316833874322 : True := trivial
theorem all.tw6860577389561355601 : True := trivial
theorem all.tw4786962568827011835 : True := trivial
theorem all.tw6846761488900895589 : True := trivial
theorem all.tw13220695134330190930 : True := trivial
theorem all.tw15519761934197397234 : True := trivial
theorem all.tw7255959162708018199 : True := trivial
theorem all.tw2406872565856053176 : True := trivial
theorem all.tw16877496141331604692 : True := trivial
theorem all.tw2627396739876165418 : True := trivial
theorem all.tw3138800457800853586 : True := trivial
theorem all.tw16149317719023688252 : True := trivial
theorem all.tw8121427672614705931 : True := trivial
theorem all.tw3443626597506986169 : True := trivial
theorem all.tw9976896545867408452 : True := trivial
theorem all.tw8670540905479144303 : True := trivial
theorem all.tw16188822405700688499 : True := trivial
theorem all.tw1758426702102747128 : True := trivial
theorem all.tw1216898108829112853 : True := trivial
theorem all.tw2144533961223786307 : True := trivial
theorem all.tw17026743227940831712 : True := trivial
theorem all.tw4983024317834737482 : True := trivial
theorem all.tw12540455083557110006 : True := trivial
theorem all.tw13358604424828501309 : True := trivial
theorem all.tw13185015893256467352 : True := trivial
theorem all.tw6674347012523051200 : True := trivial
theorem all.tw1291087626157917732 : True := trivial
theorem all.tw5217560924200664910 : True := trivial
theorem all.tw7159026401054745538 : True := trivial
theorem all.tw11116879363250112325 : True := trivial
theorem all.tw6888782338466086140 : True := trivial
theorem all.tw14201790961670687459 : True := trivial
theorem all.tw17084071853196174921 : True := trivial
theorem all.tw7779009951696393383 : True := trivial
theorem all.tw14504465163362997928 : True := trivial
theorem all.tw6794366774042380578 : True := trivial
theorem all.tw12139988101201813748 : True := trivial
theorem all.tw5689438673786977140 : True := trivial
theorem all.tw14648276583578725374 : True := trivial
theorem all.tw4515135292898193881 : True := trivial
theorem all.tw7785168158365692624 : True := trivial
theorem all.tw3516009707026607567 : True := trivial
theorem all.tw3737605839529819480 : True := trivial
theorem all.tw13042374122123996364 : True := trivial
theorem all.tw5476340991381562312 : True := trivial
theorem all.tw10130366669087276332 : True := trivial
theorem all.tw6849123771955923804 : True := trivial
theorem all.tw7400686549319467544 : True := trivial
theorem all.tw5761313309558253367 : True := trivial
theorem all.tw12784588452913835247 : True := trivial
theorem all.tw12981892083367582941 : True := trivial
theorem all.tw13960862262899742394 : True := trivial
theorem all.tw1859658367360657537 : True := trivial
theorem all.tw1298631472846954095 : True := trivial
theorem all.tw10681620039792923934 : True := trivial
theorem all.tw18433669859833586122 : True := trivial
theorem all.tw1963270939698246839 : True := trivial
theorem all.tw2750322548573693319 : True := trivial
theorem all.tw14661163797125724070 : True := trivial
theorem all.tw5615934883764171431 : True := trivial
theorem all.tw16457593375850944212 : True := trivial
theorem all.tw8312510263607220780 : True := trivial
theorem all.tw17914837950057056417 : True := trivial
theorem all.tw16788233547135642414 : True := trivial
theorem all.tw17112464921883037887 : True := trivial
theorem all.tw2442836877315861853 : True := trivial
theorem all.tw16567661231398824811 : True := trivial
theorem all.tw7442053078452299063 : True := trivial
theorem all.tw18074533905802821072 : True := trivial
theorem all.tw3448833343719912132 : True := trivial
theorem all.tw11784725038316003381 : True := trivial
theorem all.tw7654578318931278690 : True := trivial
theorem all.tw583233376362171505 : True := trivial
theorem all.tw3477183460249832127 : True := trivial
theorem all.tw15391004526167926365 : True := trivial
theorem all.tw12461584238705310493 : True := trivial
theorem all.tw5854907428364158380 : True := trivial
theorem all.tw10277526245819850656 : True := trivial
theorem all.tw15284455985751111415 : True := trivial
theorem all.tw9592678889267232940 : True := trivial
theorem all.tw6721464258858852875 : True := trivial
theorem all.tw18052197330547352278 : True := trivial
theorem all.tw17740187900682377756 : True := trivial
theorem all.tw10942295900298899174 : True := trivial
theorem all.tw12847938454781286588 : True := trivial
theorem all.tw17106608494224303150 : True := trivial
theorem all.tw282076826160197541 : True := trivial
theorem all.tw5162543521180666497 : True := trivial
theorem all.tw14849280956162755979 : True := trivial
theorem all.tw6280451789465376435 : True := trivial
theorem all.tw3153289441736887298 : True := trivial
theorem all.tw13270532327374429287 : True := trivial
theorem all.tw16288533217561068507 : True := trivial
theorem all.tw11448872678469705673 : True := trivial
theorem all.tw11563076530477234726 : True := trivial
theorem all.tw17899929404969355535 : True := trivial
theorem all.tw596421839371371174 : True := trivial
theorem all.tw15305453227285626446 : True := trivial
theorem all.tw12819504698909858696 : True := trivial
theorem all.tw14204109254541194217 : True := trivial
theorem all.tw2316775634158704177 : True := trivial
theorem all.tw12180536567876656950 : True := trivial
theorem all.tw7779866328928976063 : True := trivial
theorem all.tw4547723090059260100 : True := trivial
theorem all.tw14539000326390715668 : True := trivial
theorem all.tw3849640880644552707 : True := trivial
theorem all.tw6393532188824929214 : True := trivial
theorem all.tw14647661154017913664 : True := trivial
theorem all.tw13492395982464255480 : True := trivial
theorem all.tw80721349811472939 : True := trivial
theorem all.tw8486076525276431931 : True := trivial
theorem all.tw14081932915414352519 : True := trivial
theorem all.tw18343157571677020557 : True := trivial
theorem all.tw5646013916729498261 : True := trivial
theorem all.tw7238125184777875665 : True := trivial
theorem all.tw4801688742562958406 : True := trivial
theorem all.tw2235618017368140517 : True := trivial
theorem all.tw10331167273965929257 : True := trivial
theorem all.tw14310873030558110092 : True := trivial
theorem all.tw4835796080096327916 : True := trivial
theorem all.tw2798396993581604531 : True := trivial
theorem all.tw15906484144062456574 : True := trivial
theorem all.tw17983917188297756147 : True := trivial
theorem all.tw549974085012918235 : True := trivial
theorem all.tw14899674885815798178 : True := trivial
theorem all.tw100579137028481972 : True := trivial
theorem all.tw3204017013573700639 : True := trivial
theorem all.tw5553432485147669529 : True := trivial
theorem all.tw7824222052329908659 : True := trivial
theorem all.tw6873541528101158377 : True := trivial
theorem all.tw1446525512094189494 : True := trivial
theorem all.tw7000523462626781010 : True := trivial
theorem all.tw76700771618905059 : True := trivial
theorem all.tw11536899603342547138 : True := trivial
theorem all.tw13338274903956020161 : True := trivial
theorem all.tw9163178095015654352 : True := trivial
theorem all.tw14984247238865676675 : True := trivial
theorem all.tw10705108097460422218 : True := trivial
theorem all.tw3165661143165402847 : True := trivial
theorem all.tw10915074446201010522 : True := trivial
theorem all.tw9305783451064888827 : True := trivial
theorem all.tw13874455239767017017 : True := trivial
theorem all.tw17485024515217194642 : True := trivial
theorem all.tw15076152544538823220 : True := trivial
theorem all.tw14200518018382609147 : True := trivial
theorem all.tw4156143147478942181 : True := trivial
theorem all.tw7619113539625694710 : True := trivial
theorem all.tw8865166961438382494 : True := trivial
theorem all.tw3855190133869164905 : True := trivial
theorem all.tw8026366407565007962 : True := trivial
theorem all.tw10073190252686323273 : True := trivial
theorem all.tw13930999109560414629 : True := trivial
theorem all.tw5543487718492105064 : True := trivial
theorem all.tw125183967897747985 : True := trivial
theorem all.tw14444207656584330654 : True := trivial
theorem all.tw12267322187703008927 : True := trivial
theorem all.tw4907521953547317329 : True := trivial
theorem all.tw7130465076275759521 : True := trivial
theorem all.tw10034031380863371641 : True := trivial
theorem all.tw7091565871241343341 : True := trivial
theorem all.tw9455471141526271117 : True := trivial
theorem all.tw3527972740633252992 : True := trivial
theorem all.tw14420213329864412023 : True := trivial
theorem all.tw12803817524326497440 : True := trivial
theorem all.tw14511287757244466272 : True := trivial
theorem all.tw18094267598192979275 : True := trivial
theorem all.tw6900727353157573822 : True := trivial
theorem all.tw9131408386013701786 : True := trivial
theorem all.tw11330118131623060689 : True := trivial
theorem all.tw2366535826993118143 : True := trivial
theorem all.tw5103381174273319438 : True := trivial
theorem all.tw18068929663759586442 : True := trivial
theorem all.tw5931688323066260514 : True := trivial
theorem all.tw11639333894188339638 : True := trivial
theorem all.tw17772726858579744284 : True := trivial
theorem all.tw14106571916235994328 : True := trivial
theorem all.tw5103548895888603802 : True := trivial
theorem all.tw11038128598146805730 : True := trivial
theorem all.tw17469454598705902373 : True := trivial
theorem all.tw7272270352196073673 : True := trivial
theorem all.tw281770217567036725 : True := trivial
theorem all.tw8901488873923373992 : True := trivial
theorem all.tw1848905817553068399 : True := trivial
theorem all.tw247909236438806434 : True := trivial
theorem all.tw4899250830898163692 : True := trivial
theorem all.tw10227051316576381974 : True := trivial
theorem all.tw8219367837509555709 : True := trivial
theorem all.tw15176617289070330970 : True := trivial
theorem all.tw2711446468545577505 : True := trivial
theorem all.tw12394350090093965224 : True := trivial
theorem all.tw5555718599999811639 : True := trivial
theorem all.tw5221675337516389627 : True := trivial
theorem all.tw14124840197023413450 : True := trivial
theorem all.tw7916160540357663616 : True := trivial
theorem all.tw4544264296663088324 : True := trivial
theorem all.tw10640348836240559591 : True := trivial
theorem all.tw3468823194966119755 : True := trivial
theorem all.tw16773635481313006432 : True := trivial
theorem all.tw12028550053918628185 : True := trivial
theorem all.tw14288127532215574351 : True := trivial
theorem all.tw12563031120210811263 : True := trivial
theorem all.tw15414233836422861205 : True := trivial
theorem all.tw10856765595117590405 : True := trivial
theorem all.tw8845110488550816924 : True := trivial
theorem all.tw3020832510069240704 : True := trivial
theorem all.tw2496985677507960046 : True := trivial
theorem all.tw8593244855664925795 : True := trivial
theorem all.tw4014216774688872946 : True := trivial
theorem all.tw7514489123796633772 : True := trivial
theorem all.tw16576222957257545530 : True := trivial
theorem all.tw14853665493834295914 : True := trivial
theorem all.tw4258606087713283508 : True := trivial
theorem all.tw5750698986362780913 : True := trivial
theorem all.tw14848961488311411958 : True := trivial
theorem all.tw10268101183197098196 : True := trivial
theorem all.tw4128963183011607505 : True := trivial
theorem all.tw15888951733556516598 : True := trivial
theorem all.tw6648324312943424196 : True := trivial
theorem all.tw8948736912299370593 : True := trivial
theorem all.tw16447172759540358135 : True := trivial
theorem all.tw3482175957882590323 : True := trivial
theorem all.tw13434531468450553753 : True := trivial
theorem all.tw15105651507014581045 : True := trivial
theorem all.tw433751870149770472 : True := trivial
theorem all.tw407466490171300439 : True := trivial
theorem all.tw9386671084012761886 : True := trivial
theorem all.tw2891402810631288588 : True := trivial
theorem all.tw3835962111665225711 : True := trivial
theorem all.tw9743695723290020096 : True := trivial
theorem all.tw4716985721665009587 : True := trivial
theorem all.tw3082626142003458053 : True := trivial
theorem all.tw15451204947285891726 : True := trivial
theorem all.tw15393178847056368160 : True := trivial
theorem all.tw306535358961565008 : True := trivial
theorem all.tw9514876090768664877 : True := trivial
theorem all.tw11931136993785318394 : True := trivial
theorem all.tw3788544764152331944 : True := trivial
theorem all.tw10634939071730365363 : True := trivial
theorem all.tw13928513891281363954 : True := trivial
theorem all.tw6635522753158126860 : True := trivial
theorem all.tw5919330448614353153 : True := trivial
theorem all.tw755134328155928439 : True := trivial
theorem all.tw8322597137079436277 : True := trivial
theorem all.tw7852760074147458260 : True := trivial
theorem all.tw15926794790568321017 : True := trivial
theorem all.tw5781126440621211168 : True := trivial
theorem all.tw1694654335647164047 : True := trivial
theorem all.tw9196661522157602471 : True := trivial
theorem all.tw7193976414177721783 : True := trivial
theorem all.tw13027540482245733427 : True := trivial
theorem all.tw17673552818380985392 : True := trivial
theorem all.tw8373720323635723369 : True := trivial
theorem all.tw884644925536651315 : True := trivial
theorem all.tw3440317332850252569 : True := trivial
theorem all.tw10316705163991428254 : True := trivial
theorem all.tw10640303290150162726 : True := trivial
theorem all.tw5657447785659697480 : True := trivial
theorem all.tw3225869345168946285 : True := trivial
theorem all.tw8734355875116408662 : True := trivial
theorem all.tw4634341240264483431 : True := trivial
theorem all.tw12588980310967471357 : True := trivial
theorem all.tw15151187641303801864 : True := trivial
theorem all.tw9099960808112739735 : True := trivial
theorem all.tw17259241986408110582 : True := trivial
theorem all.tw497388943360791162 : True := trivial
theorem all.tw6575127235232548739 : True := trivial
theorem all.tw15460995928004159328 : True := trivial
theorem all.tw13912068318134460016 : True := trivial
theorem all.tw15097909243742831393 : True := trivial
theorem all.tw9351078540693612215 : True := trivial
theorem all.tw5927061715728957476 : True := trivial
theorem all.tw11904431243951574334 : True := trivial
theorem all.tw10787622589932112302 : True := trivial
theorem all.tw14331890051309236264 : True := trivial
theorem all.tw7347299435816893626 : True := trivial
theorem all.tw13100642850353945058 : True := trivial
theorem all.tw11441816438227186863 : True := trivial
theorem all.tw12221947951091446842 : True := trivial
theorem all.tw6516363680345034613 : True := trivial
theorem all.tw17933553581876595578 : True := trivial
theorem all.tw4561188658046838414 : True := trivial
theorem all.tw1639981616727947583 : True := trivial
theorem all.tw16739083755425606968 : True := trivial
theorem all.tw13887551421349579326 : True := trivial
theorem all.tw14701963045326077753 : True := trivial
theorem all.tw8909644736058714228 : True := trivial
theorem all.tw17711473739705145481 : True := trivial
theorem all.tw8315046463243809389 : True := trivial
theorem all.tw8820459466428253018 : True := trivial
theorem all.tw11093295523969242068 : True := trivial
theorem all.tw18433079168191953831 : True := trivial
theorem all.tw4198835854440487071 : True := trivial
theorem all.tw12071712058454129317 : True := trivial
theorem all.tw14074921412963316263 : True := trivial
theorem all.tw8689057759390064058 : True := trivial
theorem all.tw44263415142174766 : True := trivial
theorem all.tw11488495728068971930 : True := trivial
theorem all.tw14068239771850734003 : True := trivial
theorem all.tw10773934983489079739 : True := trivial
theorem all.tw4847766330237268548 : True := trivial
theorem all.tw7234240908195146063 : True := trivial
theorem all.tw8013882960148741844 : True := trivial
theorem all.tw170011695776544723 : True := trivial
theorem all : PySem.Challenge.rw_og0277_01.Holds := by
  w_on; o_law; k_head
  case hw => w_witness2
  refine final_gen plainLaw rfl (fun P => ?_) (fun P => ?_) (fun P => by k_is)
  · exact {
      g_lplace := by k_is
      f_lplace := ⟨_, _, _, _, _, _, _, _, _, by k_is, by k_is⟩
      g_vwidth := by k_is
      f_vwidth := ⟨_, _, _, _, _, _, _, _, _, by k_is, by k_is⟩
      g_ccodes := by k_is
      f_ccodes := ⟨_, _, _, _, _, _, _, _, _, by k_is, by k_is⟩
      g_sbegin := by k_is
      f_sbegin := ⟨_, _, _, _, _, _, _, _, _, by k_is, by k_is⟩
      g_send := by k_is
      f_send := ⟨_, _, _, _, _, _, _, _, _, by k_is, by k_is⟩
      g_vcodes := by k_is
      f_vcodes := ⟨_, _, _, _, _, _, _, _, _, by k_is, by k_is⟩
      g_fend := by k_is
      f_fend := ⟨_, _, _, _, _, _, _, _, _, by k_is, by k_is⟩
      g_isblank := by k_is
      f_isblank := ⟨_, _, _, _, _, _, _, _, _, by k_is, by k_is⟩
      f_above := ⟨_, _, _, _, _, _, _, _, _, by k_is, by k_is⟩
      f_rows := ⟨_, _, _, _, _, _, _, _, _, by k_is, by k_is⟩
      f_vline := ⟨_, _, _, _, _, _, _, _, _, by k_is, by k_is⟩
      f_joined := ⟨_, _, _, _, _, _, _, _, _, by k_is, by k_is⟩
      m_above := ⟨by k_is, by k_is, by k_is⟩
      m_rows := ⟨by k_is, by k_is, by k_is⟩
      m_vline := ⟨by k_is, by k_is, by k_is⟩
      m_joined := ⟨by k_is, by k_is, by k_is⟩
      a_history := ⟨by k_is, by k_is, _, by k_is, by k_is⟩
      a_grid := ⟨by k_is, by k_is, _, by k_is, by k_is⟩
      a_glines := ⟨by k_is, by k_is, _, by k_is, by k_is⟩
      a_hlines := ⟨by k_is, by k_is, _, by k_is, by k_is⟩
      a_cells := ⟨by k_is, by k_is, _, by k_is, by k_is⟩
      a_wrapped := ⟨by k_is, by k_is, _, by k_is, by k_is⟩
      b_len := by k_is
      b_int := by k_is
      b_range := by k_is
      b_enumerate := by k_is
      v_BLANK := ⟨_, by k_is⟩
      v_LF := ⟨_, by k_is⟩
      }
  · exact {
      g_eraspen := by k_is
      f_eraspen := ⟨_, _, _, _, _, _, _, _, _, by k_is, by k_is⟩
      g_blankc := by k_is
      f_blankc := ⟨_, _, _, _, _, _, _, _, _, by k_is, by k_is⟩
      g_lblanks := by k_is
      f_lblanks := ⟨_, _, _, _, _, _, _, _, _, by k_is, by k_is⟩
      g_rhalf := by k_is
      f_rhalf := ⟨_, _, _, _, _, _, _, _, _, by k_is, by k_is⟩
      g_lpart := by k_is
      f_lpart := ⟨_, _, _, _, _, _, _, _, _, by k_is, by k_is⟩
      g_Line := by k_is
      g_View := by k_is
      g_Grid := by k_is
      g_History := by k_is
      k_Line := ⟨by k_is, by k_is, by k_is⟩
      k_View := ⟨by k_is, by k_is, by k_is⟩
      k_Grid := ⟨by k_is, by k_is, by k_is⟩
      k_History := ⟨by k_is, by k_is, by k_is⟩
      c_Line := by k_is
      c_View := by k_is
      c_Grid := by k_is
      c_History := by k_is
      f_linit := ⟨_, _, _, _, _, _, _, _, _, by k_is, by k_is⟩
      f_mpart := ⟨_, _, _, _, _, _, _, _, _, by k_is, by k_is⟩
      f_mput := ⟨_, _, _, _, _, _, _, _, _, by k_is, by k_is⟩
      f_vinit := ⟨_, _, _, _, _, _, _, _, _, by k_is, by k_is⟩
      f_ginit := ⟨_, _, _, _, _, _, _, _, _, by k_is, by k_is⟩
      f_gline := ⟨_, _, _, _, _, _, _, _, _, by k_is, by k_is⟩
      f_hinit := ⟨_, _, _, _, _, _, _, _, _, by k_is, by k_is⟩
      f_hpush := ⟨_, _, _, _, _, _, _, _, _, by k_is, by k_is⟩
      m_mpart := ⟨by k_is, by k_is, by k_is⟩
      m_mput := ⟨by k_is, by k_is, by k_is⟩
      m_gline := ⟨by k_is, by k_is, by k_is⟩
      m_hpush := ⟨by k_is, by k_is, by k_is⟩
      s_cells := ⟨by k_is, by k_is, by k_is, by k_is⟩
      s_wrapped := ⟨by k_is, by k_is, by k_is, by k_is⟩
      s_size := ⟨by k_is, by k_is, by k_is, by k_is⟩
      s_rows := ⟨by k_is, by k_is, by k_is, by k_is⟩
      s_columns := ⟨by k_is, by k_is, by k_is, by k_is⟩
      s_glines := ⟨by k_is, by k_is, by k_is, by k_is⟩
      s_most := ⟨by k_is, by k_is, by k_is, by k_is⟩
      s_hlines := ⟨by k_is, by k_is, by k_is, by k_is⟩
      s_gone := ⟨by k_is, by k_is, by k_is, by k_is⟩
      s_history := ⟨by k_is, by k_is, by k_is, by k_is⟩
      s_grid := ⟨by k_is, by k_is, by k_is, by k_is⟩
      a_most := ⟨by k_is, by k_is, _, by k_is, by k_is⟩
      g_deck := by k_is
      f_deck := ⟨_, _, _, _, _, _, _, _, _, by k_is, by k_is⟩
      g_draw := by k_is
      f_draw := ⟨_, _, _, _, _, _, _, _, _, by k_is, by k_is⟩
      g_signs := by k_is
      f_signs := ⟨_, _, _, _, _, _, _, _, _, by k_is, by k_is⟩
      g_laid := by k_is
      f_laid := ⟨_, _, _, _, _, _, _, _, _, by k_is, by k_is⟩
      g_lcodes := by k_is
      f_lcodes := ⟨_, _, _, _, _, _, _, _, _, by k_is, by k_is⟩
      f_law := ⟨_, _, _, _, _, _, _, _, _, by k_is, by k_is⟩
      b_max := by k_is
      b_list := by k_is
      b_tuple := by k_is
      v_NOCOL := ⟨_, by k_is⟩
      v_BACK := ⟨_, by k_is⟩
      v_PLAIN := by k_is
      o_PLAIN := ⟨_, _, _, _, _, by k_is⟩
      v_SIZES := by k_is
      o_SIZES := ⟨_, _, _, _, _, by k_is⟩
      }
end Mine

theorem PySem.Challenge.cw_og0277_01_holds : PySem.Challenge.rw_og0277_01.Holds := by
  exact Mine.all
