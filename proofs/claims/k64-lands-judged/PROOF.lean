import PyProof.Rows.All
import Wide.All
import OpenK.AllK
import Wide.FinOn
import HandS.ForMost
import HandS.Wide
import HandS.Walk
import HandS.IsInst
import HandS.Zip
import HandS.Flow
import HandS.TupAny
import KE.GoesMore
import KE.GoesEnum
import HandS.Defaults
import HandS.More
import HandS.Words
import HandS.Style
import HandS.Rev
import HandS.Deep
import HandS.Head0
import HandS.Head1
import HandS.Head2
import HandS.HeadEnd
import HandS.HeadHook1
import HandS.HeadHook2
import HandS.HeadHook3
import HandS.HeadHook4
import KE.KStateDown
import Lean
import HandS.SortInts
import HandS.Remove
import KE.GoesZip
import HandS.IterVal
import HandS.Conv
import KE.KDictZip
import KE.KDictList
import HandS.Dict
import HandS.TupMul
import PyProof.ReprLen
import PySem.Challenge.RW_makeprice_k64_lands_and_sharings_judged
set_option Elab.async false
set_option linter.all false
set_option maxRecDepth 100000
/-! Dl: plain data over the hand layer. A def is told by a plain function of data. -/
namespace Dl
open PySem PySem.Spec PyProof.Rows L2

abbrev D := PyData
abbrev Sg := L2.St

/-! ### data, an empty dict among them -/
mutual
inductive Dp (K : PySem.W.Frag) (H : Hp) : V → D → Prop
  | non : Dp K H .non .none
  | bl (b : Bool) : Dp K H (.bl b) (.bool b)
  | int (i : Int) : Dp K H (.int i) (.int i)
  | str (x : Str) : Dp K H (.str x) (.str x)
  | lst {a : Addr} {xs : List V} {ds : List D} : SqL K H a xs → DpAll K H xs ds → Dp K H (.ref a) (.list ds)
  | tup {a : Addr} {xs : List V} {ds : List D} : SqT K H a xs → DpAll K H xs ds → Dp K H (.ref a) (.tuple ds)
  | dct {a : Addr} : H a = some (.dT []) → Dp K H (.ref a) (.dict [])
inductive DpAll (K : PySem.W.Frag) (H : Hp) : List V → List D → Prop
  | nil : DpAll K H [] []
  | cons {v : V} {vs : List V} {d : D} {ds : List D} : Dp K H v d → DpAll K H vs ds → DpAll K H (v :: vs) (d :: ds)
end
mutual
theorem Dp.hand {K : PySem.W.Frag} {H : Hp} : ∀ (d : D) (v : V), d.canLay0 = true → Dp K H v d → L2.Dp K H v d
  | .none, _, _, h => by cases h; exact .non
  | .bool b, _, _, h => by cases h; exact .bl b
  | .int i, _, _, h => by cases h; exact .int i
  | .str x, _, _, h => by cases h; exact .str x
  | .list ds, _, q, h => by
    cases h with
    | lst hs ha => exact .lst hs (DpAll.hand ds _ (by simpa only [PyData.canLay0] using q) ha)
  | .tuple ds, _, q, h => by
    cases h with
    | tup hs ha => exact .tup hs (DpAll.hand ds _ (by simpa only [PyData.canLay0] using q) ha)
  | .dict _, _, q, _ => by simp [PyData.canLay0] at q
theorem DpAll.hand {K : PySem.W.Frag} {H : Hp} : ∀ (ds : List D) (vs : List V), PyData.canLayAll0 ds = true → DpAll K H vs ds → L2.DpAll K H vs ds
  | [], _, _, h => by cases h; exact .nil
  | d :: ds, _, q, h => by
    cases h with
    | cons h1 h2 =>
      simp only [PyData.canLayAll0, Bool.and_eq_true] at q
      exact .cons (Dp.hand d _ q.1 h1) (DpAll.hand ds _ q.2 h2)
end
theorem shaped_lay {d : D} (h : SeqAt.shaped d = true) : d.canLay0 = true := by
  unfold SeqAt.shaped at h
  simp only [Bool.and_eq_true] at h
  exact h.1
section
variable {X : Cx} {pins : List (Addr × Obj)} {σ : L2.St} {H : Hp} {s : Shared}
mutual
theorem Dp.reads (I : Inv X pins σ H s) : ∀ (d : D) (v : V) (u : Value), Dp X.K H v d → RelV v u → ∃ as, Reads s.heap u d as
  | .none, _, _, h, r => by cases h; cases r; exact ⟨_, Reads.none⟩
  | .bool b, _, _, h, r => by cases h; cases r; exact ⟨_, Reads.bool b⟩
  | .int i, _, _, h, r => by
    cases h
    obtain ⟨t, rfl⟩ := r
    exact ⟨_, Reads.int i t⟩
  | .str x, _, _, h, r => by
    cases h
    obtain ⟨t, rfl⟩ := r
    exact ⟨_, Reads.str x t⟩
  | .list ds, _, _, h, r => by
    cases h with
    | lst hs ha =>
      cases r
      obtain ⟨its, rv, ⟨o, n, ho, hc, _, hd⟩, _⟩ := I.list hs
      obtain ⟨as, q⟩ := DpAll.reads I ds _ its ha rv
      exact ⟨_, Reads.list ho hc hd q⟩
  | .tuple ds, _, _, h, r => by
    cases h with
    | tup hs ha =>
      cases r
      obtain ⟨its, rv, ⟨o, ho, hc, n, hd⟩, _⟩ := I.tuple hs
      obtain ⟨as, q⟩ := DpAll.reads I ds _ its ha rv
      exact ⟨_, Reads.tuple ho hc hd q⟩
  | .dict _, _, _, h, r => by
    cases h with
    | dct e =>
      cases r
      obtain ⟨_, _, xs, hp, o, es, ep, ho, hx, hd, he, _⟩ := (show ObjOk X.prog X.w H s.heap _ (.dT []) from I.hok _ _ e)
      cases hp
      exact ⟨_, Reads.dict ho hx.1 hd (by rw [he]; exact .nil) (by rw [he]; exact .nil)⟩
theorem DpAll.reads (I : Inv X pins σ H s) : ∀ (ds : List D) (vs : List V) (us : List Value), DpAll X.K H vs ds → Vals vs us → ∃ as, ReadsAll s.heap us ds as
  | [], _, _, h, r => by cases h; cases r; exact ⟨_, ReadsAll.nil⟩
  | d :: ds, _, _, h, r => by
    cases h with
    | cons h1 h2 =>
      cases r with
      | cons r1 r2 =>
        obtain ⟨as, q1⟩ := Dp.reads I d _ _ h1 r1
        obtain ⟨bs, q2⟩ := DpAll.reads I ds _ _ h2 r2
        exact ⟨_, ReadsAll.cons q1 q2⟩
end
end

/-! ### data stands while the heap grows -/
theorem Same.tupS {K : PySem.W.Frag} {H H' : Hp} {a : Addr} {xs : List V} (e : Same H H') (h : SqT K H a xs) : SqT K H' a xs := by
  rcases h with (h | ⟨o, h⟩) | h
  · exact .inl (.inl (e _ _ h))
  · exact .inl (.inr ⟨o, e _ _ h⟩)
  · exact .inr h

mutual
theorem dpMono {K : PySem.W.Frag} {H H' : Hp} (e : Same H H') : ∀ (d : D) (v : V), Dp K H v d → Dp K H' v d
  | .none, _, h => by cases h; exact .non
  | .bool b, _, h => by cases h; exact .bl b
  | .int i, _, h => by cases h; exact .int i
  | .str x, _, h => by cases h; exact .str x
  | .list ds, _, h => by
    cases h with
    | lst hs ha => exact .lst (e.seq hs) (dpMonos e ds _ ha)
  | .tuple ds, _, h => by
    cases h with
    | tup hs ha => exact .tup (Same.tupS e hs) (dpMonos e ds _ ha)
  | .dict _, _, h => by
    cases h with
    | dct q => exact .dct (e _ _ q)
theorem dpMonos {K : PySem.W.Frag} {H H' : Hp} (e : Same H H') : ∀ (ds : List D) (vs : List V), DpAll K H vs ds → DpAll K H' vs ds
  | [], _, h => by cases h; exact .nil
  | d :: ds, _, h => by
    cases h with
    | cons h1 h2 => exact .cons (dpMono e d _ h1) (dpMonos e ds _ h2)
end

theorem dpLen {K : PySem.W.Frag} {H : Hp} : ∀ {vs : List V} {ds : List D}, DpAll K H vs ds → vs.length = ds.length
  | _, [], h => by cases h; rfl
  | _, d :: ds, h => by
    cases h with
    | cons _ h2 => simp [dpLen h2]
theorem dpAt {K : PySem.W.Frag} {H : Hp} : ∀ {vs : List V} {ds : List D} {i : Nat} {d : D}, DpAll K H vs ds → ds[i]? = some d → ∃ v, vs[i]? = some v ∧ Dp K H v d
  | _, [], _, _, _, e => by simp at e
  | _, d :: ds, 0, d', h, e => by
    cases h with
    | cons h1 h2 => simp at e; subst e; exact ⟨_, rfl, h1⟩
  | _, d :: ds, i + 1, d', h, e => by
    cases h with
    | cons h1 h2 =>
      obtain ⟨v, q, r⟩ := dpAt h2 (i := i) (by simpa using e)
      exact ⟨v, by simpa using q, r⟩
theorem dpAtV {K : PySem.W.Frag} {H : Hp} : ∀ {vs : List V} {ds : List D} {i : Nat} {v : V}, DpAll K H vs ds → vs[i]? = some v → ∃ d, ds[i]? = some d ∧ Dp K H v d
  | _, [], _, _, h, e => by cases h; simp at e
  | _, d :: ds, 0, d', h, e => by
    cases h with
    | cons h1 h2 => simp at e; subst e; exact ⟨_, rfl, h1⟩
  | _, d :: ds, i + 1, d', h, e => by
    cases h with
    | cons h1 h2 =>
      obtain ⟨v, q, r⟩ := dpAtV h2 (i := i) (by simpa using e)
      exact ⟨v, by simpa using q, r⟩
theorem dpApp {K : PySem.W.Frag} {H : Hp} : ∀ {vs ws : List V} {ds es : List D}, DpAll K H vs ds → DpAll K H ws es → DpAll K H (vs ++ ws) (ds ++ es)
  | _, _, [], _, h, g => by cases h; exact g
  | _, _, d :: ds, _, h, g => by
    cases h with
    | cons h1 h2 => exact .cons h1 (dpApp h2 g)
theorem dpTake {K : PySem.W.Frag} {H : Hp} : ∀ (n : Nat) {vs : List V} {ds : List D}, DpAll K H vs ds → DpAll K H (vs.take n) (ds.take n)
  | 0, _, _, _ => .nil
  | n + 1, _, [], h => by cases h; exact .nil
  | n + 1, _, d :: ds, h => by
    cases h with
    | cons h1 h2 => exact .cons h1 (dpTake n h2)
theorem dpDrop {K : PySem.W.Frag} {H : Hp} : ∀ (n : Nat) {vs : List V} {ds : List D}, DpAll K H vs ds → DpAll K H (vs.drop n) (ds.drop n)
  | 0, _, _, h => h
  | n + 1, _, [], h => by cases h; exact .nil
  | n + 1, _, d :: ds, h => by
    cases h with
    | cons h1 h2 => exact dpDrop n h2
theorem dpSet {K : PySem.W.Frag} {H : Hp} {v : V} {d : D} (hd : Dp K H v d) : ∀ (n : Nat) {vs : List V} {ds : List D}, DpAll K H vs ds → DpAll K H (vs.set n v) (ds.set n d)
  | _, _, [], h => by cases h; exact .nil
  | 0, _, d :: ds, h => by
    cases h with
    | cons h1 h2 => exact .cons hd h2
  | n + 1, _, d :: ds, h => by
    cases h with
    | cons h1 h2 => exact .cons h1 (dpSet hd n h2)

/-! ### slots -/
/-- what a slot holds: nothing, data that stays, a list that this frame alone may change -/
inductive Sl where
  | no | v (d : D) | own (t : Option Addr) (ds : List D)
abbrev G := List Sl

def RepS (K : PySem.W.Frag) (F H : Hp) : Sl → Option V → Prop
  | .no, _ => True
  | .v d, o => ∃ x, o = some x ∧ Dp K F x d
  | .own t ds, o => ∃ a xs, o = some (.ref a) ∧ F a = none ∧ H a = some (.lst xs) ∧ DpAll K F xs ds ∧ ∀ b, t = some b → b = a

/-- the address of a list of the frame's own -/
def OwnAt (g : G) (s : Sg) (a : Addr) : Prop := ∃ (i : Nat) (t : Option Addr) (ds : List D), g[i]? = some (.own t ds) ∧ s[i]? = some (some (.ref a))

structure Rep (K : PySem.W.Frag) (F : Hp) (g : G) (s : Sg) (H : Hp) : Prop where
  fh : Same F H
  len : g.length = s.length
  sl : ∀ (i : Nat) (x : Sl) (o : Option V), g[i]? = some x → s[i]? = some o → RepS K F H x o
  uq : ∀ (i j : Nat) (a : Addr) (t u : Option Addr) (ds es : List D), g[i]? = some (.own t ds) → g[j]? = some (.own u es) → s[i]? = some (some (.ref a)) → s[j]? = some (some (.ref a)) → i = j

/-- from one heap to a later one: what is frozen stays, all but the addresses O stays -/
structure Stp (O : Addr → Prop) (F H F' H' : Hp) : Prop where
  fs : Same F F'
  keep : ∀ b o, H b = some o → ¬ O b → H' b = some o
  fresh : ∀ b, F b = none → F' b ≠ none → H b = none ∨ O b
  dom : ∀ b, H b ≠ none → H' b ≠ none

abbrev Non : Addr → Prop := fun _ => False

theorem Stp.refl {O : Addr → Prop} {F H : Hp} : Stp O F H F H := ⟨.refl _, fun _ _ h _ => h, fun _ h h' => absurd h h', fun _ h => h⟩
theorem Stp.weak {O O' : Addr → Prop} {F H F' H' : Hp} (s : Stp O F H F' H') (h : ∀ b, O b → O' b) : Stp O' F H F' H' :=
  ⟨s.fs, fun b o e n => s.keep b o e fun z => n (h b z), fun b e e' => (s.fresh b e e').imp id (h b), s.dom⟩
theorem Stp.trans {O O1 : Addr → Prop} {F H F1 H1 F2 H2 : Hp} (s : Stp O F H F1 H1) (t : Stp O1 F1 H1 F2 H2) (h : ∀ b, O1 b → O b ∨ H b = none) : Stp O F H F2 H2 where
  fs := s.fs.trans t.fs
  keep := fun b o e n => t.keep b o (s.keep b o e n) fun z => by
    rcases h b z with q | q
    · exact n q
    · rw [q] at e; cases e
  fresh := fun b e e' => by
    by_cases q : F1 b = none
    · rcases t.fresh b q e' with z | z
      · left
        cases hb : H b with
        | none => rfl
        | some o => exact absurd z (s.dom b (by rw [hb]; simp))
      · exact (h b z).symm.imp id id
    · exact s.fresh b e q
  dom := fun b e => t.dom b (s.dom b e)

/-- a new object, frozen at once -/
theorem Stp.laid {O : Addr → Prop} {F H : Hp} {p : Addr} {o : HO} (np : H p = none) (fh : Same F H) : Stp O F H (upd F p o) (upd H p o) := by
  have fp : F p = none := by
    cases e : F p with
    | none => rfl
    | some u => rw [fh _ _ e] at np; cases np
  refine ⟨fun b u e => ?_, fun b u e _ => ?_, fun b e e' => ?_, fun b e => ?_⟩
  · rw [upd_ne (ne_of_none e fp)]; exact e
  · rw [upd_ne (ne_of_none e np)]; exact e
  · by_cases z : b = p
    · left; rw [z]; exact np
    · rw [upd_ne z] at e'; exact absurd e e'
  · by_cases z : b = p
    · rw [z] at e; exact absurd np e
    · rw [upd_ne z]; exact e
/-- a new object, not frozen -/
theorem Stp.made {O : Addr → Prop} {F H : Hp} {p : Addr} {o : HO} (np : H p = none) : Stp O F H F (upd H p o) := by
  refine ⟨.refl _, fun b u e _ => ?_, fun b e e' => absurd e e', fun b e => ?_⟩
  · rw [upd_ne (ne_of_none e np)]; exact e
  · by_cases z : b = p
    · rw [z] at e; exact absurd np e
    · rw [upd_ne z]; exact e
theorem sameLaid {F H : Hp} {p : Addr} {o : HO} (fh : Same F H) (np : H p = none) : Same (upd F p o) (upd H p o) := fun b u e => by
  by_cases z : b = p
  · subst z; rw [upd_same] at e ⊢; exact e
  · rw [upd_ne z] at e ⊢; exact fh b u e
theorem sameMade {F H : Hp} {p : Addr} {o : HO} (fh : Same F H) (np : H p = none) : Same F (upd H p o) := fun b u e => by
  have h := fh b u e
  rw [upd_ne (ne_of_none h np)]; exact h

/-- slots behind a step that touches none of the frame's lists -/
theorem Rep.step {K : PySem.W.Frag} {F F' H H' : Hp} {g : G} {s : Sg} {O : Addr → Prop} (r : Rep K F g s H) (t : Stp O F H F' H') (hO : ∀ b, OwnAt g s b → ¬ O b) (fh : Same F' H') : Rep K F' g s H' := by
  refine ⟨fh, r.len, fun i x o hx ho => ?_, r.uq⟩
  have q := r.sl i x o hx ho
  cases x with
  | no => trivial
  | v d =>
    obtain ⟨y, e, h⟩ := q
    exact ⟨y, e, dpMono t.fs _ _ h⟩
  | own tg ds =>
    obtain ⟨a, xs, e, fa, ha, h, ht⟩ := q
    have ow : OwnAt g s a := ⟨i, tg, ds, hx, by rw [ho, e]⟩
    refine ⟨a, xs, e, ?_, t.keep a _ ha (hO a ow), dpMonos t.fs _ _ h, ht⟩
    cases z : F' a with
    | none => rfl
    | some u =>
      rcases t.fresh a fa (by rw [z]; simp) with q | q
      · rw [q] at ha; cases ha
      · exact absurd q (hO a ow)
theorem Rep.stepN {K : PySem.W.Frag} {F F' H H' : Hp} {g : G} {s : Sg} (r : Rep K F g s H) (t : Stp Non F H F' H') (fh : Same F' H') : Rep K F' g s H' := r.step t (fun _ _ z => z) fh

/-- the frame's lists grow no more -/
def Mo (g g' : G) : Prop := ∀ (i : Nat) (t : Option Addr) (ds : List D), g'[i]? = some (.own t ds) → ∃ es, g[i]? = some (.own t es)
theorem Mo.refl {g : G} : Mo g g := fun _ _ ds h => ⟨ds, h⟩
theorem Mo.trans {a b c : G} (x : Mo a b) (y : Mo b c) : Mo a c := fun i t ds h => let ⟨es, e⟩ := y i t ds h; x i t es e
theorem Mo.own {g g' : G} {s : Sg} {a : Addr} (m : Mo g g') (h : OwnAt g' s a) : OwnAt g s a := by
  obtain ⟨i, t, ds, e, q⟩ := h
  obtain ⟨es, z⟩ := m i t ds e
  exact ⟨i, t, es, z, q⟩

theorem Rep.get {K : PySem.W.Frag} {F H : Hp} {g : G} {s : Sg} (r : Rep K F g s H) {i : Nat} {x : Sl} (h : g[i]? = some x) : ∃ o, s[i]? = some o ∧ RepS K F H x o := by
  have hi : i < s.length := by rw [← r.len]; exact (List.getElem?_eq_some_iff.mp h).1
  exact ⟨s[i], List.getElem?_eq_getElem hi, r.sl i x _ h (List.getElem?_eq_getElem hi)⟩

theorem ownIn {g : G} {s : Sg} {a : Addr} {i : Nat} {x : Sl} {o : Option V} (h : OwnAt (g.set i x) (s.set i o) a) (hl : g.length = s.length) : OwnAt g s a ∨ (∃ t ds, x = .own t ds ∧ o = some (.ref a)) := by
  obtain ⟨j, t, ds, e, q⟩ := h
  by_cases z : i = j
  · subst z
    have hi : i < g.length := by
      have := (List.getElem?_eq_some_iff.mp e).1
      simpa using this
    rw [List.getElem?_set_self hi] at e
    rw [List.getElem?_set_self (by omega)] at q
    right
    cases e; cases q
    exact ⟨t, ds, rfl, rfl⟩
  · rw [List.getElem?_set_ne z] at e q
    exact .inl ⟨j, t, ds, e, q⟩
/-- a slot is written -/
theorem Rep.put {K : PySem.W.Frag} {F H : Hp} {g : G} {s : Sg} (r : Rep K F g s H) (i : Nat) (x : Sl) (o : Option V) (h : RepS K F H x o) (hn : ∀ t ds a, x = .own t ds → o = some (.ref a) → ¬ OwnAt g s a) : Rep K F (g.set i x) (s.set i o) H := by
  refine ⟨r.fh, by simp [r.len], fun j y o' hy ho => ?_, fun j k a t u ds es h1 h2 h3 h4 => ?_⟩
  · by_cases z : i = j
    · subst z
      have hi : i < g.length := by
        have := (List.getElem?_eq_some_iff.mp hy).1
        simpa using this
      rw [List.getElem?_set_self hi] at hy
      rw [List.getElem?_set_self (by rw [← r.len]; exact hi)] at ho
      cases hy; cases ho; exact h
    · rw [List.getElem?_set_ne z] at hy ho
      exact r.sl j y o' hy ho
  · by_cases z1 : i = j
    · by_cases z2 : i = k
      · exact z1.symm.trans z2
      · subst z1
        have hi : i < g.length := by
          have := (List.getElem?_eq_some_iff.mp h1).1
          simpa using this
        rw [List.getElem?_set_self hi] at h1
        rw [List.getElem?_set_self (by rw [← r.len]; exact hi)] at h3
        rw [List.getElem?_set_ne z2] at h2 h4
        cases h1; cases h3
        exact absurd ⟨k, u, es, h2, h4⟩ (hn t ds a rfl rfl)
    · by_cases z2 : i = k
      · subst z2
        have hi : i < g.length := by
          have := (List.getElem?_eq_some_iff.mp h2).1
          simpa using this
        rw [List.getElem?_set_self hi] at h2
        rw [List.getElem?_set_self (by rw [← r.len]; exact hi)] at h4
        rw [List.getElem?_set_ne z1] at h1 h3
        cases h2; cases h4
        exact absurd ⟨j, t, ds, h1, h3⟩ (hn u es a rfl rfl)
      · rw [List.getElem?_set_ne z1] at h1 h3
        rw [List.getElem?_set_ne z2] at h2 h4
        exact r.uq j k a t u ds es h1 h2 h3 h4
end Dl
set_option Elab.async false
set_option linter.all false
set_option maxRecDepth 100000
namespace Dl
open PySem PySem.Spec PyProof.Rows L2

theorem Stp.two {F H F1 H1 F2 H2 : Hp} {g g1 : G} {s : Sg} (t1 : Stp (OwnAt g s) F H F1 H1) (m : Mo g g1) (t2 : Stp (OwnAt g1 s) F1 H1 F2 H2) : Stp (OwnAt g s) F H F2 H2 := t1.trans t2 fun _ h => .inl (m.own h)
theorem Stp.andN {O : Addr → Prop} {F H F1 H1 F2 H2 : Hp} (t1 : Stp O F H F1 H1) (t2 : Stp Non F1 H1 F2 H2) : Stp O F H F2 H2 := t1.trans t2 fun _ h => h.elim

theorem peMono {X : Cx} {e : Expr} {t t' : TE} (h : PE X e t) (m : ∀ s H Q, t' s H Q → t s H Q) : PE X e t' := ⟨fun pins st s H Q I w => h.run pins st s H Q I (m s H Q w)⟩
theorem ptMono {X : Cx} {e : Expr} {t t' : TT} (h : PT X e t) (m : ∀ s H Q, t' s H Q → t s H Q) : PT X e t' := ⟨fun pins st s H Q I w => h.run pins st s H Q I (m s H Q w)⟩
theorem paMono {X : Cx} {e : List Expr} {t t' : TA} (h : PA X e t) (m : ∀ s H Q, t' s H Q → t s H Q) : PA X e t' := ⟨fun pos pins st s H Q I w => h.run pos pins st s H Q I (m s H Q w)⟩
theorem psMono {X : Cx} {e : Stmt} {t t' : TS} (h : PS X e t) (m : ∀ D s H, t' D s H → t D s H) : PS X e t' := ⟨fun pins st s H D I w => h.run pins st s H D I (m D s H w)⟩
theorem pssMono {X : Cx} {e : List Stmt} {t t' : TS} (h : PSs X e t) (m : ∀ D s H, t' D s H → t D s H) : PSs X e t' := ⟨fun pins st s H D I w => h.run pins st s H D I (m D s H w)⟩
theorem pwMono {X : Cx} {e : Expr} {t t' : TT} (h : PW X e t) (m : ∀ s H Q, t' s H Q → t s H Q) : PW X e t' := ⟨fun wh pins st s H Q I w => h.run wh pins st s H Q I (m s H Q w)⟩

/-! ### the judgements by data -/
abbrev Fe := G → Option (D × G)
abbrev Fv := G → Option (Sl × G)
abbrev Ft := G → Option (Bool × G)
abbrev Fa := G → Option (List D × G)

def tD (K : PySem.W.Frag) (f : Fe) : TE := fun s H Q => ∃ F g d g', Rep K F g s H ∧ f g = some (d, g') ∧
  ∀ v F' H', Dp K F' v d → Rep K F' g' s H' → Stp (OwnAt g s) F H F' H' → Mo g g' → Q v H'
/-- data to be read at once: frozen, or a list of the frame's own -/
def BD (K : PySem.W.Frag) (F H : Hp) (v : V) (d : D) : Prop := Dp K F v d ∨ ∃ ds a xs, d = .list ds ∧ v = .ref a ∧ H a = some (.lst xs) ∧ DpAll K F xs ds
theorem BD.dp {K : PySem.W.Frag} {F H : Hp} {v : V} {d : D} (h : BD K F H v d) (fh : Same F H) : Dp K H v d := by
  rcases h with h | ⟨ds, a, xs, rfl, rfl, ha, hp⟩
  · exact dpMono fh _ _ h
  · exact .lst (SqL.of ha) (dpMonos fh _ _ hp)
def tB (K : PySem.W.Frag) (f : Fe) : TE := fun s H Q => ∃ F g d g', Rep K F g s H ∧ f g = some (d, g') ∧
  ∀ v F' H', BD K F' H' v d → Rep K F' g' s H' → Stp (OwnAt g s) F H F' H' → Mo g g' → Q v H'
def tV (K : PySem.W.Frag) (f : Fv) : TE := fun s H Q => ∃ F g x g', Rep K F g s H ∧ f g = some (x, g') ∧
  ∀ v F' H', RepS K F' H' x (some v) → (∀ t ds, x = .own t ds → t = none ∧ ∃ a, v = .ref a ∧ H a = none) → Rep K F' g' s H' → Stp (OwnAt g s) F H F' H' → Mo g g' → Q v H'
def tT (K : PySem.W.Frag) (f : Ft) : TT := fun s H Q => ∃ F g b g', Rep K F g s H ∧ f g = some (b, g') ∧
  ∀ F' H', Rep K F' g' s H' → Stp (OwnAt g s) F H F' H' → Mo g g' → Q b H'
def tA (K : PySem.W.Frag) (f : Fa) : TA := fun s H Q => ∃ F g ds g', Rep K F g s H ∧ f g = some (ds, g') ∧
  ∀ vs F' H', DpAll K F' vs ds → Rep K F' g' s H' → Stp (OwnAt g s) F H F' H' → Mo g g' → Q vs H'
def DE (X : Cx) (e : Expr) (f : Fe) : Prop := PE X e (tD X.K f)
def DB (X : Cx) (e : Expr) (f : Fe) : Prop := PE X e (tB X.K f)
def DV (X : Cx) (e : Expr) (f : Fv) : Prop := PE X e (tV X.K f)
def DT (X : Cx) (e : Expr) (f : Ft) : Prop := PT X e (tT X.K f)
def DW (X : Cx) (e : Expr) (f : Ft) : Prop := PW X e (tT X.K f)
def DA (X : Cx) (es : List Expr) (f : Fa) : Prop := PA X es (tA X.K f)

variable {X : Cx}

/-! ### constants, names -/
def eC (d : D) : Fe := fun g => some (d, g)
theorem de_const {e : Expr} {v : V} {d : D} (h : PE X e (tC v)) (hd : ∀ F, Dp X.K F v d) : DE X e (eC d) := peMono h fun s H Q ⟨F, g, d', g', r, e1, k⟩ => by
  cases e1
  exact k v F H (hd F) r Stp.refl Mo.refl
theorem de_int {i j pos} : DE X (.Constant (.int i) j pos) (eC (.int i)) := de_const pe_int fun _ => .int i
theorem de_str {i j pos} : DE X (.Constant (.str i) j pos) (eC (.str i)) := de_const pe_str fun _ => .str i
theorem de_bl {i j pos} : DE X (.Constant (.bool i) j pos) (eC (.bool i)) := de_const pe_bl fun _ => .bl i
theorem de_non {j pos} : DE X (.Constant .none j pos) (eC .none) := de_const pe_non fun _ => .non
/-- a constant of the module -/
theorem de_glob {x : Str} {v : V} {u : Value} {d : D} {pos : Pos} (hg : Gl X x) (hm : X.mg x = some u) (r : RelV v u) (hd : ∀ F, Dp X.K F v d) (hdb : (x == ("__debug__" : Str)) = false := by decide) : DE X (.Name x pos) (eC d) := de_const (pe_glob hg hm r hdb) hd

def eVar (i : Nat) : Fe := fun g => match g[i]? with
  | some (.v d) => some (d, g)
  | some (.own none ds) => some (.list ds, g.set i (.v (.list ds)))
  | _ => none
/-- read without being frozen -/
def bVar (i : Nat) : Fe := fun g => match g[i]? with
  | some (.v d) => some (d, g)
  | some (.own _ ds) => some (.list ds, g)
  | _ => none

theorem setSelf {s : Sg} {i : Nat} {o : Option V} (h : s[i]? = some o) : s.set i o = s := by
  apply List.ext_getElem?
  intro j
  by_cases z : i = j
  · subst z
    rw [List.getElem?_set_self (List.getElem?_eq_some_iff.mp h).1, h]
  · rw [List.getElem?_set_ne z]

/-- a list of the frame's own is frozen where it stands -/
theorem Rep.freeze {K : PySem.W.Frag} {F H : Hp} {g : G} {s : Sg} (r : Rep K F g s H) {i : Nat} {t : Option Addr} {ds : List D} (h : g[i]? = some (.own t ds)) :
    ∃ a F', s[i]? = some (some (.ref a)) ∧ Dp K F' (.ref a) (.list ds) ∧ Rep K F' (g.set i (.v (.list ds))) s H ∧ Stp (OwnAt g s) F H F' H ∧ Mo g (g.set i (.v (.list ds))) := by
  obtain ⟨o, ho, a, xs, eo, fa, ha, hp, ht⟩ := r.get h
  subst eo
  have hi : i < g.length := (List.getElem?_eq_some_iff.mp h).1
  have sf : Same F (upd F a (.lst xs)) := fun b u e => by rw [upd_ne (ne_of_none e fa)]; exact e
  have fh : Same (upd F a (.lst xs)) H := fun b u e => by
    by_cases z : b = a
    · subst z; rw [upd_same] at e; cases e; exact ha
    · rw [upd_ne z] at e; exact r.fh b u e
  have t1 : Stp (fun b => b = a) F H (upd F a (.lst xs)) H := ⟨sf, fun b o e _ => e, fun b e e' => by
    by_cases z : b = a
    · exact .inr z
    · rw [upd_ne z] at e'; exact absurd e e', fun b e => e⟩
  have r0 : Rep K F (g.set i .no) s H := by
    have := r.put i .no (some (.ref a)) trivial (fun _ _ _ e => nomatch e)
    rwa [setSelf ho] at this
  have r1 : Rep K (upd F a (.lst xs)) (g.set i .no) s H := by
    refine r0.step t1 (fun b hb z => ?_) fh
    subst z
    obtain ⟨j, tg, es, e1, e2⟩ := hb
    by_cases z : i = j
    · subst z; rw [List.getElem?_set_self hi] at e1; cases e1
    · rw [List.getElem?_set_ne z] at e1
      exact z (r.uq i j b t tg ds es h e1 ho e2)
  have dp : Dp K (upd F a (.lst xs)) (.ref a) (.list ds) := .lst (SqL.of upd_same) (dpMonos sf _ _ hp)
  have r2 : Rep K (upd F a (.lst xs)) (g.set i (.v (.list ds))) s H := by
    have := r1.put i (.v (.list ds)) (some (.ref a)) ⟨_, rfl, dp⟩ (fun _ _ _ e => nomatch e)
    rwa [setSelf ho, List.set_set] at this
  refine ⟨a, _, ho, dp, r2, t1.weak fun b z => by subst z; exact ⟨i, t, ds, h, ho⟩, fun j tg es e => ?_⟩
  by_cases z : i = j
  · subst z; rw [List.getElem?_set_self hi] at e; cases e
  · rw [List.getElem?_set_ne z] at e; exact ⟨es, e⟩

theorem de_var (i : Nat) {x : Str} {pos : Pos} (hN : X.N[i]? = some x := by rfl) (hv : Vis X.env.scope x := by first | exact Or.inl rfl | exact Or.inr (Or.inl rfl) | exact Or.inr (Or.inr rfl)) (hd : (x == ("__debug__" : Str)) = false := by decide)
    (hcd : (x == ("__classdict__" : Str)) = false := by decide) : DE X (.Name x pos) (eVar i) := peMono (pe_var hN hv hd hcd) fun s H Q ⟨F, g, d, g', r, e, k⟩ => by
  unfold eVar at e
  split at e
  · rename_i d0 hg
    cases e
    obtain ⟨o, ho, v, rfl, hp⟩ := r.get hg
    exact ⟨v, ho, k v F H hp r Stp.refl Mo.refl⟩
  · rename_i ds hg
    cases e
    obtain ⟨a, F', ho, dp, r2, st, mo⟩ := r.freeze hg
    exact ⟨_, ho, k _ F' H dp r2 st mo⟩
  · cases e
theorem db_var (i : Nat) {x : Str} {pos : Pos} (hN : X.N[i]? = some x := by rfl) (hv : Vis X.env.scope x := by first | exact Or.inl rfl | exact Or.inr (Or.inl rfl) | exact Or.inr (Or.inr rfl)) (hd : (x == ("__debug__" : Str)) = false := by decide)
    (hcd : (x == ("__classdict__" : Str)) = false := by decide) : DB X (.Name x pos) (bVar i) := peMono (pe_var hN hv hd hcd) fun s H Q ⟨F, g, d, g', r, e, k⟩ => by
  unfold bVar at e
  split at e
  · rename_i d0 hg
    cases e
    obtain ⟨o, ho, v, rfl, hp⟩ := r.get hg
    exact ⟨v, ho, k v F H (.inl hp) r Stp.refl Mo.refl⟩
  · rename_i t ds hg
    cases e
    obtain ⟨o, ho, a, xs, rfl, fa, ha, hp, ht⟩ := r.get hg
    exact ⟨_, ho, k _ F H (.inr ⟨ds, a, xs, rfl, rfl, ha, hp⟩) r Stp.refl Mo.refl⟩
  · cases e
theorem db_de {e : Expr} {f : Fe} (h : DE X e f) : DB X e f := peMono h fun s H Q ⟨F, g, d, g', r, e1, k⟩ =>
  ⟨F, g, d, g', r, e1, fun v F' H' p r' t m => k v F' H' (.inl p) r' t m⟩
/-- a value that is no list of the frame's own -/
def vE (f : Fe) : Fv := fun g => (f g).map fun p => (.v p.1, p.2)
theorem dv_de {e : Expr} {f : Fe} (h : DE X e f) : DV X e (vE f) := peMono h fun s H Q ⟨F, g, x, g', r, e1, k⟩ => by
  unfold vE at e1
  cases q : f g with
  | none => rw [q] at e1; cases e1
  | some p =>
    rw [q] at e1; cases e1
    exact ⟨F, g, p.1, p.2, r, q, fun v F' H' hp r' t m => k v F' H' ⟨v, rfl, hp⟩ (fun _ _ z => nomatch z) r' t m⟩
/-- frozen -/
def dat : Sl → Option D
  | .v d => some d
  | .own _ ds => some (.list ds)
  | .no => none
def eV (f : Fv) : Fe := fun g => (f g).bind fun p => (dat p.1).map fun d => (d, p.2)
theorem freezeNew {K : PySem.W.Frag} {F H F' H' : Hp} {g g' : G} {s : Sg} {a : Addr} {xs : List V} {ds : List D} (r0 : Rep K F g s H) (r : Rep K F' g' s H') (fa : F' a = none) (ha : H' a = some (.lst xs)) (hp : DpAll K F' xs ds) (na : H a = none) (t : Stp (OwnAt g s) F H F' H') (m : Mo g g') :
    ∃ F2, Dp K F2 (.ref a) (.list ds) ∧ Rep K F2 g' s H' ∧ Stp (OwnAt g s) F H F2 H' := by
  have sf : Same F' (upd F' a (.lst xs)) := fun b u e => by rw [upd_ne (ne_of_none e fa)]; exact e
  have fh : Same (upd F' a (.lst xs)) H' := fun b u e => by
    by_cases z : b = a
    · subst z; rw [upd_same] at e; cases e; exact ha
    · rw [upd_ne z] at e; exact r.fh b u e
  have t1 : Stp (fun b => b = a) F' H' (upd F' a (.lst xs)) H' := ⟨sf, fun b o e _ => e, fun b e e' => by
    by_cases z : b = a
    · exact .inr z
    · rw [upd_ne z] at e'; exact absurd e e', fun b e => e⟩
  refine ⟨_, .lst (SqL.of upd_same) (dpMonos sf _ _ hp), r.step t1 (fun b hb z => ?_) fh, t.trans t1 fun b z => .inr (by rw [z]; exact na)⟩
  subst z
  obtain ⟨i, tg, es, e1, e2⟩ := m.own hb
  obtain ⟨o, ho, a2, ys, eo, _, ha2, _⟩ := r0.get e1
  rw [e2] at ho; cases ho; cases eo
  rw [na] at ha2; cases ha2
theorem de_dv {e : Expr} {f : Fv} (h : DV X e f) : DE X e (eV f) := peMono h fun s H Q ⟨F, g, d, g', r, e1, k⟩ => by
  unfold eV at e1
  cases q : f g with
  | none => rw [q] at e1; cases e1
  | some p =>
    obtain ⟨x, g1⟩ := p
    rw [q] at e1
    cases x with
    | no => cases e1
    | v d0 =>
      cases e1
      exact ⟨F, g, _, g1, r, q, fun v F' H' hp _ r' t m => by
        obtain ⟨y, e2, hp⟩ := hp
        cases e2
        exact k v F' H' hp r' t m⟩
    | own tg ds =>
      cases e1
      refine ⟨F, g, _, g1, r, q, fun v F' H' hp hn r' t m => ?_⟩
      obtain ⟨a, xs, e2, fa, ha, hp, _⟩ := hp
      cases e2
      obtain ⟨_, a', e3, na⟩ := hn tg ds rfl
      cases e3
      obtain ⟨F2, dp, r2, t2⟩ := freezeNew r r' fa ha hp na t m
      exact k _ F2 H' dp r2 t2 m
/-- read at once, not frozen -/
theorem db_dv {e : Expr} {f : Fv} (h : DV X e f) : DB X e (eV f) := peMono h fun s H Q ⟨F, g, d, g', r, e1, k⟩ => by
  unfold eV at e1
  cases q : f g with
  | none => rw [q] at e1; cases e1
  | some p =>
    obtain ⟨x, g1⟩ := p
    rw [q] at e1
    cases x with
    | no => cases e1
    | v d0 =>
      cases e1
      exact ⟨F, g, _, g1, r, q, fun v F' H' hp _ r' t m => by
        obtain ⟨y, e2, hp⟩ := hp
        cases e2
        exact k v F' H' (.inl hp) r' t m⟩
    | own tg ds =>
      cases e1
      refine ⟨F, g, _, g1, r, q, fun v F' H' hp hn r' t m => ?_⟩
      obtain ⟨a, xs, e2, fa, ha, hp, _⟩ := hp
      cases e2
      exact k _ F' H' (.inr ⟨ds, a, xs, rfl, rfl, ha, hp⟩) r' t m

/-! ### two operands -/
def BinOk (K : PySem.W.Frag) (r : R2) (op : D → D → Option D) : Prop := ∀ (x y : V) (d1 d2 d : D) (F H : Hp) (Q : VK), Same F H → Dp K F x d1 → Dp K F y d2 → op d1 d2 = some d →
  (∀ v F' H', Dp K F' v d → Same F' H' → Stp Non F H F' H' → Q v H') → r x y H Q
def eBin (op : D → D → Option D) (fa fb : Fe) : Fe := fun g => (fa g).bind fun p => (fb p.2).bind fun q => (op p.1 q.1).map fun d => (d, q.2)
theorem eBin_inv {op : D → D → Option D} {fa fb : Fe} {g g' : G} {d : D} (h : eBin op fa fb g = some (d, g')) : ∃ d1 g1 d2, fa g = some (d1, g1) ∧ fb g1 = some (d2, g') ∧ op d1 d2 = some d := by
  unfold eBin at h
  cases q : fa g with
  | none => rw [q] at h; cases h
  | some p =>
    rw [q] at h
    cases q2 : fb p.2 with
    | none =>
      have h : (fb p.2).bind _ = some (d, g') := h
      rw [q2] at h; cases h
    | some p2 =>
      have h : (fb p.2).bind _ = some (d, g') := h
      rw [q2] at h
      have h : (op p.1 p2.1).map _ = some (d, g') := h
      cases q3 : op p.1 p2.1 with
      | none => rw [q3] at h; cases h
      | some d3 =>
        rw [q3] at h; cases h
        exact ⟨p.1, p.2, p2.1, rfl, q2, q3⟩
theorem tD_bin {K : PySem.W.Frag} {op : D → D → Option D} {fa fb : Fe} {r : R2} (hr : BinOk K r op) {s : Sg} {H : Hp} {Q : VK} (h : tD K (eBin op fa fb) s H Q) : tOp r (tD K fa) (tD K fb) s H Q := by
  obtain ⟨F, g, d, g', rp, e, k⟩ := h
  obtain ⟨d1, g1, d2, e1, e2, e3⟩ := eBin_inv e
  refine ⟨F, g, d1, g1, rp, e1, fun v1 F1 H1 p1 r1 t1 m1 => ⟨F1, g1, d2, g', r1, e2, fun v2 F2 H2 p2 r2 t2 m2 => ?_⟩⟩
  exact hr v1 v2 d1 d2 d F2 H2 Q r2.fh (dpMono t2.fs _ _ p1) p2 e3 fun v F3 H3 p3 fh t3 => k v F3 H3 p3 (r2.stepN t3 fh) ((t1.two m1 t2).andN t3) (m1.trans m2)
theorem de_op {a b : Expr} {pos : Pos} {o : Operator} {r : R2} {op : D → D → Option D} {fa fb : Fe} (ho : OpR X (binaryOp o) r) (hr : BinOk X.K r op) (ha : DE X a fa) (hb : DE X b fb) : DE X (.BinOp a o b pos) (eBin op fa fb) :=
  peMono (pe_op ho ha hb) fun _ _ _ h => tD_bin hr h
theorem de_cmp {a b : Expr} {pos : Pos} {o : CmpOp} {r : R2} {op : D → D → Option D} {fa fb : Fe} (ho : OpR X (compareOp o) r) (hr : BinOk X.K r op) (hm : behindInMarks o b = false) (ha : DE X a fa) (hb : DE X b fb) : DE X (.Compare a [o] [b] pos) (eBin op fa fb) :=
  peMono (pe_cmpR ho ha hb hm) fun _ _ _ h => tD_bin hr h
theorem BinOk.or {K : PySem.W.Frag} {r r' : R2} {op op' : D → D → Option D} (h : BinOk K r op) (h' : BinOk K r' op') : BinOk K (fun x y H Q => r x y H Q ∨ r' x y H Q) (fun a b => (op a b).or (op' a b)) := by
  intro x y d1 d2 d F H Q fh p1 p2 e k
  cases q : op d1 d2 with
  | none =>
    have e : (op d1 d2).or _ = _ := e
    rw [q] at e
    exact .inr (h' x y d1 d2 d F H Q fh p1 p2 e k)
  | some d' =>
    have e : (op d1 d2).or _ = _ := e
    rw [q] at e; cases e
    exact .inl (h x y d1 d2 _ F H Q fh p1 p2 q k)

/-- the answer is no new object -/
theorem fin0 {K : PySem.W.Frag} {F H : Hp} {v : V} {d : D} {Q : VK} (fh : Same F H) (hd : Dp K F v d) (k : ∀ v F' H', Dp K F' v d → Same F' H' → Stp Non F H F' H' → Q v H') : Q v H := k v F H hd fh Stp.refl

end Dl
set_option Elab.async false
set_option linter.all false
set_option maxRecDepth 100000
namespace Dl
open PySem PySem.Spec PyProof.Rows L2
variable {X : Cx}

/-! ### arithmetic -/
def addD : D → D → Option D
  | .int i, .int j => some (.int (i + j))
  | _, _ => none
def subD : D → D → Option D
  | .int i, .int j => some (.int (i - j))
  | _, _ => none
/-- the sizes that a product and a quotient are served for -/
def MulOk (i j : Int) : Bool := decide (i.natAbs.log2 + j.natAbs.log2 < 1000000) || decide (i.natAbs < 2 ^ 64) || decide (j.natAbs < 2 ^ 64)
def mulD : D → D → Option D
  | .int i, .int j => if MulOk i j = true then some (.int (i * j)) else none
  | _, _ => none
def DivOk (j : Int) : Bool := decide (j ≠ 0) && decide (j.natAbs.log2 < 9000)
def fdivD : D → D → Option D
  | .int i, .int j => if DivOk j = true then some (.int (i.fdiv j)) else none
  | _, _ => none
def modD : D → D → Option D
  | .int i, .int j => if j = 0 then none else some (.int (i.fmod j))
  | _, _ => none
theorem intOf {K : PySem.W.Frag} {F : Hp} {v : V} {i : Int} (h : Dp K F v (.int i)) : v = .int i := by cases h; rfl
theorem ok_add : BinOk X.K (rI0 fun i j => .int (i + j)) addD := fun x y d1 d2 d F H Q fh p1 p2 e k => by
  unfold addD at e
  split at e
  · cases e
    rename_i i j
    exact ⟨i, j, intOf p1, intOf p2, fin0 fh (.int _) k⟩
  · cases e
theorem ok_sub : BinOk X.K (rI0 fun i j => .int (i - j)) subD := fun x y d1 d2 d F H Q fh p1 p2 e k => by
  unfold subD at e
  split at e
  · cases e
    rename_i i j
    exact ⟨i, j, intOf p1, intOf p2, fin0 fh (.int _) k⟩
  · cases e
theorem op_mulX : OpR X (binaryOp .Mult) (rI (fun i j => CMulW i j ∨ CMul i j) fun i j => .int (i * j)) := by
  intro pins s σ H x y v u Q I rx ry h
  obtain ⟨i, j, e1, e2, c, q⟩ := h
  rcases c with c | c
  · exact op_mulW pins s σ H x y v u Q I rx ry ⟨i, j, e1, e2, c, q⟩
  · exact op_mul pins s σ H x y v u Q I rx ry ⟨i, j, e1, e2, c, q⟩
theorem ok_mul : BinOk X.K (rI (fun i j => CMulW i j ∨ CMul i j) fun i j => .int (i * j)) mulD := fun x y d1 d2 d F H Q fh p1 p2 e k => by
  unfold mulD at e
  split at e
  · rename_i i j
    split at e
    · rename_i hc
      cases e
      refine ⟨i, j, intOf p1, intOf p2, ?_, fin0 fh (.int _) k⟩
      unfold MulOk at hc
      simp only [Bool.or_eq_true, decide_eq_true_eq] at hc
      rcases hc with (hc | hc) | hc
      · exact .inl hc
      · exact .inr (.inl ⟨by omega, by omega⟩)
      · exact .inr (.inr ⟨by omega, by omega⟩)
    · cases e
  · cases e
theorem op_fdivX : OpR X (binaryOp .FloorDiv) (rI (fun _ j => j ≠ 0 ∧ j.natAbs.log2 < 9000) fun i j => .int (i.fdiv j)) := opI fun i j _ _ _ _ _ hc q => floordiv_int hc.1 q (.inl (PyProof.noPylong_of_log2 hc.2))
theorem ok_fdiv : BinOk X.K (rI (fun _ j => j ≠ 0 ∧ j.natAbs.log2 < 9000) fun i j => .int (i.fdiv j)) fdivD := fun x y d1 d2 d F H Q fh p1 p2 e k => by
  unfold fdivD at e
  split at e
  · rename_i i j
    split at e
    · rename_i hc
      cases e
      unfold DivOk at hc
      simp only [Bool.and_eq_true, decide_eq_true_eq] at hc
      exact ⟨i, j, intOf p1, intOf p2, hc, fin0 fh (.int _) k⟩
    · cases e
  · cases e
theorem ok_mod : BinOk X.K (rI (fun _ j => j ≠ 0) fun i j => .int (i.fmod j)) modD := fun x y d1 d2 d F H Q fh p1 p2 e k => by
  unfold modD at e
  split at e
  · rename_i i j
    split at e
    · cases e
    · rename_i hc
      cases e
      exact ⟨i, j, intOf p1, intOf p2, hc, fin0 fh (.int _) k⟩
  · cases e
def powD : D → D → Option D
  | .int i, .int j => if 0 ≤ j ∧ j ≤ 1000000 ∧ i.natAbs < 2 ^ 64 then some (.int (i ^ j.toNat)) else none
  | _, _ => none
theorem ok_pow : BinOk X.K (rI CPow fun i j => .int (i ^ j.toNat)) powD := fun x y d1 d2 d F H Q fh p1 p2 e k => by
  unfold powD at e
  split at e
  · rename_i i j
    split at e
    · rename_i hc
      cases e
      exact ⟨i, j, intOf p1, intOf p2, hc, fin0 fh (.int _) k⟩
    · cases e
  · cases e
section
variable {a b : Expr} {pos : Pos} {fa fb : Fe}
theorem de_add (ha : DE X a fa) (hb : DE X b fb) : DE X (.BinOp a .Add b pos) (eBin addD fa fb) := de_op op_add ok_add ha hb
theorem de_sub (ha : DE X a fa) (hb : DE X b fb) : DE X (.BinOp a .Sub b pos) (eBin subD fa fb) := de_op op_sub ok_sub ha hb
theorem de_mul (ha : DE X a fa) (hb : DE X b fb) : DE X (.BinOp a .Mult b pos) (eBin mulD fa fb) := de_op op_mulX ok_mul ha hb
theorem de_fdiv (ha : DE X a fa) (hb : DE X b fb) : DE X (.BinOp a .FloorDiv b pos) (eBin fdivD fa fb) := de_op op_fdivX ok_fdiv ha hb
theorem de_mod (ha : DE X a fa) (hb : DE X b fb) : DE X (.BinOp a .Mod b pos) (eBin modD fa fb) := de_op op_modN ok_mod ha hb
theorem de_pow (ha : DE X a fa) (hb : DE X b fb) : DE X (.BinOp a .Pow b pos) (eBin powD fa fb) := de_op op_pow ok_pow ha hb
end
def eUn (op : D → Option D) (fa : Fe) : Fe := fun g => (fa g).bind fun p => (op p.1).map fun d => (d, p.2)
theorem eUn_inv {op : D → Option D} {fa : Fe} {g g' : G} {d : D} (h : eUn op fa g = some (d, g')) : ∃ d1, fa g = some (d1, g') ∧ op d1 = some d := by
  unfold eUn at h
  cases q : fa g with
  | none => rw [q] at h; cases h
  | some p =>
    rw [q] at h
    have h : (op p.1).map _ = some (d, g') := h
    cases q2 : op p.1 with
    | none => rw [q2] at h; cases h
    | some d2 =>
      rw [q2] at h; cases h
      exact ⟨p.1, rfl, q2⟩
def negD : D → Option D
  | .int i => some (.int (-i))
  | _ => none
theorem de_neg {a : Expr} {pos : Pos} {fa : Fe} (ha : DE X a fa) : DE X (.UnaryOp .USub a pos) (eUn negD fa) := peMono (pe_un un_neg ha) fun s H Q h => by
  obtain ⟨F, g, d, g', rp, e, k⟩ := h
  obtain ⟨d1, e1, e2⟩ := eUn_inv e
  refine ⟨F, g, d1, g', rp, e1, fun v1 F1 H1 p1 r1 t1 m1 => ?_⟩
  unfold negD at e2
  split at e2
  · cases e2
    rename_i i
    exact ⟨i, intOf p1, k _ F1 H1 (.int _) r1 t1 m1⟩
  · cases e2

/-! ### comparisons -/
def cmpD (p : Int → Int → Bool) : D → D → Option D
  | .int i, .int j => some (.bool (p i j))
  | _, _ => none
theorem ok_cmp {p : Int → Int → Bool} : BinOk X.K (rI0 fun i j => .bl (p i j)) (cmpD p) := fun x y d1 d2 d F H Q fh p1 p2 e k => by
  unfold cmpD at e
  split at e
  · cases e
    rename_i i j
    exact ⟨i, j, intOf p1, intOf p2, fin0 fh (.bl _) k⟩
  · cases e
abbrev ltD := cmpD fun i j => decide (i < j)
abbrev leD := cmpD fun i j => decide (i ≤ j)
abbrev gtD := cmpD fun i j => decide (j < i)
abbrev geD := cmpD fun i j => decide (j ≤ i)
def eqD : D → D → Option D := fun d e => match d, e with
  | .str x, .str y => some (.bool (decide (x = y)))
  | d, e => if SeqAt.shaped d = true ∧ SeqAt.shaped e = true then some (.bool (PyData.eqv d e)) else none
def neD : D → D → Option D := fun d e => match d, e with
  | .str x, .str y => some (.bool (!decide (x = y)))
  | d, e => if SeqAt.shaped d = true ∧ SeqAt.shaped e = true then some (.bool (!PyData.eqv d e)) else none
def rEqX (K : PySem.W.Frag) : R2 := fun x y H Q => rEq x y H Q ∨ rEqD K x y H Q
def rNeX (K : PySem.W.Frag) : R2 := fun x y H Q => rNe x y H Q ∨ rNeD K x y H Q
theorem op_eqX (hu : X.A.units + 64 < cLine) : OpR X (compareOp .Eq) (rEqX X.K) := op_eq.or (op_eqD hu)
theorem op_neX (hu : X.A.units + 64 < cLine) : OpR X (compareOp .NotEq) (rNeX X.K) := op_ne.or (op_neD hu)
theorem decStr {x y : Str} : decide (V.str x = V.str y) = decide (x = y) := by
  by_cases h : x = y
  · subst h; simp
  · simp [h]
theorem ok_eq : BinOk X.K (rEqX X.K) eqD := fun x y d1 d2 d F H Q fh p1 p2 e k => by
  unfold eqD at e
  split at e
  · cases e
    cases p1; cases p2
    refine .inl ⟨rfl, ?_⟩
    rw [decStr]
    exact fin0 fh (.bl _) k
  · split at e
    · rename_i h
      cases e
      exact .inr ⟨d1, d2, (dpMono fh _ _ p1).hand _ _ (shaped_lay h.1), (dpMono fh _ _ p2).hand _ _ (shaped_lay h.2), h.1, h.2, fin0 fh (.bl _) k⟩
    · cases e
theorem ok_ne : BinOk X.K (rNeX X.K) neD := fun x y d1 d2 d F H Q fh p1 p2 e k => by
  unfold neD at e
  split at e
  · cases e
    cases p1; cases p2
    refine .inl ⟨rfl, ?_⟩
    rw [decStr]
    exact fin0 fh (.bl _) k
  · split at e
    · rename_i h
      cases e
      exact .inr ⟨d1, d2, (dpMono fh _ _ p1).hand _ _ (shaped_lay h.1), (dpMono fh _ _ p2).hand _ _ (shaped_lay h.2), h.1, h.2, fin0 fh (.bl _) k⟩
    · cases e
def isND : D → D → Option D
  | .none, .none => some (.bool true)
  | _, .none => some (.bool false)
  | _, _ => none
def notND : D → D → Option D
  | .none, .none => some (.bool false)
  | _, .none => some (.bool true)
  | _, _ => none
theorem dpNone {K : PySem.W.Frag} {F : Hp} {v : V} {d : D} (h : Dp K F v d) (hd : d ≠ .none) : decide (v = .non) = false := by
  cases h <;> first | rfl | exact absurd rfl hd
theorem ok_isN : BinOk X.K (fun x y H Q => y = .non ∧ Q (.bl (decide (x = .non))) H) isND := fun x y d1 d2 d F H Q fh p1 p2 e k => by
  unfold isND at e
  split at e
  · cases e
    cases p1; cases p2
    exact ⟨rfl, fin0 fh (.bl _) k⟩
  · rename_i hn
    cases e
    cases p2
    rw [dpNone p1 hn]
    exact ⟨rfl, fin0 fh (.bl _) k⟩
  · cases e
theorem ok_notN : BinOk X.K (fun x y H Q => y = .non ∧ Q (.bl (!decide (x = .non))) H) notND := fun x y d1 d2 d F H Q fh p1 p2 e k => by
  unfold notND at e
  split at e
  · cases e
    cases p1; cases p2
    exact ⟨rfl, fin0 fh (.bl _) k⟩
  · rename_i hn
    cases e
    cases p2
    rw [dpNone p1 hn]
    exact ⟨rfl, fin0 fh (.bl _) k⟩
  · cases e
section
variable {a b c : Expr} {pos : Pos} {fa fb fc : Fe}
theorem de_lt (ha : DE X a fa) (hb : DE X b fb) : DE X (.Compare a [.Lt] [b] pos) (eBin ltD fa fb) := de_cmp op_lt ok_cmp (nomark _) ha hb
theorem de_le (ha : DE X a fa) (hb : DE X b fb) : DE X (.Compare a [.LtE] [b] pos) (eBin leD fa fb) := de_cmp op_le ok_cmp (nomark _) ha hb
theorem de_gt (ha : DE X a fa) (hb : DE X b fb) : DE X (.Compare a [.Gt] [b] pos) (eBin gtD fa fb) := de_cmp op_gt ok_cmp (nomark _) ha hb
theorem de_ge (ha : DE X a fa) (hb : DE X b fb) : DE X (.Compare a [.GtE] [b] pos) (eBin geD fa fb) := de_cmp op_ge ok_cmp (nomark _) ha hb
theorem de_eq (hu : X.A.units + 64 < cLine) (ha : DE X a fa) (hb : DE X b fb) : DE X (.Compare a [.Eq] [b] pos) (eBin eqD fa fb) := de_cmp (op_eqX hu) ok_eq (nomark _) ha hb
theorem de_ne (hu : X.A.units + 64 < cLine) (ha : DE X a fa) (hb : DE X b fb) : DE X (.Compare a [.NotEq] [b] pos) (eBin neD fa fb) := de_cmp (op_neX hu) ok_ne (nomark _) ha hb
theorem de_isN (ha : DE X a fa) (hb : DE X b fb) : DE X (.Compare a [.Is] [b] pos) (eBin isND fa fb) := de_cmp op_isN ok_isN (nomark _) ha hb
theorem de_notN (ha : DE X a fa) (hb : DE X b fb) : DE X (.Compare a [.IsNot] [b] pos) (eBin notND fa fb) := de_cmp op_notN ok_notN (nomark _) ha hb

/-- a <= b <= c -/
def eChain (op op' : D → D → Option D) (fa fb fc : Fe) : Fe := fun g => (fa g).bind fun p => (fb p.2).bind fun q => match op p.1 q.1 with
  | some (.bool true) => (fc q.2).bind fun w => (op' q.1 w.1).map fun d => (d, w.2)
  | some (.bool false) => some (.bool false, q.2)
  | _ => none
theorem tD_chain {K : PySem.W.Frag} {r r' : R2} {o o' : D → D → Option D} (hr : BinOk K r o) (hr' : BinOk K r' o') {s : Sg} {H : Hp} {Q : VK} (h : tD K (eChain o o' fa fb fc) s H Q) : tChain r r' (tD K fa) (tD K fb) (tD K fc) s H Q := by
  obtain ⟨F, g, d, g', rp, e, k⟩ := h
  unfold eChain at e
  cases q1 : fa g with
  | none => rw [q1] at e; cases e
  | some p =>
    rw [q1] at e
    have e : (fb p.2).bind _ = some (d, g') := e
    cases q2 : fb p.2 with
    | none => rw [q2] at e; cases e
    | some p2 =>
      rw [q2] at e
      refine ⟨F, g, p.1, p.2, rp, q1, fun v1 F1 H1 h1 r1 t1 m1 => ⟨F1, p.2, p2.1, p2.2, r1, q2, fun v2 F2 H2 h2 r2 t2 m2 => ?_⟩⟩
      simp only [Option.bind_some] at e
      split at e
      · rename_i q3
        refine hr v1 v2 p.1 p2.1 _ F2 H2 _ r2.fh (dpMono t2.fs _ _ h1) h2 q3 fun v F3 H3 hv fh t3 => ?_
        cases hv
        refine ⟨true, rfl, ?_⟩
        rw [if_pos rfl]
        have r3 := r2.stepN t3 fh
        cases q4 : fc p2.2 with
        | none => rw [q4] at e; cases e
        | some p4 =>
          rw [q4] at e
          have e : (o' p2.1 p4.1).map _ = some (d, g') := e
          cases q5 : o' p2.1 p4.1 with
          | none => rw [q5] at e; cases e
          | some d5 =>
            rw [q5] at e
            cases e
            refine ⟨F3, p2.2, p4.1, p4.2, r3, q4, fun v4 F4 H4 h4 r4 t4 m4 => ?_⟩
            refine hr' v2 v4 p2.1 p4.1 _ F4 H4 _ r4.fh (dpMono (t3.fs.trans t4.fs) _ _ h2) h4 q5 fun v F5 H5 hv fh5 t5 => ?_
            exact k v F5 H5 hv (r4.stepN t5 fh5) ((((t1.two m1 t2).andN t3).two (m1.trans m2) t4).andN t5) ((m1.trans m2).trans m4)
      · rename_i q3
        cases e
        refine hr v1 v2 p.1 p2.1 _ F2 H2 _ r2.fh (dpMono t2.fs _ _ h1) h2 q3 fun v F3 H3 hv fh t3 => ?_
        cases hv
        refine ⟨false, rfl, ?_⟩
        rw [if_neg (by decide)]
        exact k _ F3 H3 (.bl false) (r2.stepN t3 fh) ((t1.two m1 t2).andN t3) (m1.trans m2)
      · cases e
theorem de_chain {op op' : CmpOp} {r r' : R2} {o o' : D → D → Option D} (ho : OpR X (compareOp op) r) (ho' : OpR X (compareOp op') r') (hr : BinOk X.K r o) (hr' : BinOk X.K r' o') (ha : DE X a fa) (hb : DE X b fb) (hc : DE X c fc)
    (hm : lastMarks [op, op'] [b, c] = false := by with_unfolding_all rfl) :
    DE X (.Compare a [op, op'] [b, c] pos) (eChain o o' fa fb fc) := peMono (pe_chain ho ho' ha hb hc hm) fun _ _ _ h => tD_chain hr hr' h
end

/-! ### truth -/
def truD : D → Option Bool
  | .none => some false
  | .bool b => some b
  | .int i => some (i != 0)
  | .str x => if x.length ≤ sizeLine then some ((x.length : Int) != 0) else none
  | .list ds => some (!ds.isEmpty)
  | .tuple ds => some (!ds.isEmpty)
  | .dict _ => none
theorem empty_of {K : PySem.W.Frag} {F : Hp} {xs : List V} {ds : List D} (h : DpAll K F xs ds) : xs.isEmpty = ds.isEmpty := by
  have := dpLen h
  cases xs <;> cases ds <;> simp_all
theorem truOf {K : PySem.W.Frag} {H : Hp} {v : V} {d : D} {b : Bool} (h : Dp K H v d) (e : truD d = some b) : TruV K v H b := by
  cases h with
  | non => cases e; rfl
  | bl b => cases e; rfl
  | int i => cases e; rfl
  | str x =>
    have e : (if x.length ≤ sizeLine then some ((x.length : Int) != 0) else none) = some b := e
    by_cases z : x.length ≤ sizeLine
    · rw [if_pos z] at e; cases e; exact ⟨z, rfl⟩
    · rw [if_neg z] at e; cases e
  | lst hs ha => cases e; exact .inl ⟨_, hs, by rw [empty_of ha]⟩
  | tup hs ha => cases e; exact .inr (.inl ⟨_, hs, by rw [empty_of ha]⟩)
  | dct q => cases e
/-- a value as a test -/
def tOf (f : Fe) : Ft := fun g => (f g).bind fun p => (truD p.1).map fun b => (b, p.2)
theorem tOf_inv {f : Fe} {g g' : G} {b : Bool} (h : tOf f g = some (b, g')) : ∃ d, f g = some (d, g') ∧ truD d = some b := by
  unfold tOf at h
  cases q : f g with
  | none => rw [q] at h; cases h
  | some p =>
    rw [q] at h
    have h : (truD p.1).map _ = some (b, g') := h
    cases q2 : truD p.1 with
    | none => rw [q2] at h; cases h
    | some d2 =>
      rw [q2] at h; cases h
      exact ⟨p.1, rfl, q2⟩
theorem dt_of {e : Expr} {f : Fe} (h : DB X e f) (he : ∀ whole, isTrue e X.env whole = (do let v ← whole; standAt e.pos; holding [v] (truthy v)) := by intro _; rfl) : DT X e (tOf f) := ptMono (pt_truth h he) fun s H Q h => by
  obtain ⟨F, g, b, g', rp, e, k⟩ := h
  obtain ⟨d, e1, e2⟩ := tOf_inv e
  exact ⟨F, g, d, g', rp, e1, fun v1 F1 H1 p1 r1 t1 m1 => ⟨b, truOf (p1.dp r1.fh) e2, k F1 H1 r1 t1 m1⟩⟩
/-- what gives flags alone -/
def IsB (f : Fe) : Prop := ∀ g d g', f g = some (d, g') → ∃ b, d = .bool b
def IsBo (op : D → D → Option D) : Prop := ∀ d1 d2 d, op d1 d2 = some d → ∃ b, d = .bool b
theorem isb_cmp {p} : IsBo (cmpD p) := fun d1 d2 d e => by
  unfold cmpD at e
  split at e
  · cases e; exact ⟨_, rfl⟩
  · cases e
theorem isb_eq : IsBo eqD := fun d1 d2 d e => by
  unfold eqD at e
  split at e
  · cases e; exact ⟨_, rfl⟩
  · split at e
    · cases e; exact ⟨_, rfl⟩
    · cases e
theorem isb_ne : IsBo neD := fun d1 d2 d e => by
  unfold neD at e
  split at e
  · cases e; exact ⟨_, rfl⟩
  · split at e
    · cases e; exact ⟨_, rfl⟩
    · cases e
theorem isb_isN : IsBo isND := fun d1 d2 d e => by
  unfold isND at e
  split at e <;> cases e <;> exact ⟨_, rfl⟩
theorem isb_notN : IsBo notND := fun d1 d2 d e => by
  unfold notND at e
  split at e <;> cases e <;> exact ⟨_, rfl⟩
theorem isb_bin {op : D → D → Option D} {fa fb : Fe} (h : IsBo op) : IsB (eBin op fa fb) := fun g d g' e => by
  obtain ⟨d1, g1, d2, _, _, e3⟩ := eBin_inv e
  exact h d1 d2 d e3
theorem isb_chain {op op' : D → D → Option D} {fa fb fc : Fe} (h : IsBo op') : IsB (eChain op op' fa fb fc) := fun g d g' e => by
  unfold eChain at e
  cases q1 : fa g with
  | none => rw [q1] at e; cases e
  | some p =>
    rw [q1] at e
    have e : (fb p.2).bind _ = some (d, g') := e
    cases q2 : fb p.2 with
    | none => rw [q2] at e; cases e
    | some p2 =>
      rw [q2] at e
      simp only [Option.bind_some] at e
      split at e
      · cases q4 : fc p2.2 with
        | none => rw [q4] at e; cases e
        | some p4 =>
          rw [q4] at e
          have e : (op' p2.1 p4.1).map _ = some (d, g') := e
          cases q5 : op' p2.1 p4.1 with
          | none => rw [q5] at e; cases e
          | some d5 =>
            rw [q5] at e
            cases e
            exact h _ _ _ q5
      · cases e; exact ⟨_, rfl⟩
      · cases e
theorem dt_test {e : Expr} {t : TE} {f : Fe} (h : PT X e (tTest t)) (m : ∀ s H Q, tD X.K f s H Q → t s H Q) (hb : IsB f) : DT X e (tOf f) := ptMono h fun s H Q h => by
  obtain ⟨F, g, b, g', rp, e, k⟩ := h
  obtain ⟨d, e1, e2⟩ := tOf_inv e
  refine m s H _ ⟨F, g, d, g', rp, e1, fun v1 F1 H1 p1 r1 t1 m1 => ?_⟩
  obtain ⟨c, ec⟩ := hb g d g' e1
  subst ec
  cases e2
  cases p1
  exact ⟨_, rfl, k F1 H1 r1 t1 m1⟩
theorem dt_cmp {a b : Expr} {pos : Pos} {o : CmpOp} {r : R2} {op : D → D → Option D} {fa fb : Fe} (ho : OpR X (compareOp o) r) (hr : BinOk X.K r op) (hi : IsBo op) (hm : behindInMarks o b = false) (ha : DE X a fa) (hb : DE X b fb) : DT X (.Compare a [o] [b] pos) (tOf (eBin op fa fb)) :=
  dt_test (pt_cmpR ho ha hb hm) (fun _ _ _ h => tD_bin hr h) (isb_bin hi)
theorem dt_chain {a b c : Expr} {pos : Pos} {fa fb fc : Fe} {op op' : CmpOp} {r r' : R2} {o o' : D → D → Option D} (ho : OpR X (compareOp op) r) (ho' : OpR X (compareOp op') r') (hr : BinOk X.K r o) (hr' : BinOk X.K r' o') (hi : IsBo o') (ha : DE X a fa) (hb : DE X b fb) (hc : DE X c fc)
    (hm : lastMarks [op, op'] [b, c] = false := by with_unfolding_all rfl) :
    DT X (.Compare a [op, op'] [b, c] pos) (tOf (eChain o o' fa fb fc)) := dt_test (pt_chain ho ho' ha hb hc hm) (fun _ _ _ h => tD_chain hr hr' h) (isb_chain hi)
section
variable {a b c : Expr} {pos : Pos} {fa fb fc : Fe}
theorem dt_lt (ha : DE X a fa) (hb : DE X b fb) : DT X (.Compare a [.Lt] [b] pos) (tOf (eBin ltD fa fb)) := dt_cmp op_lt ok_cmp isb_cmp (nomark _) ha hb
theorem dt_le (ha : DE X a fa) (hb : DE X b fb) : DT X (.Compare a [.LtE] [b] pos) (tOf (eBin leD fa fb)) := dt_cmp op_le ok_cmp isb_cmp (nomark _) ha hb
theorem dt_gt (ha : DE X a fa) (hb : DE X b fb) : DT X (.Compare a [.Gt] [b] pos) (tOf (eBin gtD fa fb)) := dt_cmp op_gt ok_cmp isb_cmp (nomark _) ha hb
theorem dt_ge (ha : DE X a fa) (hb : DE X b fb) : DT X (.Compare a [.GtE] [b] pos) (tOf (eBin geD fa fb)) := dt_cmp op_ge ok_cmp isb_cmp (nomark _) ha hb
theorem dt_eq (hu : X.A.units + 64 < cLine) (ha : DE X a fa) (hb : DE X b fb) : DT X (.Compare a [.Eq] [b] pos) (tOf (eBin eqD fa fb)) := dt_cmp (op_eqX hu) ok_eq isb_eq (nomark _) ha hb
theorem dt_ne (hu : X.A.units + 64 < cLine) (ha : DE X a fa) (hb : DE X b fb) : DT X (.Compare a [.NotEq] [b] pos) (tOf (eBin neD fa fb)) := dt_cmp (op_neX hu) ok_ne isb_ne (nomark _) ha hb
theorem dt_isN (ha : DE X a fa) (hb : DE X b fb) : DT X (.Compare a [.Is] [b] pos) (tOf (eBin isND fa fb)) := dt_cmp op_isN ok_isN isb_isN (nomark _) ha hb
theorem dt_notN (ha : DE X a fa) (hb : DE X b fb) : DT X (.Compare a [.IsNot] [b] pos) (tOf (eBin notND fa fb)) := dt_cmp op_notN ok_notN isb_notN (nomark _) ha hb
end

/-! ### and, or, not: tests -/
def tAndT (f h : Ft) : Ft := fun g => (f g).bind fun p => if p.1 = true then h p.2 else some (false, p.2)
def tOrT (f h : Ft) : Ft := fun g => (f g).bind fun p => if p.1 = true then some (true, p.2) else h p.2
def tNotT (f : Ft) : Ft := fun g => (f g).map fun p => (!p.1, p.2)
theorem dt_not {a : Expr} {pos : Pos} {f : Ft} (h : DT X a f) : DT X (.UnaryOp .Not a pos) (tNotT f) := ptMono (pt_not h) fun s H Q ⟨F, g, b, g', rp, e, k⟩ => by
  unfold tNotT at e
  cases q : f g with
  | none => rw [q] at e; cases e
  | some p =>
    rw [q] at e; cases e
    exact ⟨F, g, p.1, p.2, rp, q, fun F1 H1 r1 t1 m1 => k F1 H1 r1 t1 m1⟩
theorem dw_and1 {a : Expr} {pos : Pos} {f : Ft} (h : DT X a f) : DW X (.BoolOp .And [a] pos) f := pw_and1 h
theorem dw_or1 {a : Expr} {pos : Pos} {f : Ft} (h : DT X a f) : DW X (.BoolOp .Or [a] pos) f := pw_or1 h
theorem dw_and {a b : Expr} {rest : List Expr} {pos : Pos} {f h : Ft} (ha : DT X a f) (hb : DW X (.BoolOp .And (b :: rest) pos) h) : DW X (.BoolOp .And (a :: b :: rest) pos) (tAndT f h) := pwMono (pw_and ha hb) fun s H Q ⟨F, g, b, g', rp, e, k⟩ => by
  unfold tAndT at e
  cases q : f g with
  | none => rw [q] at e; cases e
  | some p =>
    obtain ⟨c, g1⟩ := p
    rw [q] at e
    refine ⟨F, g, c, g1, rp, q, fun F1 H1 r1 t1 m1 => ?_⟩
    have e : (if c = true then h g1 else some (false, g1)) = some (b, g') := e
    cases c with
    | true =>
      rw [if_pos rfl] at e
      refine iteT ?_
      exact ⟨F1, g1, b, g', r1, e, fun F2 H2 r2 t2 m2 => k F2 H2 r2 (t1.two m1 t2) (m1.trans m2)⟩
    | false =>
      rw [if_neg (by decide)] at e
      refine iteF ?_
      cases e
      exact k F1 H1 r1 t1 m1
theorem dw_or {a b : Expr} {rest : List Expr} {pos : Pos} {f h : Ft} (ha : DT X a f) (hb : DW X (.BoolOp .Or (b :: rest) pos) h) : DW X (.BoolOp .Or (a :: b :: rest) pos) (tOrT f h) := pwMono (pw_or ha hb) fun s H Q ⟨F, g, b, g', rp, e, k⟩ => by
  unfold tOrT at e
  cases q : f g with
  | none => rw [q] at e; cases e
  | some p =>
    obtain ⟨c, g1⟩ := p
    rw [q] at e
    refine ⟨F, g, c, g1, rp, q, fun F1 H1 r1 t1 m1 => ?_⟩
    have e : (if c = true then some (true, g1) else h g1) = some (b, g') := e
    cases c with
    | true =>
      rw [if_pos rfl] at e
      refine iteT ?_
      cases e
      exact k F1 H1 r1 t1 m1
    | false =>
      rw [if_neg (by decide)] at e
      refine iteF ?_
      exact ⟨F1, g1, b, g', r1, e, fun F2 H2 r2 t2 m2 => k F2 H2 r2 (t1.two m1 t2) (m1.trans m2)⟩
theorem dt_w {a : Expr} {f : Ft} (h : DW X a f) : DT X a f := h.pt

/-! ### and, or, not, if: values -/
def eAnd (f h : Fe) : Fe := fun g => (f g).bind fun p => match truD p.1 with
  | some true => h p.2
  | some false => some p
  | none => none
def eOr (f h : Fe) : Fe := fun g => (f g).bind fun p => match truD p.1 with
  | some true => some p
  | some false => h p.2
  | none => none
def notD (d : D) : Option D := (truD d).map fun b => .bool !b
theorem de_one {a : Expr} {op} {pos : Pos} {f : Fe} (h : DE X a f) : DE X (.BoolOp op [a] pos) f := pe_one h
theorem de_and {a b : Expr} {rest : List Expr} {pos : Pos} {f h : Fe} (ha : DE X a f) (hb : DE X (.BoolOp .And (b :: rest) pos) h) : DE X (.BoolOp .And (a :: b :: rest) pos) (eAnd f h) := peMono (pe_andT ha hb) fun s H Q ⟨F, g, d, g', rp, e, k⟩ => by
  unfold eAnd at e
  cases q : f g with
  | none => rw [q] at e; cases e
  | some p =>
    rw [q] at e
    refine ⟨F, g, p.1, p.2, rp, q, fun v F1 H1 p1 r1 t1 m1 => ?_⟩
    simp only [Option.bind_some] at e
    split at e
    · rename_i q2
      refine ⟨true, truOf (dpMono r1.fh _ _ p1) q2, ?_⟩
      rw [if_pos rfl]
      exact ⟨F1, p.2, d, g', r1, e, fun v2 F2 H2 p2 r2 t2 m2 => k v2 F2 H2 p2 r2 (t1.two m1 t2) (m1.trans m2)⟩
    · rename_i q2
      cases e
      refine ⟨false, truOf (dpMono r1.fh _ _ p1) q2, ?_⟩
      rw [if_neg (by decide)]
      exact k v F1 H1 p1 r1 t1 m1
    · cases e
theorem de_or {a b : Expr} {rest : List Expr} {pos : Pos} {f h : Fe} (ha : DE X a f) (hb : DE X (.BoolOp .Or (b :: rest) pos) h) : DE X (.BoolOp .Or (a :: b :: rest) pos) (eOr f h) := peMono (pe_orT ha hb) fun s H Q ⟨F, g, d, g', rp, e, k⟩ => by
  unfold eOr at e
  cases q : f g with
  | none => rw [q] at e; cases e
  | some p =>
    rw [q] at e
    refine ⟨F, g, p.1, p.2, rp, q, fun v F1 H1 p1 r1 t1 m1 => ?_⟩
    simp only [Option.bind_some] at e
    split at e
    · rename_i q2
      cases e
      refine ⟨true, truOf (dpMono r1.fh _ _ p1) q2, ?_⟩
      rw [if_pos rfl]
      exact k v F1 H1 p1 r1 t1 m1
    · rename_i q2
      refine ⟨false, truOf (dpMono r1.fh _ _ p1) q2, ?_⟩
      rw [if_neg (by decide)]
      exact ⟨F1, p.2, d, g', r1, e, fun v2 F2 H2 p2 r2 t2 m2 => k v2 F2 H2 p2 r2 (t1.two m1 t2) (m1.trans m2)⟩
    · cases e
theorem de_not {a : Expr} {pos : Pos} {f : Fe} (ha : DB X a f) : DE X (.UnaryOp .Not a pos) (eUn notD f) := peMono (pe_notT ha) fun s H Q h => by
  obtain ⟨F, g, d, g', rp, e, k⟩ := h
  obtain ⟨d1, e1, e2⟩ := eUn_inv e
  refine ⟨F, g, d1, g', rp, e1, fun v1 F1 H1 p1 r1 t1 m1 => ?_⟩
  unfold notD at e2
  cases q : truD d1 with
  | none => rw [q] at e2; cases e2
  | some b =>
    rw [q] at e2; cases e2
    exact ⟨b, truOf (p1.dp r1.fh) q, k _ F1 H1 (.bl _) r1 t1 m1⟩
def eIf (t : Ft) (f h : Fe) : Fe := fun g => (t g).bind fun p => if p.1 = true then f p.2 else h p.2
theorem de_if {c a b : Expr} {pos : Pos} {t : Ft} {f h : Fe} (hc : DT X c t) (ha : DE X a f) (hb : DE X b h) : DE X (.IfExp c a b pos) (eIf t f h) := peMono (pe_ifExp hc ha hb) fun s H Q ⟨F, g, d, g', rp, e, k⟩ => by
  unfold eIf at e
  cases q : t g with
  | none => rw [q] at e; cases e
  | some p =>
    obtain ⟨c, g1⟩ := p
    rw [q] at e
    refine ⟨F, g, c, g1, rp, q, fun F1 H1 r1 t1 m1 => ?_⟩
    have e : (if c = true then f g1 else h g1) = some (d, g') := e
    cases c with
    | true =>
      rw [if_pos rfl] at e
      refine iteT ?_
      exact ⟨F1, g1, d, g', r1, e, fun v F2 H2 p2 r2 t2 m2 => k v F2 H2 p2 r2 (t1.two m1 t2) (m1.trans m2)⟩
    | false =>
      rw [if_neg (by decide)] at e
      refine iteF ?_
      exact ⟨F1, g1, d, g', r1, e, fun v F2 H2 p2 r2 t2 m2 => k v F2 H2 p2 r2 (t1.two m1 t2) (m1.trans m2)⟩
end Dl
set_option Elab.async false
set_option linter.all false
set_option maxRecDepth 100000
namespace Dl
open PySem PySem.Spec PyProof.Rows L2
variable {X : Cx}

/-! ### argument lists -/
def aNil : Fa := fun g => some ([], g)
def aCons (f : Fe) (fs : Fa) : Fa := fun g => (f g).bind fun p => (fs p.2).map fun q => (p.1 :: q.1, q.2)
theorem aCons_inv {f : Fe} {fs : Fa} {g g' : G} {ds : List D} (h : aCons f fs g = some (ds, g')) : ∃ d g1 es, f g = some (d, g1) ∧ fs g1 = some (es, g') ∧ ds = d :: es := by
  unfold aCons at h
  cases q : f g with
  | none => rw [q] at h; cases h
  | some p =>
    rw [q] at h
    have h : (fs p.2).map _ = some (ds, g') := h
    cases q2 : fs p.2 with
    | none => rw [q2] at h; cases h
    | some p2 =>
      rw [q2] at h; cases h
      exact ⟨p.1, p.2, p2.1, rfl, q2, rfl⟩
theorem da_nil : DA X [] aNil := paMono pa_nil fun s H Q ⟨F, g, ds, g', rp, e, k⟩ => by
  cases e
  exact k [] F H .nil rp Stp.refl Mo.refl
theorem da_cons {a : Expr} {es : List Expr} {f : Fe} {fs : Fa} (ha : DE X a f) (hr : DA X es fs) (hs : starEach (a :: es) X.env = (false, eval a X.env) :: starEach es X.env := by rfl) : DA X (a :: es) (aCons f fs) := paMono (pa_cons ha hr hs) fun s H Q ⟨F, g, ds, g', rp, e, k⟩ => by
  obtain ⟨d, g1, es', e1, e2, rfl⟩ := aCons_inv e
  exact ⟨F, g, d, g1, rp, e1, fun v F1 H1 p1 r1 t1 m1 => ⟨F1, g1, es', g', r1, e2, fun vs F2 H2 p2 r2 t2 m2 => k (v :: vs) F2 H2 (.cons (dpMono t2.fs _ _ p1) p2) r2 (t1.two m1 t2) (m1.trans m2)⟩⟩
def LenA (f : Fa) (n : Nat) : Prop := ∀ g ds g', f g = some (ds, g') → ds.length = n
theorem lenNil : LenA aNil 0 := fun g ds g' e => by cases e; rfl
theorem lenCons {f : Fe} {fs : Fa} {n : Nat} (h : LenA fs n) : LenA (aCons f fs) (n + 1) := fun g ds g' e => by
  obtain ⟨d, g1, es', e1, e2, rfl⟩ := aCons_inv e
  simp [h _ _ _ e2]

/-! ### displays -/
def eTup (f : Fa) : Fe := fun g => (f g).map fun p => (.tuple p.1, p.2)
theorem eTup_inv {f : Fa} {g g' : G} {d : D} (h : eTup f g = some (d, g')) : ∃ ds, f g = some (ds, g') ∧ d = .tuple ds := by
  unfold eTup at h
  cases q : f g with
  | none => rw [q] at h; cases h
  | some p => rw [q] at h; cases h; exact ⟨_, rfl, rfl⟩
theorem sl1000 {n : Nat} (h : n ≤ 1000) : n ≤ sizeLine := Nat.le_of_lt (small1000 h)
theorem dpUpd {K : PySem.W.Frag} {F : Hp} {p : Addr} {o : HO} {vs : List V} {ds : List D} (hp : DpAll K F vs ds) (np : F p = none) : DpAll K (upd F p o) vs ds := dpMonos (fun b u e => by rw [upd_ne (ne_of_none e np)]; exact e) _ _ hp
theorem nF {F H : Hp} {p : Addr} (fh : Same F H) (np : H p = none) : F p = none := fh.free np
/-- a new tuple -/
theorem newTup {K : PySem.W.Frag} {F H : Hp} {vs : List V} {ds : List D} {Q : VK} (fh : Same F H) (hp : DpAll K F vs ds) (k : ∀ v F' H', Dp K F' v (.tuple ds) → Same F' H' → Stp Non F H F' H' → Q v H') : ∀ p, H p = none → Q (.ref p) (upd H p (.tup vs)) := fun p np =>
  k (.ref p) (upd F p (.tup vs)) _ (.tup (SqT.of upd_same) (dpUpd hp (nF fh np))) (sameLaid fh np) (Stp.laid np fh)
theorem de_tup {es : List Expr} {k : Nat} {pos : Pos} {f : Fa} {n : Nat} (h : DA X es f) (hl : LenA f n) (hn : n ≤ 1000 := by decide) : DE X (.Tuple es k pos) (eTup f) := peMono (pe_tup h) fun s H Q ⟨F, g, d, g', rp, e, k⟩ => by
  obtain ⟨ds, e1, rfl⟩ := eTup_inv e
  refine ⟨F, g, ds, g', rp, e1, fun vs F1 H1 p1 r1 t1 m1 => ⟨by rw [dpLen p1, hl _ _ _ e1]; exact sl1000 hn, ?_⟩⟩
  exact newTup r1.fh p1 fun v F' H' hv fh st => k v F' H' hv (r1.stepN st fh) (t1.andN st) m1
/-- a list of the frame's own -/
def vLst (f : Fa) : Fv := fun g => (f g).map fun p => (.own none p.1, p.2)
theorem vLst_inv {f : Fa} {g g' : G} {x : Sl} (h : vLst f g = some (x, g')) : ∃ ds, f g = some (ds, g') ∧ x = .own none ds := by
  unfold vLst at h
  cases q : f g with
  | none => rw [q] at h; cases h
  | some p => rw [q] at h; cases h; exact ⟨_, rfl, rfl⟩
/-- a new list: k is what tV asks -/
theorem newLst {K : PySem.W.Frag} {F H F0 H0 : Hp} {g0 g : G} {s : Sg} {vs : List V} {ds : List D} {Q : VK} (r : Rep K F g s H) (hp : DpAll K F vs ds) (t0 : Stp (OwnAt g0 s) F0 H0 F H) (m : Mo g0 g)
    (k : ∀ v F' H', RepS K F' H' (.own none ds) (some v) → (∀ t es, (Sl.own none ds) = .own t es → t = none ∧ ∃ a, v = .ref a ∧ H0 a = none) → Rep K F' g s H' → Stp (OwnAt g0 s) F0 H0 F' H' → Mo g0 g → Q v H') : ∀ p, H p = none → Q (.ref p) (upd H p (.lst vs)) := fun p np => by
  refine k (.ref p) F _ ⟨p, vs, rfl, nF r.fh np, upd_same, hp, fun b e => nomatch e⟩ (fun t es e => ?_) (r.stepN (Stp.made np) (sameMade r.fh np)) (t0.andN (Stp.made np)) m
  cases e
  refine ⟨rfl, p, rfl, ?_⟩
  cases q : H0 p with
  | none => rfl
  | some o => exact absurd np (t0.dom p (by rw [q]; simp))
theorem dv_lst {es : List Expr} {pos : Pos} {f : Fa} {n : Nat} (h : DA X es f) (hl : LenA f n) (hn : n ≤ 1000 := by decide) : DV X (.List es pos) (vLst f) := peMono (pe_lst h) fun s H Q ⟨F, g, d, g', rp, e, k⟩ => by
  obtain ⟨ds, e1, rfl⟩ := vLst_inv e
  refine ⟨F, g, ds, g', rp, e1, fun vs F1 H1 p1 r1 t1 m1 => ⟨by rw [dpLen p1, hl _ _ _ e1]; exact sl1000 hn, ?_⟩⟩
  exact newLst r1 p1 t1 m1 k

/-! ### places -/
def atD : D → D → Option D
  | .list ds, .int i => atI ds i
  | .tuple ds, .int i => atI ds i
  | .str x, .int i => if x.length ≤ sizeLine then (atI x.cps.toList i).map fun c => .str ⟨#[c]⟩ else none
  | _, _ => none
theorem atIV {K : PySem.W.Frag} {H : Hp} {vs : List V} {ds : List D} {i : Int} {d : D} (hp : DpAll K H vs ds) (h : atI ds i = some d) : ∃ v, atI vs i = some v ∧ Dp K H v d := by
  unfold atI at h ⊢
  rw [dpLen hp]
  cases q : ixN ds.length i with
  | none => rw [q] at h; cases h
  | some j =>
    rw [q] at h
    exact dpAt hp h
theorem ok_at : BinOk X.K (rIx X.K) atD := fun x y d1 d2 d F H Q fh p1 p2 e k => by
  unfold atD at e
  split at e
  · rename_i ds i
    cases p1 with
    | lst hs ha =>
      obtain ⟨v, q, hv⟩ := atIV ha e
      exact .inl ⟨_, _, i, v, rfl, intOf p2, fh.seq hs, q, fin0 fh hv k⟩
  · rename_i ds i
    cases p1 with
    | tup hs ha =>
      obtain ⟨v, q, hv⟩ := atIV ha e
      exact .inr (.inl ⟨_, _, i, v, rfl, intOf p2, Same.tupS fh hs, q, fin0 fh hv k⟩)
  · rename_i z i
    split at e
    · rename_i hz
      cases q : atI z.cps.toList i with
      | none => rw [q] at e; cases e
      | some c =>
        rw [q] at e; cases e
        cases p1
        exact .inr (.inr ⟨z, i, c, rfl, intOf p2, hz, q, fin0 fh (.str _) k⟩)
    · cases e
  · cases e
theorem de_ix {a b : Expr} {pos : Pos} {fa fb : Fe} (ha : DE X a fa) (hb : DE X b fb) (hs : PlainIx b := by exact fun _ _ => rfl) : DE X (.Subscript a b pos) (eBin atD fa fb) := peMono (pe_ix ix_seq ha hb hs) fun _ _ _ h => tD_bin ok_at h
/-- of a name: its list is not frozen -/
def slD : Option Sl → Option D
  | some (.v d) => some d
  | some (.own _ ds) => some (.list ds)
  | _ => none
def eIxV (i : Nat) (fb : Fe) : Fe := fun g => (slD (g[i]?)).bind fun _ => (fb g).bind fun q => (slD (q.2[i]?)).bind fun b => (atD b q.1).map fun d => (d, q.2)
theorem slGet {K : PySem.W.Frag} {F H : Hp} {g : G} {s : Sg} {i : Nat} {d : D} (r : Rep K F g s H) (h : slD g[i]? = some d) : ∃ x v, g[i]? = some x ∧ s[i]? = some (some v) ∧ RepS K F H x (some v) := by
  cases z : g[i]? with
  | none => rw [z] at h; cases h
  | some x =>
    rw [z] at h
    obtain ⟨o, ho, hx⟩ := r.get z
    cases x with
    | no => cases h
    | v d0 =>
      obtain ⟨y, rfl, hy⟩ := hx
      exact ⟨_, y, rfl, ho, y, rfl, hy⟩
    | own tg ds =>
      obtain ⟨a, xs, rfl, q⟩ := hx
      exact ⟨_, .ref a, rfl, ho, a, xs, rfl, q⟩
theorem eIxV_inv {i : Nat} {fb : Fe} {g g' : G} {d : D} (h : eIxV i fb g = some (d, g')) : ∃ d0 d1 b, slD g[i]? = some d0 ∧ fb g = some (d1, g') ∧ slD g'[i]? = some b ∧ atD b d1 = some d := by
  unfold eIxV at h
  cases q0 : slD g[i]? with
  | none => rw [q0] at h; cases h
  | some d0 =>
    rw [q0] at h
    have h : (fb g).bind _ = some (d, g') := h
    cases q : fb g with
    | none => rw [q] at h; cases h
    | some p =>
      obtain ⟨d1, g1⟩ := p
      rw [q] at h
      have h : (slD g1[i]?).bind _ = some (d, g') := h
      cases q2 : slD g1[i]? with
      | none => rw [q2] at h; cases h
      | some b0 =>
        rw [q2] at h
        have h : (atD b0 d1).map _ = some (d, g') := h
        cases q3 : atD b0 d1 with
        | none => rw [q3] at h; cases h
        | some d3 =>
          rw [q3] at h; cases h
          exact ⟨d0, d1, b0, rfl, rfl, q2, q3⟩
theorem de_ixV (i : Nat) {b : Expr} {pos pos' : Pos} {x : Str} {fb : Fe} (hb : DE X b fb) (hN : X.N[i]? = some x := by rfl) (hv : Vis X.env.scope x := by first | exact Or.inl rfl | exact Or.inr (Or.inl rfl) | exact Or.inr (Or.inr rfl)) (hd : (x == ("__debug__" : Str)) = false := by decide)
    (hcd : (x == ("__classdict__" : Str)) = false := by decide) (hs : PlainIx b := by exact fun _ _ => rfl) : DE X (.Subscript (.Name x pos') b pos) (eIxV i fb) := peMono (pe_ix ix_seq (pe_var hN hv hd hcd) hb hs) fun s H Q ⟨F, g, d, g', rp, e, k⟩ => by
  obtain ⟨d0, d1, b0, q0, q1, q2, q3⟩ := eIxV_inv e
  obtain ⟨_, v, _, hv, _⟩ := slGet rp q0
  refine ⟨v, hv, F, g, d1, g', rp, q1, fun v1 F1 H1 p1 r1 t1 m1 => ?_⟩
  obtain ⟨x0, v0, hx0, hv0, hx⟩ := slGet r1 q2
  rw [hv] at hv0; cases hv0
  rw [hx0] at q2
  cases x0 with
  | no => cases q2
  | v d0 =>
    cases q2
    obtain ⟨y, ey, hy⟩ := hx
    cases ey
    exact ok_at v v1 _ d1 d F1 H1 Q r1.fh hy p1 q3 fun v F3 H3 p3 fh t3 => k v F3 H3 p3 (r1.stepN t3 fh) (t1.andN t3) m1
  | own tg ds =>
    cases q2
    obtain ⟨a, xs, ey, fa, ha, hy, _⟩ := hx
    cases ey
    cases p1 with
    | int j =>
      obtain ⟨w, qw, hw⟩ := atIV hy (show atI ds j = some d from q3)
      exact .inl ⟨a, xs, j, w, rfl, rfl, SqL.of ha, qw, k w F1 H1 hw r1 t1 m1⟩
    | _ => cases q3

/-! ### slices -/
abbrev Fo := G → Option (Option Int × G)
def tO (K : PySem.W.Frag) (f : Fo) : TO := fun s H Q => ∃ F g b g', Rep K F g s H ∧ f g = some (b, g') ∧
  ∀ F' H', Rep K F' g' s H' → Stp (OwnAt g s) F H F' H' → Mo g g' → Q b H'
def DO (X : Cx) (e : Option Expr) (f : Fo) : Prop := PO X e (tO X.K f)
def oNone : Fo := fun g => some (none, g)
def oSome (f : Fe) : Fo := fun g => match f g with
  | some (.int i, g') => some (some i, g')
  | _ => none
theorem poMono {e : Option Expr} {t t' : TO} (h : PO X e t) (m : ∀ s H Q, t' s H Q → t s H Q) : PO X e t' := ⟨fun pins st s H Q I w => h.run pins st s H Q I (m s H Q w)⟩
theorem do_none : DO X none oNone := poMono po_none fun s H Q ⟨F, g, d, g', rp, e, k⟩ => by
  cases e
  exact k F H rp Stp.refl Mo.refl
theorem do_some {a : Expr} {f : Fe} (h : DE X a f) : DO X (some a) (oSome f) := poMono (po_some h) fun s H Q ⟨F, g, d, g', rp, e, k⟩ => by
  unfold oSome at e
  split at e
  · rename_i i g1 q
    cases e
    exact ⟨F, g, _, _, rp, q, fun v F1 H1 p1 r1 t1 m1 => ⟨i, intOf p1, k F1 H1 r1 t1 m1⟩⟩
  · cases e
/-- the items of xs[lo:hi] -/
def cutL {α : Type} (xs : List α) (lo hi : Option Int) : List α := (xs.drop (HT.sIx xs.length 0 lo)).take (HT.sIx xs.length xs.length hi - HT.sIx xs.length 0 lo)
theorem dpCut {K : PySem.W.Frag} {H : Hp} {vs : List V} {ds : List D} {lo hi : Option Int} (h : DpAll K H vs ds) : DpAll K H (cutV vs lo hi) (cutL ds lo hi) := by
  unfold cutV cutL
  rw [dpLen h]
  exact dpTake _ (dpDrop _ h)
def eSl (fa : Fe) (fl fh : Fo) : Fe := fun g => (fa g).bind fun p => (fl p.2).bind fun l => (fh l.2).bind fun h => match p.1 with
  | .tuple ds => some (.tuple (cutL ds l.1 h.1), h.2)
  | _ => none
theorem cut_whole {α : Type} {xs : List α} {lo hi : Option Int} (h1 : HT.sIx xs.length 0 lo = 0) (h2 : HT.sIx xs.length xs.length hi = xs.length) : cutL xs lo hi = xs := by
  unfold cutL
  rw [h1, h2]
  simp
theorem de_slT {a : Expr} {lo hi : Option Expr} {p2 pos : Pos} {fa : Fe} {fl fh : Fo} (ha : DE X a fa) (hl : DO X lo fl) (hu : DO X hi fh) : DE X (.Subscript a (.Slice lo hi none p2) pos) (eSl fa fl fh) := peMono (pe_slice sl_tupA ha hl hu) fun s H Q ⟨F, g, d, g', rp, e, k⟩ => by
  unfold eSl at e
  cases q : fa g with
  | none => rw [q] at e; cases e
  | some p =>
    rw [q] at e
    have e : (fl p.2).bind _ = some (d, g') := e
    cases q2 : fl p.2 with
    | none => rw [q2] at e; cases e
    | some l =>
      rw [q2] at e
      have e : (fh l.2).bind _ = some (d, g') := e
      cases q3 : fh l.2 with
      | none => rw [q3] at e; cases e
      | some h =>
        rw [q3] at e
        obtain ⟨d1, g1⟩ := p
        obtain ⟨l, g2⟩ := l
        obtain ⟨h, g3⟩ := h
        cases d1 with
        | tuple ds =>
          cases e
          refine ⟨F, g, _, g1, rp, q, fun v F1 H1 p1 r1 t1 m1 => ⟨F1, g1, l, g2, r1, q2, fun F2 H2 r2 t2 m2 => ⟨F2, g2, h, g3, r2, q3, fun F3 H3 r3 t3 m3 => ?_⟩⟩⟩
          have p3 := dpMono (t2.fs.trans t3.fs) _ _ p1
          have tt := (t1.two m1 t2).two (m1.trans m2) t3
          have mm := (m1.trans m2).trans m3
          cases p3 with
          | tup hs hp =>
            refine ⟨_, _, rfl, Same.tupS r3.fh hs, fun hw => ?_, fun _ => newTup r3.fh (dpCut hp) fun v F' H' hv fh st => k v F' H' hv (r3.stepN st fh) (tt.andN st) mm⟩
            rw [dpLen hp] at hw
            exact k _ F3 H3 (.tup hs (by rw [cut_whole hw.1 hw.2]; exact hp)) r3 tt mm
        | _ => cases e
def vSl (fa : Fe) (fl fh : Fo) : Fv := fun g => (fa g).bind fun p => (fl p.2).bind fun l => (fh l.2).bind fun h => match p.1 with
  | .list ds => some (.own none (cutL ds l.1 h.1), h.2)
  | _ => none
theorem dv_slL {a : Expr} {lo hi : Option Expr} {p2 pos : Pos} {fa : Fe} {fl fh : Fo} (ha : DE X a fa) (hl : DO X lo fl) (hu : DO X hi fh) : DV X (.Subscript a (.Slice lo hi none p2) pos) (vSl fa fl fh) := peMono (pe_slice sl_list ha hl hu) fun s H Q ⟨F, g, d, g', rp, e, k⟩ => by
  unfold vSl at e
  cases q : fa g with
  | none => rw [q] at e; cases e
  | some p =>
    rw [q] at e
    have e : (fl p.2).bind _ = some (d, g') := e
    cases q2 : fl p.2 with
    | none => rw [q2] at e; cases e
    | some l =>
      rw [q2] at e
      have e : (fh l.2).bind _ = some (d, g') := e
      cases q3 : fh l.2 with
      | none => rw [q3] at e; cases e
      | some h =>
        rw [q3] at e
        obtain ⟨d1, g1⟩ := p
        obtain ⟨l, g2⟩ := l
        obtain ⟨h, g3⟩ := h
        cases d1 with
        | list ds =>
          cases e
          refine ⟨F, g, _, g1, rp, q, fun v F1 H1 p1 r1 t1 m1 => ⟨F1, g1, l, g2, r1, q2, fun F2 H2 r2 t2 m2 => ⟨F2, g2, h, g3, r2, q3, fun F3 H3 r3 t3 m3 => ?_⟩⟩⟩
          have p3 := dpMono (t2.fs.trans t3.fs) _ _ p1
          have tt := (t1.two m1 t2).two (m1.trans m2) t3
          have mm := (m1.trans m2).trans m3
          cases p3 with
          | lst hs hp => exact ⟨_, _, rfl, r3.fh.seq hs, newLst r3 (dpCut hp) tt mm k⟩
        | _ => cases e

/-! ### + and * of sequences -/
def catTD : D → D → Option D
  | .tuple xs, .tuple ys => if xs.length + ys.length ≤ 1000000 then some (.tuple (xs ++ ys)) else none
  | _, _ => none
theorem million : (1000000 : Nat) ≤ sizeLine := by rw [sizeLine_eq]; decide
theorem dpNil {K : PySem.W.Frag} {F : Hp} {xs : List V} {ds : List D} (h : DpAll K F xs ds) (e : xs = []) : ds = [] := by
  subst e; cases h; rfl
theorem ok_catT : BinOk X.K (rCatA X.K) catTD := fun x y d1 d2 d F H Q fh p1 p2 e k => by
  unfold catTD at e
  split at e
  · rename_i xs ys
    split at e
    · rename_i hz
      cases e
      cases p1 with
      | tup hs ha =>
        cases p2 with
        | tup hs2 hb =>
          refine ⟨_, _, _, _, rfl, rfl, Same.tupS fh hs, Same.tupS fh hs2, by rw [dpLen ha, dpLen hb]; exact Nat.le_trans hz million, fun z => ?_, fun _ z => ?_, fun _ _ => newTup fh (dpApp ha hb) k⟩
          · have z1 := dpNil ha z
            subst z1
            exact k _ F H (.tup hs2 hb) fh Stp.refl
          · have z1 := dpNil hb z
            subst z1
            rw [List.append_nil] at k
            exact k _ F H (.tup hs ha) fh Stp.refl
    · cases e
  · cases e
theorem de_catT {a b : Expr} {pos : Pos} {fa fb : Fe} (ha : DE X a fa) (hb : DE X b fb) : DE X (.BinOp a .Add b pos) (eBin catTD fa fb) := de_op op_catA ok_catT ha hb
def catSD : D → D → Option D
  | .str xs, .str ys => if xs.length + ys.length ≤ sizeLine then some (.str (xs ++ ys)) else none
  | _, _ => none
theorem ok_catS : BinOk X.K (fun x y H Q => ∃ i j, x = .str i ∧ y = .str j ∧ i.length + j.length ≤ sizeLine ∧ Q (.str (i ++ j)) H) catSD := fun x y d1 d2 d F H Q fh p1 p2 e k => by
  unfold catSD at e
  split at e
  · rename_i xs ys
    split at e
    · rename_i hz
      cases e
      cases p1; cases p2
      exact ⟨_, _, rfl, rfl, hz, fin0 fh (.str _) k⟩
    · cases e
  · cases e
theorem de_catS {a b : Expr} {pos : Pos} {fa fb : Fe} (ha : DE X a fa) (hb : DE X b fb) : DE X (.BinOp a .Add b pos) (eBin catSD fa fb) := de_op op_add_str ok_catS ha hb
/-- two new lists one behind the other -/
def vCat (fa fb : Fv) : Fv := fun g => (fa g).bind fun p => (fb p.2).bind fun q => match p.1, q.1 with
  | .own none xs, .own none ys => if xs.length + ys.length ≤ 1000000 then some (.own none (xs ++ ys), q.2) else none
  | _, _ => none
theorem dv_cat {a b : Expr} {pos : Pos} {fa fb : Fv} (ha : DV X a fa) (hb : DV X b fb) : DV X (.BinOp a .Add b pos) (vCat fa fb) := peMono (pe_op op_cat ha hb) fun s H Q ⟨F, g, d, g', rp, e, k⟩ => by
  unfold vCat at e
  cases q : fa g with
  | none => rw [q] at e; cases e
  | some p =>
    rw [q] at e
    have e : (fb p.2).bind _ = some (d, g') := e
    cases q2 : fb p.2 with
    | none => rw [q2] at e; cases e
    | some l =>
      rw [q2] at e
      obtain ⟨d1, g1⟩ := p
      obtain ⟨d2, g2⟩ := l
      simp only [Option.bind_some] at e
      split at e
      · rename_i xs ys
        split at e
        · rename_i hz
          cases e
          refine ⟨F, g, _, g1, rp, q, fun v F1 H1 p1 n1 r1 t1 m1 => ⟨F1, g1, _, _, r1, q2, fun v2 F2 H2 p2 n2 r2 t2 m2 => ?_⟩⟩
          obtain ⟨a1, vs1, e1, f1, h1, dp1, _⟩ := p1
          obtain ⟨a2, vs2, e2, f2, h2, dp2, _⟩ := p2
          cases e1; cases e2
          obtain ⟨_, _, ea, na⟩ := n1 _ _ rfl
          cases ea
          have h1' : H2 a1 = some (.lst vs1) := t2.keep _ _ h1 fun z => by
            obtain ⟨i, tg, es, w1, w2⟩ := m1.own z
            obtain ⟨o, ho, a3, ys3, eo, _, ha3, _⟩ := rp.get w1
            rw [w2] at ho; cases ho; cases eo
            rw [na] at ha3; cases ha3
          exact ⟨a1, a2, vs1, vs2, rfl, rfl, h1', h2, by rw [dpLen dp1, dpLen dp2]; exact Nat.le_trans hz million, newLst r2 (dpApp (dpMonos t2.fs _ _ dp1) dp2) (t1.two m1 t2) (m1.trans m2) k⟩
        · cases e
      · cases e
theorem dpRep {K : PySem.W.Frag} {H : Hp} {vs : List V} {ds : List D} (h : DpAll K H vs ds) : ∀ n : Nat, DpAll K H (List.replicate n vs).flatten (List.replicate n ds).flatten
  | 0 => .nil
  | n + 1 => by
    rw [List.replicate_succ, List.replicate_succ, List.flatten_cons, List.flatten_cons]
    exact dpApp h (dpRep h n)
/-- [..] * n -/
def vRep (fa : Fv) (fb : Fe) : Fv := fun g => (fa g).bind fun p => (fb p.2).bind fun q => match p.1, q.1 with
  | .own none xs, .int k => if -1000000 ≤ k ∧ k ≤ 1000000 ∧ xs.length * k.toNat ≤ 1000000 then some (.own none (List.replicate k.toNat xs).flatten, q.2) else none
  | _, _ => none
theorem dv_rep {a b : Expr} {pos : Pos} {fa : Fv} {fb : Fe} (ha : DV X a fa) (hb : DE X b fb) : DV X (.BinOp a .Mult b pos) (vRep fa fb) := peMono (pe_op op_rep ha hb) fun s H Q ⟨F, g, d, g', rp, e, k⟩ => by
  unfold vRep at e
  cases q : fa g with
  | none => rw [q] at e; cases e
  | some p =>
    rw [q] at e
    have e : (fb p.2).bind _ = some (d, g') := e
    cases q2 : fb p.2 with
    | none => rw [q2] at e; cases e
    | some l =>
      rw [q2] at e
      obtain ⟨d1, g1⟩ := p
      obtain ⟨d2, g2⟩ := l
      simp only [Option.bind_some] at e
      split at e
      · rename_i xs n
        split at e
        · rename_i hz
          cases e
          refine ⟨F, g, _, g1, rp, q, fun v F1 H1 p1 n1 r1 t1 m1 => ⟨F1, g1, _, _, r1, q2, fun v2 F2 H2 p2 r2 t2 m2 => ?_⟩⟩
          obtain ⟨a1, vs1, e1, f1, h1, dp1, _⟩ := p1
          cases e1
          obtain ⟨_, _, ea, na⟩ := n1 _ _ rfl
          cases ea
          have h1' : H2 a1 = some (.lst vs1) := t2.keep _ _ h1 fun z => by
            obtain ⟨i, tg, es, w1, w2⟩ := m1.own z
            obtain ⟨o, ho, a3, ys3, eo, _, ha3, _⟩ := rp.get w1
            rw [w2] at ho; cases ho; cases eo
            rw [na] at ha3; cases ha3
          exact ⟨a1, _, vs1, rfl, intOf p2, h1', by omega, by omega, by rw [dpLen dp1]; exact Nat.le_trans hz.2.2 million, newLst r2 (dpRep (dpMonos t2.fs _ _ dp1) _) (t1.two m1 t2) (m1.trans m2) k⟩
        · cases e
      · cases e
end Dl
set_option Elab.async false
set_option linter.all false
set_option maxRecDepth 100000
namespace Dl
open PySem PySem.Spec PyProof.Rows L2
variable {X : Cx}

/-! ### from one state to a later one -/
structure Tr (K : PySem.W.Frag) (F : Hp) (g : G) (s : Sg) (H : Hp) (F' : Hp) (g' : G) (s' : Sg) (H' : Hp) : Prop where
  rep : Rep K F' g' s' H'
  stp : Stp (OwnAt g s) F H F' H'
  own : ∀ b, OwnAt g' s' b → OwnAt g s b ∨ H b = none
section
variable {K : PySem.W.Frag} {F H F1 H1 F2 H2 F3 H3 : Hp} {g g1 g2 g3 : G} {s s1 s2 s3 : Sg}
theorem Tr.refl (r : Rep K F g s H) : Tr K F g s H F g s H := ⟨r, Stp.refl, fun _ h => .inl h⟩
theorem Tr.of (r : Rep K F1 g1 s H1) (t : Stp (OwnAt g s) F H F1 H1) (m : Mo g g1) : Tr K F g s H F1 g1 s H1 := ⟨r, t, fun _ h => .inl (m.own h)⟩
theorem Tr.trans (a : Tr K F g s H F1 g1 s1 H1) (b : Tr K F1 g1 s1 H1 F2 g2 s2 H2) : Tr K F g s H F2 g2 s2 H2 := ⟨b.rep, a.stp.trans b.stp a.own, fun x h => by
  rcases b.own x h with q | q
  · exact a.own x q
  · right
    cases z : H x with
    | none => rfl
    | some o => exact absurd q (a.stp.dom x (by rw [z]; simp))⟩
theorem Tr.free (a : Tr K F g s H F1 g1 s1 H1) {b : Addr} (h : H1 b = none) : H b = none := by
  cases z : H b with
  | none => rfl
  | some o => exact absurd h (a.stp.dom b (by rw [z]; simp))
theorem Rep.ownSome (r : Rep K F g s H) {b : Addr} (h : OwnAt g s b) : ∃ xs, H b = some (.lst xs) ∧ F b = none := by
  obtain ⟨i, t, ds, e, q⟩ := h
  obtain ⟨o, ho, a, xs, eo, fa, ha, _⟩ := r.get e
  rw [q] at ho; cases ho; cases eo
  exact ⟨xs, ha, fa⟩
/-- a slot is set to data -/
theorem Rep.setV (r : Rep K F g s H) (i : Nat) {v : V} {d : D} (h : Dp K F v d) : Tr K F g s H F (g.set i (.v d)) (s.set i (some v)) H :=
  ⟨r.put i _ _ ⟨v, rfl, h⟩ (fun _ _ _ e => nomatch e), Stp.refl, fun b hb => by
    rcases ownIn hb r.len with q | ⟨_, _, e, _⟩
    · exact .inl q
    · cases e⟩
/-- a slot is set to a new list -/
theorem Rep.setO (r : Rep K F g s H) (i : Nat) {a : Addr} {xs : List V} {ds : List D} (fa : F a = none) (ha : H a = some (.lst xs)) (h : DpAll K F xs ds) (n : ¬ OwnAt g s a) : Rep K F (g.set i (.own none ds)) (s.set i (some (.ref a))) H :=
  r.put i _ _ ⟨a, xs, rfl, fa, ha, h, fun b e => nomatch e⟩ (fun _ _ b _ e => by cases e; exact n)
/-- a list of the frame's own is changed -/
theorem Rep.turn (r : Rep K F g s H) {i : Nat} {t : Option Addr} {ds es : List D} {a : Addr} {ys : List V} (hg : g[i]? = some (.own t ds)) (hs : s[i]? = some (some (.ref a))) (h : DpAll K F ys es) :
    Tr K F g s H F (g.set i (.own t es)) s (upd H a (.lst ys)) := by
  obtain ⟨o, ho, a', xs, eo, fa, ha, hp, ht⟩ := r.get hg
  rw [hs] at ho; cases ho; cases eo
  have hi : i < g.length := (List.getElem?_eq_some_iff.mp hg).1
  have fh : Same F (upd H a (.lst ys)) := fun b u e => by
    rw [upd_ne (ne_of_none e fa)]; exact r.fh b u e
  have t1 : Stp (fun b => b = a) F H F (upd H a (.lst ys)) := ⟨.refl _, fun b o e n => by rw [upd_ne n]; exact e, fun b e e' => absurd e e', fun b e => by
    by_cases z : b = a
    · rw [z, upd_same]; simp
    · rw [upd_ne z]; exact e⟩
  have r0 : Rep K F (g.set i .no) s H := by
    have := r.put i .no (some (.ref a)) trivial (fun _ _ _ e => nomatch e)
    rwa [setSelf hs] at this
  have n0 : ¬ OwnAt (g.set i .no) s a := fun ⟨j, tg, es, e1, e2⟩ => by
    by_cases z : i = j
    · subst z; rw [List.getElem?_set_self hi] at e1; cases e1
    · rw [List.getElem?_set_ne z] at e1
      exact z (r.uq i j a t tg ds es hg e1 hs e2)
  have r1 : Rep K F (g.set i .no) s (upd H a (.lst ys)) := r0.step t1 (fun b hb z => n0 (by rw [← z]; exact hb)) fh
  have r2 : Rep K F (g.set i (.own t es)) s (upd H a (.lst ys)) := by
    have := r1.put i (.own t es) (some (.ref a)) ⟨a, ys, rfl, fa, upd_same, h, ht⟩ (fun _ _ b _ e => by cases e; exact n0)
    rwa [setSelf hs, List.set_set] at this
  refine ⟨r2, t1.weak fun b z => by rw [z]; exact ⟨i, t, ds, hg, hs⟩, fun b hb => .inl ?_⟩
  have e := setSelf hs
  rw [← e] at hb
  rcases ownIn hb r.len with q | ⟨_, _, _, e2⟩
  · exact q
  · cases e2; exact ⟨i, t, ds, hg, hs⟩
end

/-! ### statements -/
inductive Out where
  | nx (g : G) | bk (g : G) | ct (g : G) | ret (x : Sl) (g : G)
abbrev Fs := G → Option Out
/-- what is known of a value that a def hands back -/
def RetOk (H : Hp) (g : G) (s : Sg) (g' : G) (s' : Sg) (x : Sl) (v : V) : Prop := ∀ t ds, x = .own t ds → t = none ∧ ∃ a, v = .ref a ∧ (H a = none ∨ OwnAt g s a) ∧ ¬ OwnAt g' s' a
def endS (K : PySem.W.Frag) (F : Hp) (g : G) (s : Sg) (H : Hp) (D : Ends) : Out → Prop
  | .nx g' => ∀ F' s' H', Tr K F g s H F' g' s' H' → D.nx s' H'
  | .bk g' => ∀ F' s' H', Tr K F g s H F' g' s' H' → D.bk s' H'
  | .ct g' => ∀ F' s' H', Tr K F g s H F' g' s' H' → D.ct s' H'
  | .ret x g' => ∀ v F' s' H', RepS K F' H' x (some v) → x ≠ .no → RetOk H g s g' s' x v → Tr K F g s H F' g' s' H' → D.rt v H'
def tS (K : PySem.W.Frag) (f : Fs) : TS := fun D s H => ∃ F g o, Rep K F g s H ∧ f g = some o ∧ endS K F g s H D o
def DS (X : Cx) (st : Stmt) (f : Fs) : Prop := PS X st (tS X.K f)
def DSs (X : Cx) (st : List Stmt) (f : Fs) : Prop := PSs X st (tS X.K f)
theorem RetOk.back {K : PySem.W.Frag} {F H F1 H1 : Hp} {g g1 g2 : G} {s s1 s2 : Sg} {x : Sl} {v : V} (h : RetOk H1 g1 s1 g2 s2 x v) (t : Tr K F g s H F1 g1 s1 H1) : RetOk H g s g2 s2 x v := fun tg ds e => by
  obtain ⟨e1, a, e2, q, n⟩ := h tg ds e
  refine ⟨e1, a, e2, ?_, n⟩
  rcases q with q | q
  · exact .inl (t.free q)
  · exact (t.own a q).symm.imp id id
/-- an end seen from an earlier state -/
theorem endS.back {K : PySem.W.Frag} {F H F1 H1 : Hp} {g g1 : G} {s s1 : Sg} {D : Ends} {o : Out} (t : Tr K F g s H F1 g1 s1 H1) (h : endS K F g s H D o) : endS K F1 g1 s1 H1 D o := by
  cases o with
  | nx g' => exact fun F' s' H' t' => h F' s' H' (t.trans t')
  | bk g' => exact fun F' s' H' t' => h F' s' H' (t.trans t')
  | ct g' => exact fun F' s' H' t' => h F' s' H' (t.trans t')
  | ret x g' => exact fun v F' s' H' a n b t' => h v F' s' H' a n (b.back t) (t.trans t')

def sNil : Fs := fun g => some (.nx g)
def sSeq (f h : Fs) : Fs := fun g => (f g).bind fun o => match o with
  | .nx g1 => h g1
  | o => some o
theorem dss_nil : DSs X [] sNil := pssMono pss_nil fun D s H ⟨F, g, o, r, e, k⟩ => by
  cases e
  exact k F s H (Tr.refl r)
theorem dss_cons {st : Stmt} {rest : List Stmt} {f h : Fs} (h1 : DS X st f) (h2 : DSs X rest h) : DSs X (st :: rest) (sSeq f h) := pssMono (pss_cons h1 h2) fun D s H ⟨F, g, o, r, e, k⟩ => by
  unfold sSeq at e
  cases q : f g with
  | none => rw [q] at e; cases e
  | some o1 =>
    rw [q] at e
    refine ⟨F, g, o1, r, q, ?_⟩
    cases o1 with
    | nx g1 => exact fun F1 s1 H1 t1 => ⟨F1, g1, o, t1.rep, e, k.back t1⟩
    | bk g1 => cases e; exact k
    | ct g1 => cases e; exact k
    | ret x g1 => cases e; exact k
theorem dss_one {st : Stmt} {f : Fs} (h : DS X st f) : DSs X [st] f := pss_one h
/-- code that is never come to -/
def sNo : Fs := fun _ => none
theorem ds_no {st : Stmt} : DS X st sNo := psMono ps_never fun D s H ⟨F, g, o, r, e, k⟩ => nomatch e
theorem dss_no {st : List Stmt} : DSs X st sNo := pssMono pss_never fun D s H ⟨F, g, o, r, e, k⟩ => nomatch e
theorem ds_pass {pos : Pos} : DS X (.Pass pos) sNil := psMono ps_pass fun D s H ⟨F, g, o, r, e, k⟩ => by
  cases e
  exact k F s H (Tr.refl r)
def sBk : Fs := fun g => some (.bk g)
def sCt : Fs := fun g => some (.ct g)
theorem ds_break {pos : Pos} : DS X (.Break pos) sBk := psMono ps_break fun D s H ⟨F, g, o, r, e, k⟩ => by
  cases e
  exact k F s H (Tr.refl r)
theorem ds_continue {pos : Pos} : DS X (.Continue pos) sCt := psMono ps_continue fun D s H ⟨F, g, o, r, e, k⟩ => by
  cases e
  exact k F s H (Tr.refl r)
def sIf (t : Ft) (f h : Fs) : Fs := fun g => (t g).bind fun p => if p.1 = true then f p.2 else h p.2
theorem ds_if {c : Expr} {a b : List Stmt} {pos : Pos} {t : Ft} {f h : Fs} (hc : DT X c t) (ha : DSs X a f) (hb : DSs X b h) : DS X (.If c a b pos) (sIf t f h) := psMono (ps_if hc ha hb) fun D s H ⟨F, g, o, r, e, k⟩ => by
  unfold sIf at e
  cases q : t g with
  | none => rw [q] at e; cases e
  | some p =>
    obtain ⟨c, g1⟩ := p
    rw [q] at e
    refine ⟨F, g, c, g1, r, q, fun F1 H1 r1 t1 m1 => ?_⟩
    have e : (if c = true then f g1 else h g1) = some o := e
    have tr := Tr.of r1 t1 m1
    cases c with
    | true =>
      rw [if_pos rfl] at e
      refine iteT ?_
      exact ⟨F1, g1, o, r1, e, k.back tr⟩
    | false =>
      rw [if_neg (by decide)] at e
      refine iteF ?_
      exact ⟨F1, g1, o, r1, e, k.back tr⟩
/-- e; -/
def sEx (f : Fe) : Fs := fun g => (f g).map fun p => .nx p.2
theorem ds_expr {a : Expr} {pos : Pos} {f : Fe} (h : DE X a f) (hs : swapsWith a none pos.line X.env = pure false := by rfl) : DS X (.Expr a pos) (sEx f) := psMono (ps_expr h hs) fun D s H ⟨F, g, o, r, e, k⟩ => by
  unfold sEx at e
  cases q : f g with
  | none => rw [q] at e; cases e
  | some p =>
    rw [q] at e; cases e
    exact ⟨F, g, p.1, p.2, r, q, fun v F1 H1 _ r1 t1 m1 => k F1 s H1 (Tr.of r1 t1 m1)⟩
/-- return e -/
def sRet (f : Fv) : Fs := fun g => (f g).bind fun p => match p.1 with
  | .no => none
  | x => some (.ret x p.2)
theorem ds_ret {a : Expr} {pos : Pos} {f : Fv} (h : DV X a f) : DS X (.Return (some a) pos) (sRet f) := psMono (ps_ret h) fun D s H ⟨F, g, o, r, e, k⟩ => by
  unfold sRet at e
  cases q : f g with
  | none => rw [q] at e; cases e
  | some p =>
    obtain ⟨x, g1⟩ := p
    rw [q] at e
    refine ⟨F, g, x, g1, r, q, fun v F1 H1 hv hn r1 t1 m1 => ?_⟩
    cases x with
    | no => cases e
    | v d =>
      cases e
      exact k v F1 s H1 hv (fun z => nomatch z) (fun _ _ z => nomatch z) (Tr.of r1 t1 m1)
    | own tg ds =>
      cases e
      refine k v F1 s H1 hv (fun z => nomatch z) (fun _ _ z => ?_) (Tr.of r1 t1 m1)
      obtain ⟨e1, a, e2, na⟩ := hn _ _ z
      refine ⟨e1, a, e2, .inl na, fun w => ?_⟩
      obtain ⟨xs, hx, _⟩ := r.ownSome (m1.own w)
      rw [na] at hx; cases hx
def sRetN : Fs := fun g => some (.ret (.v .none) g)
theorem ds_retN {pos : Pos} : DS X (.Return none pos) sRetN := psMono ps_retN fun D s H ⟨F, g, o, r, e, k⟩ => by
  cases e
  exact k .non F s H ⟨_, rfl, .non⟩ (fun z => nomatch z) (fun _ _ z => nomatch z) (Tr.refl r)
/-- return name, the name's list goes to the caller -/
def sRetV (i : Nat) : Fs := fun g => match g[i]? with
  | some (.v d) => some (.ret (.v d) g)
  | some (.own none ds) => some (.ret (.own none ds) (g.set i .no))
  | _ => none
theorem ds_retV (i : Nat) {x : Str} {pos pos' : Pos} (hN : X.N[i]? = some x := by rfl) (hv : Vis X.env.scope x := by first | exact Or.inl rfl | exact Or.inr (Or.inl rfl) | exact Or.inr (Or.inr rfl)) (hd : (x == ("__debug__" : Str)) = false := by decide)
    (hcd : (x == ("__classdict__" : Str)) = false := by decide) : DS X (.Return (some (.Name x pos')) pos) (sRetV i) := psMono (ps_ret (pe_var hN hv hd hcd)) fun D s H ⟨F, g, o, r, e, k⟩ => by
  unfold sRetV at e
  split at e
  · rename_i d hg
    cases e
    obtain ⟨o, ho, v, rfl, hp⟩ := r.get hg
    exact ⟨v, ho, k v F s H ⟨v, rfl, hp⟩ (fun z => nomatch z) (fun _ _ z => nomatch z) (Tr.refl r)⟩
  · rename_i ds hg
    cases e
    obtain ⟨o, ho, a, xs, rfl, fa, ha, hp, ht⟩ := r.get hg
    have hi : i < g.length := (List.getElem?_eq_some_iff.mp hg).1
    have r0 : Rep X.K F (g.set i .no) s H := by
      have := r.put i .no (some (.ref a)) trivial (fun _ _ _ e => nomatch e)
      rwa [setSelf ho] at this
    have n0 : ¬ OwnAt (g.set i .no) s a := fun ⟨j, tg, es, e1, e2⟩ => by
      by_cases z : i = j
      · subst z; rw [List.getElem?_set_self hi] at e1; cases e1
      · rw [List.getElem?_set_ne z] at e1
        exact z (r.uq i j a none tg ds es hg e1 ho e2)
    refine ⟨_, ho, k _ F s H ⟨a, xs, rfl, fa, ha, hp, ht⟩ (fun z => nomatch z) (fun _ _ z => ?_) ⟨r0, Stp.refl, fun b hb => .inl ?_⟩⟩
    · cases z
      exact ⟨rfl, a, rfl, .inr ⟨i, none, ds, hg, ho⟩, n0⟩
    · rw [← setSelf ho] at hb
      rcases ownIn hb r.len with q | ⟨_, _, e2, _⟩
      · exact q
      · cases e2
  · cases e

/-! ### assignments -/
/-- name = e -/
def setOut (i : Nat) (x : Sl) (g : G) : Option Out := match x with
  | .v d => some (.nx (g.set i (.v d)))
  | .own none ds => some (.nx (g.set i (.own none ds)))
  | _ => none
def sSet (i : Nat) (f : Fv) : Fs := fun g => (f g).bind fun p => setOut i p.1 p.2
theorem set_end {K : PySem.W.Frag} {F H F1 H1 : Hp} {g g1 : G} {s : Sg} {x : Sl} {v : V} {i : Nat} {o : Out} {D : Ends} (r : Rep K F g s H) (r1 : Rep K F1 g1 s H1) (t1 : Stp (OwnAt g s) F H F1 H1) (m1 : Mo g g1) (hv : RepS K F1 H1 x (some v))
    (hn : ∀ t ds, x = .own t ds → t = none ∧ ∃ a, v = .ref a ∧ H a = none) (e : setOut i x g1 = some o) (k : endS K F g s H D o) : D.nx (s.set i (some v)) H1 := by
  cases x with
  | no => cases e
  | v d =>
    cases e
    obtain ⟨y, ey, hp⟩ := hv
    cases ey
    exact k F1 _ H1 ((Tr.of r1 t1 m1).trans (r1.setV i hp))
  | own tg ds =>
    obtain ⟨rfl, a, rfl, na⟩ := hn _ _ rfl
    cases e
    obtain ⟨a', xs, ea, fa, ha, hp, ht⟩ := hv
    cases ea
    have n1 : ¬ OwnAt g1 s a := fun w => by
      obtain ⟨xs, hx, _⟩ := r.ownSome (m1.own w)
      rw [na] at hx; cases hx
    refine k F1 _ H1 ⟨r1.setO i fa ha hp n1, t1, fun b hb => ?_⟩
    rcases ownIn hb r1.len with q | ⟨_, _, _, e2⟩
    · exact .inl (m1.own q)
    · cases e2; exact .inr na
theorem ds_set (i : Nat) {x : Str} {a : Expr} {f : Fv} {pos pos' : Pos} (hN : X.N.Nodup) (he : DV X a f) (hi : X.N[i]? = some x := by rfl) (hx : Loc X.env.scope x := by first | exact Or.inl rfl | exact Or.inr rfl) (hs : swapsWith a (some (.Name x pos')) pos.line X.env = pure false := by rfl)
    (hf : X.fn x = true ∨ X.env.scope.names.lookup x = some .local := by first | exact .inl rfl | exact .inr rfl | assumption) :
    DS X (.Assign [.Name x pos'] a pos) (sSet i f) := psMono (ps_set hN hi hx he hs hf) fun D s H ⟨F, g, o, r, e, k⟩ => by
  unfold sSet at e
  cases q : f g with
  | none => rw [q] at e; cases e
  | some p =>
    obtain ⟨x, g1⟩ := p
    rw [q] at e
    exact ⟨F, g, x, g1, r, q, fun v F1 H1 hv hn r1 t1 m1 => set_end r r1 t1 m1 hv hn e k⟩
/-- name op= e -/
def sAug (i : Nat) (op : D → D → Option D) (f : Fe) : Fs := fun g => match g[i]? with
  | some (.v d0) => (f g).bind fun p => (op d0 p.1).map fun d => .nx (p.2.set i (.v d))
  | _ => none
def IpOk (K : PySem.W.Frag) (r : TIp) (op : D → D → Option D) : Prop := ∀ (x y : V) (d1 d2 d : D) (F H : Hp) (Q : VK), Same F H → Dp K F x d1 → Dp K F y d2 → op d1 d2 = some d →
  (∀ v F' H', Dp K F' v d → Same F' H' → Stp Non F H F' H' → Q v H') → r x y H Q
theorem ds_aug (i : Nat) {x : Str} {a : Expr} {f : Fe} {o : Operator} {op : D → D → Option D} {ti : TIp} {pos pos' : Pos} (hN : X.N.Nodup) (ho : PIp X o ti) (hr : IpOk X.K ti op) (he : DE X a f) (hi : X.N[i]? = some x := by rfl) (hx : Loc X.env.scope x := by first | exact Or.inl rfl | exact Or.inr rfl)
    (hf : X.fn x = true ∨ X.env.scope.names.lookup x = some .local := by first | exact .inl rfl | exact .inr rfl | assumption) : DS X (.AugAssign (.Name x pos') o a pos) (sAug i op f) := psMono (ps_aug hN hi hx he ho hf) fun D s H ⟨F, g, o, r, e, k⟩ => by
  unfold sAug at e
  split at e
  · rename_i d0 hg
    cases q : f g with
    | none => rw [q] at e; cases e
    | some p =>
      rw [q] at e
      have e : (op d0 p.1).map _ = some o := e
      cases q2 : op d0 p.1 with
      | none => rw [q2] at e; cases e
      | some d =>
        rw [q2] at e; cases e
        obtain ⟨o, hs, v, rfl, hp⟩ := r.get hg
        refine ⟨v, hs, F, g, p.1, p.2, r, q, fun v1 F1 H1 p1 r1 t1 m1 => ?_⟩
        refine hr v v1 d0 p.1 d F1 H1 _ r1.fh (dpMono t1.fs _ _ hp) p1 q2 fun z F2 H2 hz fh t2 => ?_
        have r2 := r1.stepN t2 fh
        exact k F2 _ H2 ((Tr.of r2 (t1.andN t2) m1).trans (r2.setV i hz))
  · cases e
theorem ok_ipadd : IpOk X.K (ipI fun i j => i + j) addD := fun x y d1 d2 d F H Q fh p1 p2 e k => by
  unfold addD at e
  split at e
  · cases e
    rename_i i j
    exact ⟨i, j, intOf p1, intOf p2, fin0 fh (.int _) k⟩
  · cases e

/-! ### targets -/
/-- only the slots ws are changed -/
structure Chg (ws : List Nat) (s s' : Sg) : Prop where
  len : s'.length = s.length
  at' : ∀ i, i ∉ ws → s'[i]? = s[i]?
theorem Chg.refl {ws : List Nat} {s : Sg} : Chg ws s s := ⟨rfl, fun _ _ => rfl⟩
theorem Chg.trans {ws vs : List Nat} {a b c : Sg} (x : Chg ws a b) (y : Chg vs b c) : Chg (ws ++ vs) a c := ⟨y.len.trans x.len, fun i h => (y.at' i fun z => h (List.mem_append_right _ z)).trans (x.at' i fun z => h (List.mem_append_left _ z))⟩
abbrev Fg := D → G → Option G
def tG (K : PySem.W.Frag) (f : Fg) (ws : List Nat) : TG := fun v s H Q => ∃ F g d g', Rep K F g s H ∧ Dp K F v d ∧ f d g = some g' ∧ ∀ F' s' H', Tr K F g s H F' g' s' H' → Mo g g' → Chg ws s s' → Q s' H'
def tGs (K : PySem.W.Frag) (f : List D → G → Option G) (ws : List Nat) : TGs := fun vs s H Q => ∃ F g ds g', Rep K F g s H ∧ DpAll K F vs ds ∧ f ds g = some g' ∧ ∀ F' s' H', Tr K F g s H F' g' s' H' → Mo g g' → Chg ws s s' → Q s' H'
def DG (X : Cx) (t : Expr) (f : Fg) (ws : List Nat) : Prop := PG X t (tG X.K f ws)
def DGs (X : Cx) (t : List Expr) (f : List D → G → Option G) (ws : List Nat) : Prop := PGs X t (tGs X.K f ws)
theorem pgMono {t : Expr} {u u' : TG} (h : PG X t u) (m : ∀ v s H Q, u' v s H Q → u v s H Q) : PG X t u' := ⟨fun pins st s H v w Q I r q => h.run pins st s H v w Q I r (m v s H Q q)⟩
theorem pgsMono {t : List Expr} {u u' : TGs} (h : PGs X t u) (m : ∀ v s H Q, u' v s H Q → u v s H Q) : PGs X t u' := ⟨fun pins st s H v w Q I r q => h.run pins st s H v w Q I r (m v s H Q q)⟩
def gVar (i : Nat) : Fg := fun d g => some (g.set i (.v d))
theorem moV {g : G} {i : Nat} {d : D} : Mo g (g.set i (.v d)) := fun j u fs e => by
  by_cases z : i = j
  · subst z
    by_cases hi : i < g.length
    · rw [List.getElem?_set_self hi] at e; cases e
    · rw [List.getElem?_eq_none (by simpa using hi)] at e; cases e
  · rw [List.getElem?_set_ne z] at e; exact ⟨fs, e⟩
theorem dg_name (i : Nat) {x : Str} {pos : Pos} (hN : X.N.Nodup) (hi : X.N[i]? = some x := by rfl) (hx : Loc X.env.scope x := by first | exact Or.inl rfl | exact Or.inr rfl) (hf : X.fn x = true ∨ X.env.scope.names.lookup x = some .local := by first | exact .inl rfl | exact .inr rfl | assumption) : DG X (.Name x pos) (gVar i) [i] :=
  pgMono (pg_name hN hi hx hf) fun v s H Q ⟨F, g, d, g', r, hp, e, k⟩ => by
    cases e
    exact k F _ H (r.setV i hp) moV ⟨by simp, fun j hj => List.getElem?_set_ne fun z => hj (by simp [z])⟩
def gsNil : List D → G → Option G := fun ds g => match ds with
  | [] => some g
  | _ => none
def gsCons (f : Fg) (h : List D → G → Option G) : List D → G → Option G := fun ds g => match ds with
  | d :: r => (f d g).bind fun g1 => h r g1
  | _ => none
theorem dgs_nil : DGs X [] gsNil [] := pgsMono pgs_nil fun v s H Q ⟨F, g, d, g', r, hp, e, k⟩ => by
  unfold gsNil at e
  split at e
  · cases e
    cases hp
    exact ⟨rfl, k F s H (Tr.refl r) Mo.refl Chg.refl⟩
  · cases e
theorem dgs_cons {t : Expr} {ts : List Expr} {f : Fg} {h : List D → G → Option G} {ws vs : List Nat} (h1 : DG X t f ws) (h2 : DGs X ts h vs) (hs : (assignEach (t :: ts) X.env).map (·.2) = assign t X.env :: (assignEach ts X.env).map (·.2) := by rfl) : DGs X (t :: ts) (gsCons f h) (ws ++ vs) :=
  pgsMono (pgs_cons h1 h2 hs) fun v s H Q ⟨F, g, ds, g', r, hp, e, k⟩ => by
    unfold gsCons at e
    split at e
    · rename_i d rs
      cases hp with
      | cons p1 p2 =>
        cases q : f d g with
        | none => rw [q] at e; cases e
        | some g1 =>
          rw [q] at e
          exact ⟨_, _, rfl, F, g, d, g1, r, p1, q, fun F1 s1 H1 t1 m1 c1 => ⟨F1, g1, rs, g', t1.rep, dpMonos t1.stp.fs _ _ p2, e, fun F2 s2 H2 t2 m2 c2 => k F2 s2 H2 (t1.trans t2) (m1.trans m2) (c1.trans c2)⟩⟩
    · cases e
def gTup (f : List D → G → Option G) (n : Nat) : Fg := fun d g => match d with
  | .tuple ds => if ds.length = n then f ds g else none
  | _ => none
theorem dg_tup {es : List Expr} {k : Nat} {pos : Pos} {f : List D → G → Option G} {ws : List Nat} (n : Nat) (hc : X.calm = true) (h : DGs X es f ws) (hn : (assignEach es X.env).length = n := by rfl) (hst : (assignEach es X.env).findIdx? (·.1) = none := by rfl) : DG X (.Tuple es k pos) (gTup f n) ws :=
  pgMono (pg_tup hc h hn hst) fun v s H Q ⟨F, g, d, g', r, hp, e, k⟩ => by
    unfold gTup at e
    split at e
    · rename_i ds
      split at e
      · rename_i hl
        cases hp with
        | tup hs ha => exact ⟨_, _, rfl, Same.tupS r.fh hs, by rw [dpLen ha, hl], F, g, ds, g', r, ha, e, k⟩
      · cases e
    · cases e
/-- target = e (a pattern) -/
def sAsg (f : Fe) (t : Fg) : Fs := fun g => (f g).bind fun p => (t p.1 p.2).map .nx
theorem ds_asg {tg a : Expr} {f : Fe} {t : Fg} {ws : List Nat} {pos : Pos} (he : DE X a f) (hg : DG X tg t ws) (hs : swapsWithSole [tg] a pos.line X.env = pure false := by rfl) (hw : swappedStores [tg] a X.env = pure none := by rfl)
    (h1 : (assignEach [tg] X.env).map (·.2) = [assign tg X.env] := by rfl) : DS X (.Assign [tg] a pos) (sAsg f t) := psMono (ps_asg he hg hs hw h1) fun D s H ⟨F, g, o, r, e, k⟩ => by
  unfold sAsg at e
  cases q : f g with
  | none => rw [q] at e; cases e
  | some p =>
    rw [q] at e
    have e : (t p.1 p.2).map _ = some o := e
    cases q2 : t p.1 p.2 with
    | none => rw [q2] at e; cases e
    | some g2 =>
      rw [q2] at e; cases e
      exact ⟨F, g, p.1, p.2, r, q, fun v F1 H1 p1 r1 t1 m1 => ⟨F1, p.2, p.1, g2, r1, p1, q2, fun F2 s2 H2 t2 _ _ => k F2 s2 H2 ((Tr.of r1 t1 m1).trans t2)⟩⟩

/-! ### two values at once -/
theorem par_set {K : PySem.W.Frag} {F H F1 H1 : Hp} {g g1 : G} {s s1 : Sg} {x : Sl} {v : V} (i : Nat) (r1 : Tr K F g s H F1 g1 s1 H1) (hv : RepS K F1 H1 x (some v)) (hx : x ≠ .no)
    (hn : ∀ t ds, x = .own t ds → t = none ∧ ∃ a, v = .ref a ∧ H a = none ∧ ¬ OwnAt g1 s1 a) : Tr K F g s H F1 (g1.set i x) (s1.set i (some v)) H1 := by
  cases x with
  | no => exact absurd rfl hx
  | v d =>
    obtain ⟨y, ey, hp⟩ := hv
    cases ey
    exact r1.trans (r1.rep.setV i hp)
  | own tg ds =>
    obtain ⟨rfl, a, rfl, na, n1⟩ := hn _ _ rfl
    obtain ⟨a', xs, ea, fa, ha, hp, ht⟩ := hv
    cases ea
    refine ⟨r1.rep.setO i fa ha hp n1, r1.stp, fun b hb => ?_⟩
    rcases ownIn hb r1.rep.len with q | ⟨_, _, _, e2⟩
    · exact r1.own b q
    · cases e2; exact .inr na
/-- a, b = e1, e2 -/
def parOut (i j : Nat) (x y : Sl) (g : G) : Option Out := match x, y with
  | .no, _ => none
  | _, .no => none
  | x, y => some (.nx ((g.set i x).set j y))
def sPar (i j : Nat) (f h : Fv) : Fs := fun g => (f g).bind fun p => (h p.2).bind fun q => parOut i j p.1 q.1 q.2
theorem keepRep {K : PySem.W.Frag} {F H F1 H1 : Hp} {g : G} {s : Sg} {x : Sl} {v : V} (r : Rep K F g s H) (hv : RepS K F H x (some v)) (t : Stp (OwnAt g s) F H F1 H1) (hn : ∀ t ds, x = .own t ds → ∃ a, v = .ref a ∧ ¬ OwnAt g s a) (fh : Same F1 H1) : RepS K F1 H1 x (some v) := by
  cases x with
  | no => trivial
  | v d =>
    obtain ⟨y, ey, hp⟩ := hv
    exact ⟨y, ey, dpMono t.fs _ _ hp⟩
  | own tg ds =>
    obtain ⟨a, xs, ea, fa, ha, hp, ht⟩ := hv
    obtain ⟨a', e, n⟩ := hn _ _ rfl
    cases ea; cases e
    refine ⟨a, xs, rfl, ?_, t.keep a _ ha n, dpMonos t.fs _ _ hp, ht⟩
    cases z : F1 a with
    | none => rfl
    | some u =>
      rcases t.fresh a fa (by rw [z]; simp) with q | q
      · rw [q] at ha; cases ha
      · exact absurd q n
theorem ds_par (i j : Nat) {x y : Str} {a b : Expr} {f h : Fv} {pos px py pt : Pos} {kt k2 pt2} (hc : X.calm = true) (hN : X.N.Nodup) (ha : DV X a f) (hb : DV X b h) (hi : X.N[i]? = some x := by rfl) (hj : X.N[j]? = some y := by rfl) (hij : i ≠ j := by decide)
    (hx : X.env.scope.names.lookup x = some .local := by rfl) (hy : X.env.scope.names.lookup y = some .local := by rfl)
    (hw : swappedStores [.Tuple [.Name x px, .Name y py] kt pt] (.Tuple [a, b] k2 pt2) X.env = pure (some [x, y]) := by rfl)
    (hs : swapsWithSole [.Tuple [.Name x px, .Name y py] kt pt] (.Tuple [a, b] k2 pt2) pos.line X.env = pure false := by rfl)
    (h1 : starEach [a, b] X.env = (false, eval a X.env) :: starEach [b] X.env := by rfl) (h2 : starEach [b] X.env = (false, eval b X.env) :: starEach [] X.env := by rfl) :
    DS X (.Assign [.Tuple [.Name x px, .Name y py] kt pt] (.Tuple [a, b] k2 pt2) pos) (sPar i j f h) := psMono (ps_par hc hN hi hj hij hx hy (pa_cons ha (pa_cons hb pa_nil h2) h1) hw hs) fun D s H ⟨F, g, o, r, e, k⟩ => by
  unfold sPar at e
  cases q : f g with
  | none => rw [q] at e; cases e
  | some p =>
    obtain ⟨x1, g1⟩ := p
    rw [q] at e
    have e : (h g1).bind _ = some o := e
    cases q2 : h g1 with
    | none => rw [q2] at e; cases e
    | some p2 =>
      obtain ⟨x2, g2⟩ := p2
      rw [q2] at e
      have e : parOut i j x1 x2 g2 = some o := e
      have hx1 : x1 ≠ .no := fun z => by subst z; cases e
      have hx2 : x2 ≠ .no := fun z => by subst z; cases x1 <;> cases e
      have eo : o = Out.nx ((g2.set i x1).set j x2) := by
        cases x1 <;> cases x2 <;> first | (cases e; rfl) | exact absurd rfl hx1 | exact absurd rfl hx2
      subst eo
      refine ⟨F, g, x1, g1, r, q, fun v F1 H1 hv hn r1 t1 m1 => ⟨F1, g1, x2, g2, r1, q2, fun w F2 H2 hw2 hn2 r2 t2 m2 => ⟨v, w, rfl, ?_⟩⟩⟩
      have na : ∀ a, H a = none → ¬ OwnAt g1 s a := fun a ha z => by
        obtain ⟨xs, hx, _⟩ := r.ownSome (m1.own z)
        rw [ha] at hx; cases hx
      have hv2 : RepS X.K F2 H2 x1 (some v) := keepRep r1 hv t2 (fun tg ds z => by
        obtain ⟨_, a, ea, n⟩ := hn tg ds z
        exact ⟨a, ea, na a n⟩) r2.fh
      have t02 := Tr.of r2 (t1.two m1 t2) (m1.trans m2)
      have s1 := par_set i t02 hv2 hx1 fun tg ds z => by
        obtain ⟨e1, a, ea, n⟩ := hn tg ds z
        exact ⟨e1, a, ea, n, fun z2 => na a n (m2.own z2)⟩
      have s2 := par_set j s1 hw2 hx2 fun tg ds z => by
        obtain ⟨e1, a, ea, n⟩ := hn2 tg ds z
        refine ⟨e1, a, ea, ?_, fun z2 => ?_⟩
        · cases z3 : H a with
          | none => rfl
          | some u => exact absurd n (t1.dom a (by rw [z3]; simp))
        · rcases ownIn z2 r2.len with q3 | ⟨_, _, e3, e4⟩
          · obtain ⟨xs, hx, _⟩ := r1.ownSome (m2.own q3)
            rw [n] at hx; cases hx
          · subst e3
            cases e4
            obtain ⟨a', xs, ea', _, ha', _⟩ := hv
            cases ea'
            rw [n] at ha'; cases ha'
      exact k F2 _ H2 s2

/-! ### stores into a list of the frame's own -/
/-- name[e] = e' -/
def sPut (i : Nat) (fj : Fe) (f : Fv) : Fs := fun g => (eV f g).bind fun p => (slD p.2[i]?).bind fun _ => (fj p.2).bind fun q => match q.2[i]?, q.1 with
  | some (.own t ds), .int k => (ixN ds.length k).map fun m => .nx (q.2.set i (.own t (ds.set m p.1)))
  | _, _ => none
theorem ds_put (i : Nat) {x : Str} {a b : Expr} {f : Fv} {fj : Fe} {pos p1 p2 : Pos} (he : DV X a f) (hj : DE X b fj) (hN : X.N[i]? = some x := by rfl) (hv : Vis X.env.scope x := by first | exact Or.inl rfl | exact Or.inr (Or.inl rfl) | exact Or.inr (Or.inr rfl)) (hd : (x == ("__debug__" : Str)) = false := by decide)
    (hcd : (x == ("__classdict__" : Str)) = false := by decide) (hs : swapsWithSole [.Subscript (.Name x p1) b p2] a pos.line X.env = pure false := by rfl) (hw : swappedStores [.Subscript (.Name x p1) b p2] a X.env = pure none := by rfl)
    (h1 : (assignEach [.Subscript (.Name x p1) b p2] X.env).map (·.2) = [assign (.Subscript (.Name x p1) b p2) X.env] := by rfl)
    (ha : ∀ v, assign (.Subscript (.Name x p1) b p2) X.env v = (do
      let ov ← holding [v] (eval (.Name x p1) X.env)
      let iv ← holding [v, ov] (eval b X.env)
      standAt p2
      holding [v, ov, iv] (setItem ov iv v)
      release [v, ov, iv] []) := by intro _; rfl) : DS X (.Assign [.Subscript (.Name x p1) b p2] a pos) (sPut i fj f) :=
  psMono (ps_asg (de_dv he) (pg_sub (pe_var hN hv hd hcd) hj set_list ha) hs hw h1) fun D s H ⟨F, g, o, r, e, k⟩ => by
    unfold sPut at e
    cases q : eV f g with
    | none => rw [q] at e; cases e
    | some p =>
      obtain ⟨d, g1⟩ := p
      rw [q] at e
      have e : (slD g1[i]?).bind _ = some o := e
      cases q0 : slD g1[i]? with
      | none => rw [q0] at e; cases e
      | some d0 =>
        rw [q0] at e
        have e : (fj g1).bind _ = some o := e
        cases q2 : fj g1 with
        | none => rw [q2] at e; cases e
        | some p2 =>
          obtain ⟨dj, g2⟩ := p2
          rw [q2] at e
          simp only [Option.bind_some] at e
          split at e
          · rename_i tg ds kk hg
            cases q3 : ixN ds.length kk with
            | none => rw [q3] at e; cases e
            | some m =>
              rw [q3] at e; cases e
              refine ⟨F, g, d, g1, r, q, fun v F1 H1 hp r1 t1 m1 => ?_⟩
              obtain ⟨x0, w, _, hw, _⟩ := slGet r1 q0
              refine ⟨w, hw, F1, g1, _, g2, r1, q2, fun vj F2 H2 hpj r2 t2 m2 => ?_⟩
              obtain ⟨o, ho, a, xs, eo, fa, hal, hps, ht⟩ := r2.get hg
              rw [hw] at ho; cases ho; cases eo
              refine ⟨a, xs, kk, m, rfl, intOf hpj, hal, by rw [dpLen hps]; exact q3, ?_⟩
              exact k F2 _ _ ((Tr.of r2 (t1.two m1 t2) (m1.trans m2)).trans (r2.turn hg hw (dpSet (dpMono t2.fs _ _ hp) m hps)))
          · cases e
def ownD : Option Sl → Option (List D)
  | some (.own _ ds) => some ds
  | _ => none
/-- name.append(e) -/
def eApp (i : Nat) (f : Fv) : Fe := fun g => (ownD g[i]?).bind fun _ => (eV f g).bind fun q => match q.2[i]? with
  | some (.own t ds) => if ds.length < 1000000 then some (.none, q.2.set i (.own t (ds ++ [q.1]))) else none
  | _ => none
theorem moSet {g : G} {i : Nat} {t : Option Addr} {ds es : List D} (h : g[i]? = some (.own t ds)) : Mo g (g.set i (.own t es)) := fun j u fs e => by
  by_cases z : i = j
  · subst z
    rw [List.getElem?_set_self (List.getElem?_eq_some_iff.mp h).1] at e
    cases e; exact ⟨ds, h⟩
  · rw [List.getElem?_set_ne z] at e; exact ⟨fs, e⟩
theorem de_app (i : Nat) {x : Str} {a : Expr} {f : Fv} {pos p1 p2 : Pos} (he : DV X a f) (hN : X.N[i]? = some x := by rfl) (hv : Vis X.env.scope x := by first | exact Or.inl rfl | exact Or.inr (Or.inl rfl) | exact Or.inr (Or.inr rfl)) (hd : (x == ("__debug__" : Str)) = false := by decide)
    (hcd : (x == ("__classdict__" : Str)) = false := by decide) (t : PE X (.Call (.Attribute (.Name x p1) "append" p2) [a] [] pos) (tBM X.K "list" rAppend (tVar i) (tCons (tD X.K (eV f)) tNil))) : DE X (.Call (.Attribute (.Name x p1) "append" p2) [a] [] pos) (eApp i f) :=
  peMono t fun s H Q ⟨F, g, d, g', r, e, k⟩ => by
    unfold eApp at e
    cases q0 : ownD g[i]? with
    | none => rw [q0] at e; cases e
    | some d0 =>
      rw [q0] at e
      have e : (eV f g).bind _ = some (d, g') := e
      cases q2 : eV f g with
      | none => rw [q2] at e; cases e
      | some p2 =>
        obtain ⟨dj, g2⟩ := p2
        rw [q2] at e
        simp only [Option.bind_some] at e
        split at e
        · rename_i tg ds hg
          split at e
          · rename_i hl
            cases e
            have hw : ∃ w xs, s[i]? = some (some (.ref w)) ∧ H w = some (.lst xs) := by
              unfold ownD at q0
              split at q0
              · rename_i t0 ds0 hx0
                obtain ⟨o, ho, a, xs, ea, _, ha, _⟩ := r.get hx0
                subst ea
                exact ⟨a, xs, ho, ha⟩
              · cases q0
            obtain ⟨w, xs0, hw, hxs0⟩ := hw
            refine ⟨.ref w, hw, .inl ⟨rfl, _, SqL.of hxs0⟩, F, g, dj, g2, r, q2, fun vj F2 H2 hpj r2 t2 m2 => ?_⟩
            · obtain ⟨o, ho, a, xs, eo, fa, hal, hps, ht⟩ := r2.get hg
              rw [hw] at ho; cases ho; cases eo
              have tr := r2.turn hg hw (dpApp hps (.cons hpj .nil))
              exact ⟨_, xs, vj, rfl, rfl, hal, by rw [dpLen hps]; exact Nat.lt_of_lt_of_le hl million, k .non F2 _ .non tr.rep (t2.two m2 tr.stp) (m2.trans (moSet hg))⟩
          · cases e
        · cases e
end Dl
set_option Elab.async false
set_option linter.all false
set_option maxRecDepth 100000
namespace Dl
open PySem PySem.Spec PyProof.Rows L2
variable {X : Cx}

/-! ### while -/
/-- n turns and an end -/
inductive WhN (t : Ft) (b : Fs) : Nat → G → Out → Prop
  | stop {g g1 : G} : t g = some (false, g1) → WhN t b 0 g (.nx g1)
  | nx {n : Nat} {g g1 g2 : G} {o : Out} : t g = some (true, g1) → b g1 = some (.nx g2) → WhN t b n g2 o → WhN t b (n + 1) g o
  | ct {n : Nat} {g g1 g2 : G} {o : Out} : t g = some (true, g1) → b g1 = some (.ct g2) → WhN t b n g2 o → WhN t b (n + 1) g o
  | bk {g g1 g2 : G} : t g = some (true, g1) → b g1 = some (.bk g2) → WhN t b 0 g (.nx g2)
  | ret {g g1 g2 : G} {x : Sl} : t g = some (true, g1) → b g1 = some (.ret x g2) → WhN t b 0 g (.ret x g2)
theorem WhN.det {t : Ft} {b : Fs} {n : Nat} {g : G} {o : Out} (h : WhN t b n g o) : ∀ {m : Nat} {o' : Out}, WhN t b m g o' → n = m ∧ o = o' := by
  induction h with
  | stop h1 =>
    intro m o' h'
    cases h' <;> rename_i h2 <;> simp_all
  | nx h1 h2 h3 ih =>
    intro m o' h'
    cases h' with
    | nx k1 k2 k3 =>
      rw [h1] at k1; cases k1
      rw [h2] at k2; cases k2
      obtain ⟨e1, e2⟩ := ih k3
      exact ⟨by rw [e1], e2⟩
    | stop k1 => rw [h1] at k1; cases k1
    | ct k1 k2 k3 => rw [h1] at k1; cases k1; rw [h2] at k2; cases k2
    | bk k1 k2 => rw [h1] at k1; cases k1; rw [h2] at k2; cases k2
    | ret k1 k2 => rw [h1] at k1; cases k1; rw [h2] at k2; cases k2
  | ct h1 h2 h3 ih =>
    intro m o' h'
    cases h' with
    | ct k1 k2 k3 =>
      rw [h1] at k1; cases k1
      rw [h2] at k2; cases k2
      obtain ⟨e1, e2⟩ := ih k3
      exact ⟨by rw [e1], e2⟩
    | stop k1 => rw [h1] at k1; cases k1
    | nx k1 k2 k3 => rw [h1] at k1; cases k1; rw [h2] at k2; cases k2
    | bk k1 k2 => rw [h1] at k1; cases k1; rw [h2] at k2; cases k2
    | ret k1 k2 => rw [h1] at k1; cases k1; rw [h2] at k2; cases k2
  | bk h1 h2 =>
    intro m o' h'
    cases h' with
    | bk k1 k2 => rw [h1] at k1; cases k1; rw [h2] at k2; cases k2; exact ⟨rfl, rfl⟩
    | stop k1 => rw [h1] at k1; cases k1
    | nx k1 k2 k3 => rw [h1] at k1; cases k1; rw [h2] at k2; cases k2
    | ct k1 k2 k3 => rw [h1] at k1; cases k1; rw [h2] at k2; cases k2
    | ret k1 k2 => rw [h1] at k1; cases k1; rw [h2] at k2; cases k2
  | ret h1 h2 =>
    intro m o' h'
    cases h' with
    | ret k1 k2 => rw [h1] at k1; cases k1; rw [h2] at k2; cases k2; exact ⟨rfl, rfl⟩
    | stop k1 => rw [h1] at k1; cases k1
    | nx k1 k2 k3 => rw [h1] at k1; cases k1; rw [h2] at k2; cases k2
    | ct k1 k2 k3 => rw [h1] at k1; cases k1; rw [h2] at k2; cases k2
    | bk k1 k2 => rw [h1] at k1; cases k1; rw [h2] at k2; cases k2
open Classical in
/-- the end of a while, where it comes to one -/
noncomputable def sWhile (t : Ft) (b : Fs) : Fs := fun g => if h : ∃ o n, WhN t b n g o then some h.choose else none
theorem sWhile_of {t : Ft} {b : Fs} {n : Nat} {g : G} {o : Out} (h : WhN t b n g o) : sWhile t b g = some o := by
  have hx : ∃ o n, WhN t b n g o := ⟨o, n, h⟩
  unfold sWhile
  rw [dif_pos hx]
  obtain ⟨m, hm⟩ := hx.choose_spec
  rw [(h.det hm).2]
theorem sWhile_inv {t : Ft} {b : Fs} {g : G} {o : Out} (h : sWhile t b g = some o) : ∃ n, WhN t b n g o := by
  unfold sWhile at h
  split at h
  · rename_i hx
    cases h
    exact hx.choose_spec
  · cases h
/-- one turn -/
theorem sWhile_stop {t : Ft} {b : Fs} {g g1 : G} (h : t g = some (false, g1)) : sWhile t b g = some (.nx g1) := sWhile_of (.stop h)
theorem sWhile_nx {t : Ft} {b : Fs} {g g1 g2 : G} (h : t g = some (true, g1)) (h2 : b g1 = some (.nx g2)) {o : Out} (h3 : sWhile t b g2 = some o) : sWhile t b g = some o := by
  obtain ⟨n, hn⟩ := sWhile_inv h3
  exact sWhile_of (.nx h h2 hn)
theorem ds_while {c : Expr} {body : List Stmt} {pos : Pos} {t : Ft} {b : Fs} (hp : PassesOwn (model X.prog X.w) X.A X.env X.xe) (hc : DT X c t) (hb : DSs X body b) : DS X (.While c body [] pos) (sWhile t b) := psMono (ps_while hp hc hb) fun D s H ⟨F, g, o, r, e, k⟩ => by
  obtain ⟨n, hn⟩ := sWhile_inv e
  refine ⟨fun m s1 H1 => ∃ F1 g1, Tr X.K F g s H F1 g1 s1 H1 ∧ WhN t b m g1 o, ⟨n, F, g, Tr.refl r, hn⟩, fun m s1 H1 ⟨F1, g1, t1, w⟩ => ?_⟩
  cases w with
  | stop h1 =>
    refine ⟨F1, g1, _, _, t1.rep, h1, fun F2 H2 r2 st2 m2 => ?_⟩
    exact iteF (k F2 s1 H2 (t1.trans (Tr.of r2 st2 m2)))
  | @nx n' _ ga gb _ h1 h2 h3 =>
    refine ⟨F1, g1, _, _, t1.rep, h1, fun F2 H2 r2 st2 m2 => iteT ?_⟩
    refine ⟨fun s' H' => ∃ F3, Tr X.K F g s H F3 gb s' H', fun s' H' ⟨F3, t3⟩ => ⟨n', Nat.lt_succ_self _, F3, gb, t3, h3⟩, F2, ga, _, r2, h2, fun F3 s3 H3 t3 => ⟨F3, (t1.trans (Tr.of r2 st2 m2)).trans t3⟩⟩
  | @ct n' _ ga gb _ h1 h2 h3 =>
    refine ⟨F1, g1, _, _, t1.rep, h1, fun F2 H2 r2 st2 m2 => iteT ?_⟩
    refine ⟨fun s' H' => ∃ F3, Tr X.K F g s H F3 gb s' H', fun s' H' ⟨F3, t3⟩ => ⟨n', Nat.lt_succ_self _, F3, gb, t3, h3⟩, F2, ga, _, r2, h2, fun F3 s3 H3 t3 => ⟨F3, (t1.trans (Tr.of r2 st2 m2)).trans t3⟩⟩
  | @bk _ ga gb h1 h2 =>
    refine ⟨F1, g1, _, _, t1.rep, h1, fun F2 H2 r2 st2 m2 => iteT ?_⟩
    refine ⟨fun _ _ => False, fun _ _ z => z.elim, F2, ga, _, r2, h2, fun F3 s3 H3 t3 => k F3 s3 H3 ((t1.trans (Tr.of r2 st2 m2)).trans t3)⟩
  | @ret _ ga gb x h1 h2 =>
    refine ⟨F1, g1, _, _, t1.rep, h1, fun F2 H2 r2 st2 m2 => iteT ?_⟩
    have tt := t1.trans (Tr.of r2 st2 m2)
    exact ⟨fun _ _ => False, fun _ _ z => z.elim, F2, ga, _, r2, h2, fun v F3 s3 H3 a n b t3 => k v F3 s3 H3 a n (b.back tt) (tt.trans t3)⟩

/-! ### what is walked -/
/-- the walk J gives the data ds, one by one -/
structure Itd (K : PySem.W.Frag) (F0 : Hp) (J : It) (ds : List D) : Prop where
  go : ∀ (i : Nat) (H : Hp), Same F0 H → i < ds.length → J.go i H
  stop : ∀ H, Same F0 H → J.stop ds.length H
  yld : ∀ (i : Nat) (F H : Hp) (x : V) (H' : Hp), Same F0 F → Same F H → i < ds.length → J.yld i H x H' → ∃ F' d, ds[i]? = some d ∧ Dp K F' x d ∧ Same F' H' ∧ Stp Non F H F' H'
def tI (K : PySem.W.Frag) (f : Fa) : TI := fun s H R => ∃ F g ds g', Rep K F g s H ∧ f g = some (ds, g') ∧
  ∀ J F' H', Rep K F' g' s H' → Stp (OwnAt g s) F H F' H' → Mo g g' → Itd K F' J ds → R J H'
def DI (X : Cx) (tg iter : Expr) (f : Fa) : Prop := PI X tg iter (tI X.K f)
theorem piMono {tg iter : Expr} {t t' : TI} (h : PI X tg iter t) (m : ∀ s H R, t' s H R → t s H R) : PI X tg iter t' := ⟨fun pins st s H R I w => h.run pins st s H R I (m s H R w)⟩
theorem piOr {tg iter : Expr} {t t' : TI} (h : PI X tg iter t) (h' : PI X tg iter t') : PI X tg iter (fun s H R => t s H R ∨ t' s H R) := ⟨fun pins st s H R I w => w.elim (h.run pins st s H R I) (h'.run pins st s H R I)⟩
theorem itdSeq {K : PySem.W.Frag} {F : Hp} {J : It} {xs : List V} {ds : List D} {P : Hp → Prop} (hp : DpAll K F xs ds) (hP : ∀ H, Same F H → P H) (w : Walk J xs.length P (YAt xs)) : Itd K F J ds where
  go := fun i H h hi => w.goes i H (by rw [dpLen hp]; exact hi) (hP H h)
  stop := fun H h => by rw [← dpLen hp]; exact w.stops H (hP H h)
  yld := fun i F1 H x H' h1 h2 hi y => by
    obtain ⟨e, hx⟩ := w.yields i H x H' (by rw [dpLen hp]; exact hi) (hP H (h1.trans h2)) y
    subst e
    obtain ⟨d, hd, q⟩ := dpAtV hp hx
    exact ⟨F1, d, hd, dpMono h1 _ _ q, h2, Stp.refl⟩
def seqD : D → Option (List D)
  | .list ds => some ds
  | .tuple ds => some ds
  | _ => none
def iSeq (f : Fe) : Fa := fun g => (f g).bind fun p => (seqD p.1).map fun ds => (ds, p.2)
theorem iSeq_inv {f : Fe} {g g' : G} {ds : List D} (h : iSeq f g = some (ds, g')) : ∃ d, f g = some (d, g') ∧ seqD d = some ds := by
  unfold iSeq at h
  cases q : f g with
  | none => rw [q] at h; cases h
  | some p =>
    rw [q] at h
    have h : (seqD p.1).map _ = some (ds, g') := h
    cases q2 : seqD p.1 with
    | none => rw [q2] at h; cases h
    | some d2 => rw [q2] at h; cases h; exact ⟨p.1, rfl, q2⟩
/-- a list or a tuple -/
theorem di_seq {tg a : Expr} {f : Fe} (h : DE X a f) : DI X tg a (iSeq f) := piMono (piOr (pi_list h) (pi_tup h)) fun s H R ⟨F, g, ds, g', r, e, k⟩ => by
  obtain ⟨d, e1, e2⟩ := iSeq_inv e
  cases d with
  | list es =>
    cases e2
    refine .inl ⟨F, g, _, g', r, e1, fun v F1 H1 p1 r1 t1 m1 => ?_⟩
    cases p1 with
    | lst hs ha => exact ⟨_, rfl, ⟨_, r1.fh.seq hs⟩, k _ F1 H1 r1 t1 m1 (itdSeq ha (fun H q => q.seq hs) walk_list)⟩
  | tuple es =>
    cases e2
    refine .inr ⟨F, g, _, g', r, e1, fun v F1 H1 p1 r1 t1 m1 => ?_⟩
    cases p1 with
    | tup hs ha => exact ⟨_, rfl, ⟨_, Same.tupS r1.fh hs⟩, k _ F1 H1 r1 t1 m1 (itdSeq ha (fun H q => Same.tupS q hs) walk_tup)⟩
  | _ => cases e2
/-- range -/
def rangeL (lo : Int) (n : Nat) : List D := (List.range n).map fun (i : Nat) => PyData.int (lo + (i : Nat))
theorem itdRange {K : PySem.W.Frag} {F : Hp} {lo : Int} {n : Nat} : Itd K F (Itr lo n) (rangeL lo n) where
  go := fun i H h hi => by
    show i < n
    simpa [rangeL] using hi
  stop := fun H h => by
    show n ≤ (rangeL lo n).length
    simp [rangeL]
  yld := fun i F1 H x H' h1 h2 hi y => by
    obtain ⟨e, hx⟩ := y
    subst e hx
    have hi' : i < n := by simpa [rangeL] using hi
    exact ⟨F1, .int (lo + i), by simp [rangeL, hi'], .int _, h2, Stp.refl⟩
def SmI (i : Int) : Prop := -(2 ^ 62) ≤ i ∧ i < 2 ^ 62
instance (i : Int) : Decidable (SmI i) := by unfold SmI; exact inferInstance
def iRange1 (f : Fa) : Fa := fun g => match f g with
  | some ([.int j], g') => if SmI j then some (rangeL 0 j.toNat, g') else none
  | _ => none
def iRange2 (f : Fa) : Fa := fun g => match f g with
  | some ([.int i, .int j], g') => if SmI i ∧ SmI j then some (rangeL i (j - i).toNat, g') else none
  | _ => none
theorem dp1 {K : PySem.W.Frag} {F : Hp} {vs : List V} {i : Int} (h : DpAll K F vs [.int i]) : vs = [.int i] := by
  cases h with
  | cons h1 h2 => cases h1; cases h2; rfl
theorem dp2 {K : PySem.W.Frag} {F : Hp} {vs : List V} {i j : Int} (h : DpAll K F vs [.int i, .int j]) : vs = [.int i, .int j] := by
  cases h with
  | cons h1 h2 =>
    cases h1
    cases h2 with
    | cons h3 h4 => cases h3; cases h4; rfl
theorem di_range1 {tg a : Expr} {p pos : Pos} {f : Fa} (hg : Gl X "range") (hm : X.mg "range" = none) (ha : DA X [a] f)
    (hs : starEach [a] X.env = [(false, eval a X.env)] := by rfl) :
    DI X tg (.Call (.Name "range" p) [a] [] pos) (iRange1 f) := piMono (pi_range1 hg hm ha hs) fun s H R ⟨F, g, ds, g', r, e, k⟩ => by
  unfold iRange1 at e
  split at e
  · rename_i j g1 q
    split at e
    · rename_i hj
      cases e
      exact ⟨F, g, _, _, r, q, fun vs F1 H1 p1 r1 t1 m1 => ⟨j, dp1 p1, hj.1, hj.2, k _ F1 H1 r1 t1 m1 itdRange⟩⟩
    · cases e
  · cases e
theorem di_range2 {tg a b : Expr} {p pos : Pos} {f : Fa} (t : PI X tg (.Call (.Name "range" p) [a, b] [] pos) (iRng2 (tA X.K f))) :
    DI X tg (.Call (.Name "range" p) [a, b] [] pos) (iRange2 f) := piMono t fun s H R ⟨F, g, ds, g', r, e, k⟩ => by
  unfold iRange2 at e
  split at e
  · rename_i i j g1 q
    split at e
    · rename_i hj
      cases e
      exact ⟨F, g, _, _, r, q, fun vs F1 H1 p1 r1 t1 m1 => ⟨i, j, dp2 p1, ⟨hj.1.1, hj.1.2, hj.2.1, hj.2.2⟩, k _ F1 H1 r1 t1 m1 itdRange⟩⟩
    · cases e
  · cases e
end Dl
set_option Elab.async false
set_option linter.all false
set_option maxRecDepth 100000
namespace Dl
open PySem PySem.Spec PyProof.Rows L2

/-! ### enumerate of a tuple -/
section
open Sem (wp)
theorem newEnum1 {v : Value} {ob : Obj} {C : Heap → Prop} (B : Begins v ob C) : Meets (Builtin.«enumerate.__new__» ⟨[.type "enumerate", v], []⟩) (fun _ R st => C st.heap ∧
    R (.ok (.ret (.ref (st.heap.push ob).objs.size))) { st with heap := (st.heap.push ob).push { cls := .type "enumerate", data := .fields #[.none, .bool false, .ref st.heap.objs.size, rawInt 0, .none, .none] } }) :=
  .of_wp fun P w A R st hyp => by
    obtain ⟨hp, gg, dd, tk, os⟩ := st
    obtain ⟨c0, hyp⟩ := hyp
    have hsub := sub_enumerate
    have q1 : ∀ {A' : Around} {E : Value → Shared → Prop} {Q : Value → Shared → Prop}, Q (.ref hp.objs.size) ⟨hp.push ob, gg, dd, tk, os⟩ → wpAny (model P w) A' (pyIter v) Q E ⟨hp, gg, dd, tk, os⟩ := fun q => B.iter P w _ _ ⟨hp, gg, dd, tk, os⟩ _ c0 q
    wp_walk using q1
    refine wpAny_stack_any fun stk => wpAny_pure ?_
    split
    · rename_i cc _ _ _ _ _
      cases (cc == Value.type "enumerate")
      all_goals
        wp_walk using q1
        exact ⟨_, rfl, hyp⟩
    · wp_walk using q1
      exact ⟨_, rfl, hyp⟩
theorem callEnum1 {P : Program} {w : World} {A : Around} {E : Value → Shared → Prop} {st : Shared} {v : Value} {ob : Obj} {C : Heap → Prop} {Q : Value → Shared → Prop} (B : Begins v ob C) (c0 : C st.heap)
    (k : ∀ h', IsEnum h' (st.heap.objs.size + 1) st.heap.objs.size 0 .none → h'.get? st.heap.objs.size = some ob → (∀ b o, st.heap.get? b = some o → h'.get? b = some o) → Q (.ref (st.heap.objs.size + 1)) { st with heap := h' }) :
    wpAny (model P w) A (call (.type "enumerate") [v]) Q E st := by
  refine callType_new F.called_enumerate (by decide) (F.typeCall_enumerate_1 _) (F.newCall_enumerate_1 _) (fun obj => F.args_object_init_2 obj _) F.entry_enumerate_new (newEnum1 B) ⟨c0, ?_⟩
  have sz : (st.heap.push ob).objs.size = st.heap.objs.size + 1 := Heap.size_push ..
  show _ ∧ _
  rw [sz]
  have en := Heap.get?_push_size (st.heap.push ob) (o := { cls := .type "enumerate", data := .fields #[.none, .bool false, .ref st.heap.objs.size, rawInt 0, .none, .none] }) rfl
  rw [sz] at en
  exact ⟨⟨_, en, rfl⟩, k _ en (Heap.get?_push_of_some _ (Heap.get?_push_size _ B.free)) fun b o x => Heap.get?_push_of_some _ (Heap.get?_push_of_some _ x)⟩
end
/-- the tuple at a, its items counted from 0, in new pairs -/
def ItE (K : PySem.W.Frag) (a : Addr) : It :=
  ⟨fun i H => ∃ (xs : List V) (x : V), SqT K H a xs ∧ xs[i]? = some x, fun i H v H' => ∃ T x, v = .ref T ∧ H T = none ∧ H' = upd H T (.tup [.int (i : Nat), x]) ∧ ∀ xs, SqT K H a xs → xs[i]? = some x, fun i H => ∃ xs : List V, SqT K H a xs ∧ xs.length = i⟩
theorem turnE {P : Program} {w : World} {K : PySem.W.Frag} {es : List Expr} {kk : Nat} {tp : Pos} (a e it : Addr) (hae : a ≠ e) (hai : a ≠ it) (hei : e ≠ it) :
    Turn P w K (.Tuple es kk tp) (ItE K a) [e, it] e (fun i h => (∃ old, IsEnum h e it ((0 : Int) + ((i : Nat) : Int)) old) ∧ h.IsTupleIter it a i) where
  mem := by simp
  obj := fun i h tn b hb => by
    obtain ⟨⟨old, q⟩, o, ho, hc, hd⟩ := tn
    rcases List.mem_cons.mp hb with z | z
    · subst z; exact ⟨_, q, fun v z => nomatch z⟩
    · rw [List.mem_singleton.mp z]; exact ⟨o, ho, fun v z => by rw [hd] at z; cases z⟩
  keep := fun i h h' tn kp => by
    obtain ⟨⟨old, q⟩, r⟩ := tn
    exact ⟨⟨old, kp e (by simp) _ q⟩, r.at fun o z => kp it (by simp) o z⟩
  item := by
    intro X e1 e2 e3 hc i pins st s H E I hf tn hg
    subst e1 e2 e3
    obtain ⟨⟨old, en⟩, ti⟩ := tn
    obtain ⟨xs, x, hq, hx⟩ := hg
    obtain ⟨its, rv, tp, _⟩ := I.tuple hq
    have he1 : e < st.heap.objs.size := Heap.lt_size en
    have hi1 : it < st.heap.objs.size := by obtain ⟨_, z, _⟩ := ti; exact Heap.lt_size z
    have hin : i < its.toArray.size := by
      obtain ⟨u, hu, _⟩ := rv.get hx
      have := (List.getElem?_eq_some_iff.mp hu).1
      simpa using this
    refine wpAny_pyNext_enum_itemC (Draws.tuple (A := X.A.in1) (show X.A.in1.handled = none from I.ok.hd hc) it a hai its.toArray) en ⟨ti, tp⟩ hin hei (by simp [hei, Ne.symm hae]) fun u h1 tk hu ho hst hT _ kp => ?_
    refine ⟨_, rfl, wpAny_letOwnedTupleGo_enum (s := { st with heap := h1, toks := tk + 1 }) ho fun h2 en2 sb => ?_⟩
    have hu' : its[i]? = some u := by simpa using hu
    obtain ⟨w, hw, rw'⟩ := rv.get hx
    have : w = u := by rw [hw] at hu'; exact Option.some.inj hu'
    subst this
    have hT2 : h2.get? st.heap.objs.size = some { cls := .type "tuple", data := .seq #[.int (0 + (i : Int)) tk, w] } := (sb.2 _ (Nat.ne_of_gt he1)).trans hT
    have i0 : (0 : Int) + (i : Int) = (i : Int) := by omega
    have new : ObjOk X.prog X.w (upd H st.heap.objs.size (.tup [.int (i : Nat), x])) h2 st.heap.objs.size (.tup [.int (i : Nat), x]) :=
      ⟨by show 2 ≤ sizeLine; decide, [.int (0 + (i : Int)) tk, w], .cons ⟨tk, by rw [i0]⟩ (.cons rw' .nil), ⟨_, hT2, rfl, _, rfl⟩⟩
    have J := I.turnedNew (ob := .tup [.int (i : Nat), x]) (t' := tk + 1) (h' := h2) (ch := [e, it]) (fun b ob hb q => (sb.2 b fun z => hb (by simp [z])).trans (kp b ob (fun z => hb (by simp [z])) (fun z => hb (by simp [z])) q)) hf (Nat.le_refl _) new
    refine ⟨.ref st.heap.objs.size, _, J, rfl, ⟨_, x, rfl, I.hok.fresh (Nat.le_refl _), rfl, fun ys hy => by rw [I.tuple_inj hy hq]; exact hx⟩, ⟨⟨w, ?_⟩, hst.1.at fun o q => (sb.2 it (Ne.symm hei)).trans q⟩, fun b hb => ?_⟩
    · have c1 : (0 : Int) + ((i + 1 : Nat) : Int) = 0 + (i : Int) + 1 := by omega
      rw [c1]; exact en2
    · have hlt : b < st.heap.objs.size := by
        rcases List.mem_cons.mp hb with z | z
        · rw [z]; exact he1
        · rw [List.mem_singleton.mp z]; exact hi1
      rw [upd_ne (Nat.ne_of_lt hlt)]
      exact (hf b hb).1
  done := by
    intro X e1 e2 e3 hc i pins st s H E I hf tn hg
    subst e1 e2 e3
    obtain ⟨⟨old, en⟩, ti⟩ := tn
    obtain ⟨xs, hq, hx⟩ := hg
    obtain ⟨its, rv, tp, _⟩ := I.tuple hq
    obtain ⟨f0, f1, f2, f3, f4, f5⟩ := hf it (by simp)
    have hn : its.toArray.size = i := by rw [List.size_toArray, ← rv.length]; exact hx
    subst hn
    exact wpAny_pyNext_enum_endD (Draws.tuple (A := X.A.in1) (show X.A.in1.handled = none from I.ok.hd hc) it a hai its.toArray) en ⟨ti, tp⟩ fun h' eb => ⟨rfl, I.turned (t' := st.toks) (fun b o hb q => eb b o hb q) f0 f1 f3 f4 f5⟩
  self := fun A i st Q E tn k => by
    obtain ⟨⟨_, en⟩, _⟩ := tn
    exact wpAny_pyIter_enum en k
def iEnT (K : PySem.W.Frag) (ta : TA) : TI := fun s H R => ta s H fun vs H1 => ∃ a xs, vs = [.ref a] ∧ SqT K H1 a xs ∧ R (ItE K a) H1
theorem pi_enT {X : Cx} {e : Expr} {ta : TA} {p pos tp : Pos} {es : List Expr} {kk : Nat} (hg : Gl X "enumerate") (hm : X.mg "enumerate" = none) (ha : PA X [e] ta) (hs : starEach [e] X.env = [(false, eval e X.env)] := by rfl) :
    PI X (.Tuple es kk tp) (.Call (.Name "enumerate" p) [e] [] pos) (iEnT X.K ta) := by
  refine ⟨fun pins st s H R I h => ?_⟩
  refine Call_ (ld_blt I hg hm boot_enumerate (PyProof.Rows.callWith_type1 (thn (ha.run pos pins st s H _ I h) fun us st1 hq => ?_) hs rfl))
  obtain ⟨vs, H1, I1, r1, a, xs, ev, hx, q⟩ := hq
  subst ev
  cases r1 with
  | cons r rr =>
    cases rr
    cases r
    obtain ⟨its, rv, tpl, _⟩ := I1.tuple hx
    refine callEnum1 (begins_tuple a its.toArray) tpl fun h' en hit kp => wpAny_pyIter_enum en ?_
    have ha1 : a < st1.heap.objs.size := by obtain ⟨o, z, _⟩ := tpl; exact Heap.lt_size z
    have I2 : Inv X pins s H1 { st1 with heap := h' } := I1.kept (t' := st1.toks) kp
    refine ⟨st1.heap.objs.size + 1, [st1.heap.objs.size + 1, st1.heap.objs.size], _, _, H1, rfl, I2, turnE a (st1.heap.objs.size + 1) st1.heap.objs.size (Nat.ne_of_lt (Nat.lt_succ_of_lt ha1)) (Nat.ne_of_lt ha1) (Nat.succ_ne_self _), ⟨⟨.none, en⟩, ⟨_, hit, rfl, rfl⟩⟩, fun b hb => ?_, q⟩
    have hle : st1.heap.objs.size ≤ b := by
      rcases List.mem_cons.mp hb with z | z
      · rw [z]; exact Nat.le_succ _
      · rw [List.mem_singleton.mp z]; exact Nat.le_refl _
    exact I1.fpOk hle (I1.hok.fresh hle)

variable {X : Cx}
/-! ### pairs -/
def pairL : Nat → List D → List D
  | _, [] => []
  | i, d :: r => .tuple [.int (i : Nat), d] :: pairL (i + 1) r
theorem pairL_len : ∀ (i : Nat) (ds : List D), (pairL i ds).length = ds.length
  | _, [] => rfl
  | i, d :: r => by simp [pairL, pairL_len (i + 1) r]
theorem pairL_at : ∀ (i : Nat) (ds : List D) (j : Nat) (d : D), ds[j]? = some d → (pairL i ds)[j]? = some (.tuple [.int ((i + j : Nat)), d])
  | _, [], _, _, h => by simp at h
  | i, e :: r, 0, d, h => by simp at h; simp [pairL, h]
  | i, e :: r, j + 1, d, h => by
    have := pairL_at (i + 1) r j d (by simpa using h)
    have c : i + 1 + j = i + (j + 1) := by omega
    rw [c] at this
    simpa [pairL] using this
def zipL : List D → List D → List D
  | x :: xs, y :: ys => .tuple [x, y] :: zipL xs ys
  | _, _ => []
theorem zipL_len : ∀ (xs ys : List D), (zipL xs ys).length = min xs.length ys.length
  | [], _ => by simp [zipL]
  | _ :: _, [] => by simp [zipL]
  | x :: xs, y :: ys => by (simp [zipL, zipL_len xs ys])
theorem zipL_at : ∀ (xs ys : List D) (j : Nat) (x y : D), xs[j]? = some x → ys[j]? = some y → (zipL xs ys)[j]? = some (.tuple [x, y])
  | [], _, _, _, _, h, _ => by simp at h
  | _ :: _, [], _, _, _, _, h => by simp at h
  | a :: xs, b :: ys, 0, x, y, h1, h2 => by simp at h1 h2; simp [zipL, h1, h2]
  | a :: xs, b :: ys, j + 1, x, y, h1, h2 => by
    have := zipL_at xs ys j x y (by simpa using h1) (by simpa using h2)
    simpa [zipL] using this
/-- a new pair is a tuple that stands -/
theorem newPair {K : PySem.W.Frag} {F H : Hp} {T : Addr} {x y : V} {d e : D} (fh : Same F H) (nT : H T = none) (hx : Dp K F x d) (hy : Dp K F y e) :
    ∃ F', Dp K F' (.ref T) (.tuple [d, e]) ∧ Same F' (upd H T (.tup [x, y])) ∧ Stp Non F H F' (upd H T (.tup [x, y])) :=
  ⟨_, .tup (SqT.of upd_same) (dpUpd (.cons hx (.cons hy .nil)) (nF fh nT)), sameLaid fh nT, Stp.laid nT fh⟩
theorem itdPair {K : PySem.W.Frag} {F0 : Hp} {J : It} {xs : List V} {ds : List D} {P : Hp → Prop} (hp : DpAll K F0 xs ds) (hP : ∀ H, Same F0 H → P H) (w : Walk J xs.length P (YPair (fun i => some (.int (i : Nat))) fun i => xs[i]?)) : Itd K F0 J (pairL 0 ds) where
  go := fun i H h hi => w.goes i H (by rw [pairL_len] at hi; rw [dpLen hp]; exact hi) (hP H h)
  stop := fun H h => by rw [pairL_len, ← dpLen hp]; exact w.stops H (hP H h)
  yld := fun i F H x H' h1 h2 hi y => by
    rw [pairL_len] at hi
    obtain ⟨T, a, b, e1, e2, e3, e4, e5⟩ := w.yields i H x H' (by rw [dpLen hp]; exact hi) (hP H (h1.trans h2)) y
    obtain ⟨d, hd, q⟩ := dpAtV hp e5
    have ea : V.int (i : Nat) = a := Option.some.inj e4
    subst e1 e3 ea
    obtain ⟨F', a1, a2, a3⟩ := newPair h2 e2 (Dp.int (i : Nat)) (dpMono h1 _ _ q)
    refine ⟨F', _, pairL_at 0 ds i d hd, ?_, a2, a3⟩
    rw [Nat.zero_add]
    exact a1
theorem itdZip {K : PySem.W.Frag} {F0 : Hp} {J : It} {n : Nat} {xs ys : List V} {ds es : List D} {P : Hp → Prop} (hn : n = min xs.length ys.length) (hp : DpAll K F0 xs ds) (hq : DpAll K F0 ys es) (hP : ∀ H, Same F0 H → P H) (w : Walk J n P (YPair (fun i => xs[i]?) fun i => ys[i]?)) : Itd K F0 J (zipL ds es) := by
  have hl : (zipL ds es).length = n := by rw [zipL_len, hn, dpLen hp, dpLen hq]
  refine ⟨fun i H h hi => w.goes i H (by rw [← hl]; exact hi) (hP H h), fun H h => by rw [hl]; exact w.stops H (hP H h), fun i F H x H' h1 h2 hi y => ?_⟩
  obtain ⟨T, a, b, e1, e2, e3, e4, e5⟩ := w.yields i H x H' (by rw [← hl]; exact hi) (hP H (h1.trans h2)) y
  obtain ⟨d, hd, q1⟩ := dpAtV hp e4
  obtain ⟨e, he, q2⟩ := dpAtV hq e5
  subst e1 e3
  obtain ⟨F', a1, a2, a3⟩ := newPair h2 e2 (dpMono h1 _ _ q1) (dpMono h1 _ _ q2)
  exact ⟨F', _, zipL_at ds es i d e hd he, a1, a2, a3⟩
theorem walkE {K : PySem.W.Frag} {a : Addr} {xs : List V} : Walk (ItE K a) xs.length (fun H => SqT K H a xs) (YPair (fun i => some (.int (i : Nat))) fun i => xs[i]?) := by
  refine ⟨fun i _ hi q => ⟨xs, xs[i], q, by simp [hi]⟩, fun _ q => ⟨xs, q, rfl⟩, fun i H v H' _ q y => ?_⟩
  obtain ⟨T, x, h1, h2, h3, h4⟩ := y
  exact ⟨T, .int (i : Nat), x, h1, h2, h3, rfl, h4 xs q⟩
theorem walkZ {K : PySem.W.Frag} {a b : Addr} {xs ys : List V} {n : Nat} (hn : n = min xs.length ys.length) : Walk (RZ.ItzT K a b) n (fun H => SqT K H a xs ∧ SqT K H b ys) (YPair (fun i => xs[i]?) (fun i => ys[i]?)) := by
  subst hn
  refine ⟨fun i _ hi q => ?_, fun _ q => ⟨xs, ys, q.1, q.2, by omega⟩, fun i H v H' _ q y => ?_⟩
  · have h1 : i < xs.length := by omega
    have h2 : i < ys.length := by omega
    exact ⟨xs, ys, xs[i], ys[i], q.1, q.2, by simp [h1], by simp [h2]⟩
  · obtain ⟨T, x, z, h1, h2, h3, h4, h5⟩ := y
    exact ⟨T, x, z, h1, h2, h3, h4 xs q.1, h5 ys q.2⟩
def iEnum' (f : Fa) : Fa := fun g => match f g with
  | some ([d], g') => (seqD d).map fun ds => (pairL 0 ds, g')
  | _ => none
theorem dpOne {K : PySem.W.Frag} {F : Hp} {vs : List V} {d : D} (h : DpAll K F vs [d]) : ∃ v, vs = [v] ∧ Dp K F v d := by
  cases h with
  | cons h1 h2 => cases h2; exact ⟨_, rfl, h1⟩
theorem dpTwo {K : PySem.W.Frag} {F : Hp} {vs : List V} {d e : D} (h : DpAll K F vs [d, e]) : ∃ v w, vs = [v, w] ∧ Dp K F v d ∧ Dp K F w e := by
  cases h with
  | cons h1 h2 =>
    obtain ⟨w, rfl, q⟩ := dpOne h2
    exact ⟨_, w, rfl, h1, q⟩
theorem di_enum {a : Expr} {p pos tp : Pos} {es : List Expr} {kk : Nat} {f : Fa} (hg : Gl X "enumerate") (hm : X.mg "enumerate" = none) (ha : DA X [a] f) (hs : starEach [a] X.env = [(false, eval a X.env)] := by rfl) :
    DI X (.Tuple es kk tp) (.Call (.Name "enumerate" p) [a] [] pos) (iEnum' f) := piMono (piOr (pi_enum hg hm ha hs) (pi_enT hg hm ha hs)) fun s H R ⟨F, g, ds, g', r, e, k⟩ => by
  unfold iEnum' at e
  split at e
  · rename_i d g1 q
    cases d with
    | list xs =>
      cases e
      refine .inl ⟨F, g, _, _, r, q, fun vs F1 H1 p1 r1 t1 m1 => ?_⟩
      obtain ⟨v, rfl, h⟩ := dpOne p1
      cases h with
      | lst hs ha => exact ⟨_, _, rfl, r1.fh.seq hs, k _ F1 H1 r1 t1 m1 (itdPair ha (fun H q => q.seq hs) walk_enum)⟩
    | tuple xs =>
      cases e
      refine .inr ⟨F, g, _, _, r, q, fun vs F1 H1 p1 r1 t1 m1 => ?_⟩
      obtain ⟨v, rfl, h⟩ := dpOne p1
      cases h with
      | tup hs ha => exact ⟨_, _, rfl, Same.tupS r1.fh hs, k _ F1 H1 r1 t1 m1 (itdPair ha (fun H q => Same.tupS q hs) walkE)⟩
    | _ => cases e
  · cases e
def iZip2 (f : Fa) : Fa := fun g => match f g with
  | some ([.tuple xs, .tuple ys], g') => some (zipL xs ys, g')
  | some ([.list xs, .list ys], g') => some (zipL xs ys, g')
  | _ => none
theorem di_zip {a b : Expr} {p pos tp : Pos} {es : List Expr} {kk : Nat} {f : Fa} (hg : Gl X "zip") (hm : X.mg "zip" = none) (ha : DA X [a, b] f)
    (hs : starEach [a, b] X.env = (false, eval a X.env) :: starEach [b] X.env := by rfl) (hpl : (backTo pos (starEach [b] X.env)).any (·.1) = false := by rfl) :
    DI X (.Tuple es kk tp) (.Call (.Name "zip" p) [a, b] [] pos) (iZip2 f) := piMono (RZ.pi_zipA hg hm ha hs hpl) fun s H R ⟨F, g, ds, g', r, e, k⟩ => by
  unfold iZip2 at e
  split at e
  · rename_i xs ys g1 q
    cases e
    refine ⟨F, g, _, _, r, q, fun vs F1 H1 p1 r1 t1 m1 => ?_⟩
    obtain ⟨v, w, rfl, h1, h2⟩ := dpTwo p1
    cases h1 with
    | tup hs ha =>
      cases h2 with
      | tup hs2 ha2 => exact ⟨_, _, _, _, rfl, .inr ⟨Same.tupS r1.fh hs, Same.tupS r1.fh hs2, k _ F1 H1 r1 t1 m1 (itdZip rfl ha ha2 (fun H q => ⟨Same.tupS q hs, Same.tupS q hs2⟩) (walkZ rfl))⟩⟩
  · rename_i xs ys g1 q
    cases e
    refine ⟨F, g, _, _, r, q, fun vs F1 H1 p1 r1 t1 m1 => ?_⟩
    obtain ⟨v, w, rfl, h1, h2⟩ := dpTwo p1
    cases h1 with
    | lst hs ha =>
      cases h2 with
      | lst hs2 ha2 => exact ⟨_, _, _, _, rfl, .inl ⟨r1.fh.seq hs, r1.fh.seq hs2, k _ F1 H1 r1 t1 m1 (itdZip rfl ha ha2 (fun H q => ⟨q.seq hs, q.seq hs2⟩) (walk_zip rfl))⟩⟩
  · cases e

/-! ### for -/
def forGo (t : Fg) (b : Fs) : List D → G → Option Out
  | [], g => some (.nx g)
  | d :: r, g => (t d g).bind fun g1 => (b g1).bind fun o => match o with
    | .nx g2 => forGo t b r g2
    | .ct g2 => forGo t b r g2
    | .bk g2 => some (.nx g2)
    | .ret x g2 => some (.ret x g2)
def sFor (f : Fa) (t : Fg) (b : Fs) : Fs := fun g => (f g).bind fun p => forGo t b p.1 p.2
theorem dropCons {ds : List D} {i : Nat} {d : D} (h : ds[i]? = some d) : ds.drop i = d :: ds.drop (i + 1) := by
  obtain ⟨hi, e⟩ := List.getElem?_eq_some_iff.mp h
  rw [List.drop_eq_getElem_cons hi, e]
theorem ds_for {tg iter : Expr} {body : List Stmt} {pos : Pos} {f : Fa} {t : Fg} {ws : List Nat} {b : Fs} (hp : PassesOwn (model X.prog X.w) X.A X.env X.xe) (hc : X.calm = true) (hi : DI X tg iter f) (hg : DG X tg t ws) (hb : DSs X body b)
    (hs : ∀ x, foldedSetIterable iter X.env x = pure x := by intro _; rfl) : DS X (.For tg iter body [] pos) (sFor f t b) := psMono (ps_for hp hc hi hg hb hs) fun D s H ⟨F, g, o, r, e, k⟩ => by
  unfold sFor at e
  cases q : f g with
  | none => rw [q] at e; cases e
  | some p =>
    obtain ⟨ds, g1⟩ := p
    rw [q] at e
    have e : forGo t b ds g1 = some o := e
    refine ⟨F, g, ds, g1, r, q, fun J F1 H1 r1 t1 m1 hJ => ?_⟩
    have tr1 := Tr.of r1 t1 m1
    refine ⟨fun i m s2 H2 => m = ds.length - i ∧ i ≤ ds.length ∧ ∃ F2 g2, Tr X.K F g s H F2 g2 s2 H2 ∧ Same F1 F2 ∧ forGo t b (ds.drop i) g2 = some o, ⟨ds.length, by simp, Nat.zero_le _, F1, g1, tr1, .refl _, by rw [List.drop_zero]; exact e⟩, ?_⟩
    rintro i m s2 H2 ⟨rfl, hle, F2, g2, tr2, sm2, w⟩
    by_cases hlt : i < ds.length
    · obtain ⟨d, hd⟩ : ∃ d, ds[i]? = some d := ⟨ds[i], List.getElem?_eq_getElem hlt⟩
      rw [dropCons hd] at w
      unfold forGo at w
      cases q1 : t d g2 with
      | none => rw [q1] at w; cases w
      | some g3 =>
        rw [q1] at w
        have w : (b g3).bind _ = some o := w
        cases q2 : b g3 with
        | none => rw [q2] at w; cases w
        | some o3 =>
          rw [q2] at w
          -- one turn: the item, the target, the body
          have step : ∀ (N : Sg → Hp → Prop) (bk : Sg → Hp → Prop) (rt : VK), (∀ F3 s3 H3, Tr X.K F g s H F3 g3 s3 H3 → Same F1 F3 → endS X.K F3 g3 s3 H3 { nx := N, rt := rt, bk := bk, ct := N } o3) → ∀ x H', J.yld i H2 x H' → tG X.K t ws x s2 H' fun s3 H3 => tS X.K b { nx := N, rt := rt, bk := bk, ct := N } s3 H3 := fun N bk rt hN x H' y => by
            obtain ⟨F', d', hd', hx, fh, st⟩ := hJ.yld i F2 H2 x H' sm2 tr2.rep.fh hlt y
            rw [hd] at hd'; cases hd'
            have r' := tr2.rep.stepN st fh
            have tr' : Tr X.K F g s H F' g2 s2 H' := tr2.trans ⟨r', st.weak fun _ z => z.elim, fun _ z => .inl z⟩
            exact ⟨F', g2, d, g3, r', hx, q1, fun F3 s3 H3 t3 _ _ => ⟨F3, g3, o3, t3.rep, q2, hN F3 s3 H3 (tr'.trans t3) ((sm2.trans st.fs).trans t3.stp.fs)⟩⟩
          refine .inr ⟨hJ.go i H2 (sm2.trans tr2.rep.fh) hlt, ?_⟩
          cases o3 with
          | nx g4 =>
            have w : forGo t b (ds.drop (i + 1)) g4 = some o := w
            refine ⟨fun s4 H4 => ∃ F4, Tr X.K F g s H F4 g4 s4 H4 ∧ Same F1 F4, fun s4 H4 ⟨F4, t4, sm4⟩ => ⟨ds.length - (i + 1), by omega, rfl, hlt, F4, g4, t4, sm4, w⟩, step _ _ _ fun F3 s3 H3 t3 sm3 F4 s4 H4 t4 => ⟨F4, t3.trans t4, sm3.trans t4.stp.fs⟩⟩
          | ct g4 =>
            have w : forGo t b (ds.drop (i + 1)) g4 = some o := w
            refine ⟨fun s4 H4 => ∃ F4, Tr X.K F g s H F4 g4 s4 H4 ∧ Same F1 F4, fun s4 H4 ⟨F4, t4, sm4⟩ => ⟨ds.length - (i + 1), by omega, rfl, hlt, F4, g4, t4, sm4, w⟩, step _ _ _ fun F3 s3 H3 t3 sm3 F4 s4 H4 t4 => ⟨F4, t3.trans t4, sm3.trans t4.stp.fs⟩⟩
          | bk g4 =>
            cases w
            exact ⟨fun _ _ => False, fun _ _ z => z.elim, step _ _ _ fun F3 s3 H3 t3 sm3 F4 s4 H4 t4 => k F4 s4 H4 (t3.trans t4)⟩
          | ret x g4 =>
            cases w
            exact ⟨fun _ _ => False, fun _ _ z => z.elim, step _ _ _ fun F3 s3 H3 t3 sm3 v F4 s4 H4 a n b t4 => k v F4 s4 H4 a n (b.back t3) (t3.trans t4)⟩
    · have hi : i = ds.length := by omega
      subst hi
      rw [List.drop_length] at w
      cases w
      exact .inl ⟨hJ.stop H2 (sm2.trans tr2.rep.fh), k F2 s2 H2 tr2⟩
end Dl
set_option Elab.async false
set_option linter.all false
set_option maxRecDepth 100000
namespace Dl
open PySem PySem.Spec PyProof.Rows L2
variable {X : Cx}

/-! ### comprehensions -/
def wipeG (g : G) : List Nat → G
  | [] => g
  | v :: vs => (wipeG g vs).set v .no
/-- the block's own slots as they were ahead of it -/
def backG (g1 g2 : G) : List Nat → G
  | [] => g2
  | v :: vs => (backG g1 g2 vs).set v (g1.getD v .no)
def okW (g : G) (vs : List Nat) : Bool := vs.all fun i => match g[i]? with
  | some (.own _ _) => false
  | _ => true
def lcGo (t : Fg) (c : Ft) (f : Fe) (vs : List Nat) : List D → G → Option (List D × G)
  | [], g => some ([], g)
  | d :: r, g => (t d g).bind fun g1 => (c g1).bind fun p => if p.1 = true then (f p.2).bind fun q => (lcGo t c f vs r (wipeG q.2 vs)).map fun w => (q.1 :: w.1, w.2) else lcGo t c f vs r (wipeG p.2 vs)
def vLc (fi : Fa) (t : Fg) (c : Ft) (f : Fe) (vs : List Nat) : Fv := fun g => (fi g).bind fun p => if okW p.2 vs = true then (lcGo t c f vs p.1 (wipeG p.2 vs)).bind fun q => if q.1.length ≤ 1000000 then some (.own none q.1, backG p.2 q.2 vs) else none else none

theorem wipeG_len (g : G) : ∀ vs, (wipeG g vs).length = g.length
  | [] => rfl
  | v :: vs => by simp [wipeG, wipeG_len g vs]
theorem wipeG_at (g : G) : ∀ (vs : List Nat) (i : Nat), i ∉ vs → (wipeG g vs)[i]? = g[i]?
  | [], _, _ => rfl
  | v :: vs, i, h => by
    have h1 : v ≠ i := fun e => h (by simp [e])
    rw [wipeG, List.getElem?_set_ne h1]
    exact wipeG_at g vs i fun z => h (List.mem_cons_of_mem _ z)
theorem wipeG_in (g : G) : ∀ (vs : List Nat) (i : Nat) (x : Sl), i ∈ vs → (wipeG g vs)[i]? = some x → x = .no
  | [], _, _, h, _ => by simp at h
  | v :: vs, i, x, h, e => by
    by_cases h1 : v = i
    · subst h1
      rw [wipeG] at e
      by_cases hv : v < (wipeG g vs).length
      · rw [List.getElem?_set_self hv] at e; cases e; rfl
      · rw [List.getElem?_eq_none (by simpa using hv)] at e; cases e
    · rw [wipeG, List.getElem?_set_ne h1] at e
      exact wipeG_in g vs i x ((List.mem_cons.mp h).resolve_left fun z => h1 z.symm) e
theorem wipeMo (g : G) (vs : List Nat) : Mo g (wipeG g vs) := fun i t ds e => by
  by_cases h : i ∈ vs
  · cases wipeG_in g vs i _ h e
  · rw [wipeG_at g vs i h] at e; exact ⟨ds, e⟩
theorem Rep.wipe {K : PySem.W.Frag} {F H : Hp} {g : G} {s : Sg} (r : Rep K F g s H) : ∀ vs : List Nat, Rep K F (wipeG g vs) (L2.wipe s vs) H
  | [] => r
  | v :: vs => (r.wipe vs).put v .no none trivial (fun _ _ _ e => nomatch e)
theorem ownWipe {g : G} {s : Sg} {vs : List Nat} {b : Addr} (h : OwnAt (wipeG g vs) (L2.wipe s vs) b) : OwnAt g s b := by
  obtain ⟨i, t, ds, e, q⟩ := h
  by_cases hi : i ∈ vs
  · cases wipeG_in g vs i _ hi e
  · rw [wipeG_at g vs i hi] at e
    exact ⟨i, t, ds, e, (wipe_some q).1⟩
theorem backG_len (g1 g2 : G) : ∀ vs, (backG g1 g2 vs).length = g2.length
  | [] => rfl
  | v :: vs => by simp [backG, backG_len g1 g2 vs]
theorem backG_at (g1 g2 : G) : ∀ (vs : List Nat) (i : Nat), i ∉ vs → (backG g1 g2 vs)[i]? = g2[i]?
  | [], _, _ => rfl
  | v :: vs, i, h => by
    have h1 : v ≠ i := fun e => h (by simp [e])
    rw [backG, List.getElem?_set_ne h1]
    exact backG_at g1 g2 vs i fun z => h (List.mem_cons_of_mem _ z)
theorem backG_in (g1 g2 : G) : ∀ (vs : List Nat) (i : Nat) (x : Sl), i ∈ vs → (backG g1 g2 vs)[i]? = some x → x = g1.getD i .no
  | [], _, _, h, _ => by simp at h
  | v :: vs, i, x, h, e => by
    by_cases h1 : v = i
    · subst h1
      rw [backG] at e
      by_cases hv : v < (backG g1 g2 vs).length
      · rw [List.getElem?_set_self hv] at e; cases e; rfl
      · rw [List.getElem?_eq_none (by simpa using hv)] at e; cases e
    · rw [backG, List.getElem?_set_ne h1] at e
      exact backG_in g1 g2 vs i x ((List.mem_cons.mp h).resolve_left fun z => h1 z.symm) e
theorem okW_at {g : G} {vs : List Nat} (h : okW g vs = true) {i : Nat} (hi : i ∈ vs) : ∀ t ds, g[i]? ≠ some (.own t ds) := fun t ds e => by
  have := List.all_eq_true.mp h i hi
  rw [e] at this
  cases this
/-- the frame's slots behind the block -/
theorem Rep.back {K : PySem.W.Frag} {F1 H1 F2 H2 : Hp} {g1 g2 : G} {s : Sg} {vs : List Nat} (r1 : Rep K F1 g1 s H1) (r2 : Rep K F2 g2 (L2.wipe s vs) H2) (hf : Same F1 F2) (ok : okW g1 vs = true) : Rep K F2 (backG g1 g2 vs) s H2 := by
  have len : g2.length = s.length := by rw [r2.len, wipe_length]
  have own : ∀ i t ds, (backG g1 g2 vs)[i]? = some (.own t ds) → i ∉ vs ∧ g2[i]? = some (.own t ds) := fun i t ds e => by
    by_cases hi : i ∈ vs
    · have z := backG_in g1 g2 vs i _ hi e
      have nx := okW_at ok hi
      rw [List.getD_eq_getElem?_getD] at z
      cases q : g1[i]? with
      | none => rw [q] at z; cases z
      | some y => rw [q] at z; subst z; exact absurd q (nx t ds)
    · rw [backG_at g1 g2 vs i hi] at e; exact ⟨hi, e⟩
  refine ⟨r2.fh, by rw [backG_len]; exact len, fun i x o hx ho => ?_, fun i j a t u ds es h1 h2 h3 h4 => ?_⟩
  · by_cases hi : i ∈ vs
    · have z := backG_in g1 g2 vs i x hi hx
      rw [List.getD_eq_getElem?_getD] at z
      cases q : g1[i]? with
      | none => rw [q] at z; subst z; trivial
      | some y =>
        rw [q] at z
        subst z
        have hr := r1.sl i x o q ho
        cases x with
        | no => trivial
        | v d =>
          obtain ⟨w, ew, hw⟩ := hr
          exact ⟨w, ew, dpMono hf _ _ hw⟩
        | own t ds => exact absurd q (okW_at ok hi t ds)
    · rw [backG_at g1 g2 vs i hi] at hx
      exact r2.sl i x o hx (by rw [wipe_out hi]; exact ho)
  · obtain ⟨n1, e1⟩ := own i t ds h1
    obtain ⟨n2, e2⟩ := own j u es h2
    exact r2.uq i j a t u ds es e1 e2 (by rw [wipe_out n1]; exact h3) (by rw [wipe_out n2]; exact h4)
theorem backMo {g1 g2 : G} {vs : List Nat} (ok : okW g1 vs = true) (m : Mo (wipeG g1 vs) g2) : Mo g1 (backG g1 g2 vs) := fun i t ds e => by
  by_cases hi : i ∈ vs
  · have z := backG_in g1 g2 vs i _ hi e
    rw [List.getD_eq_getElem?_getD] at z
    cases q : g1[i]? with
    | none => rw [q] at z; cases z
    | some y => rw [q] at z; subst z; exact absurd q (okW_at ok hi t ds)
  · rw [backG_at g1 g2 vs i hi] at e
    obtain ⟨es, h⟩ := m i t ds e
    rw [wipeG_at g1 vs i hi] at h
    exact ⟨es, h⟩
theorem chgWipe {s s' : Sg} {ws vs : List Nat} (c : Chg ws (L2.wipe s vs) s') (h : ∀ i ∈ ws, i ∈ vs) : L2.wipe s' vs = L2.wipe s vs := by
  apply List.ext_getElem?
  intro i
  by_cases hi : i ∈ vs
  · have key : ∀ (t : Sg) (us : List Nat), i ∈ us → (L2.wipe t us)[i]? = if i < t.length then some none else none := by
      intro t us
      induction us with
      | nil => intro hm; simp at hm
      | cons u us ih =>
        intro hm
        unfold L2.wipe
        by_cases hu : u = i
        · subst hu
          by_cases hl : u < t.length
          · rw [if_pos hl, List.getElem?_set_self (by rw [wipe_length]; exact hl)]
          · rw [if_neg hl, List.getElem?_eq_none (by rw [List.length_set, wipe_length]; omega)]
        · rw [List.getElem?_set_ne hu]
          exact ih ((List.mem_cons.mp hm).resolve_left fun z => hu z.symm)
    rw [key s' vs hi, key s vs hi, c.len, wipe_length]
  · rw [wipe_out hi, c.at' i fun z => hi (h i z)]

theorem appNew {K : PySem.W.Frag} {F H : Hp} {g : G} {s : Sg} {p : Addr} {xs : List V} {y : V} (r : Rep K F g s H) (fp : F p = none) (n : ¬ OwnAt g s p) (hp : H p = some (.lst xs)) :
    Rep K F g s (upd H p (.lst (xs ++ [y]))) ∧ Stp (fun b => b = p) F H F (upd H p (.lst (xs ++ [y]))) := by
  have t1 : Stp (fun b => b = p) F H F (upd H p (.lst (xs ++ [y]))) := ⟨.refl _, fun b o e n => by rw [upd_ne n]; exact e, fun b e e' => absurd e e', fun b e => by
    by_cases z : b = p
    · rw [z, upd_same]; simp
    · rw [upd_ne z]; exact e⟩
  exact ⟨r.step t1 (fun b hb z => n (by rw [← z]; exact hb)) fun b u e => by rw [upd_ne (ne_of_none e fp)]; exact r.fh b u e, t1⟩

/-- the reading of a comprehension, by data -/
theorem tLc_ofX {K : PySem.W.Frag} {wi : TI} {t : Fg} {ws : List Nat} {c : Ft} {f : Fe} {vs : List Nat} (hw : ∀ i ∈ ws, i ∈ vs) {s : Sg} {F H : Hp} {g g1 g' : G} {ds : List D} {x : Sl} {Q : VK}
    (hwi : ∀ R : It → Hp → Prop, (∀ J F' H', Rep K F' g1 s H' → Stp (OwnAt g s) F H F' H' → Mo g g1 → Itd K F' J ds → R J H') → wi s H R) (r : Rep K F g s H) (e : vLc (fun _ => some (ds, g1)) t c f vs g = some (x, g'))
    (k : ∀ v F' H', RepS K F' H' x (some v) → (∀ t ds, x = .own t ds → t = none ∧ ∃ a, v = .ref a ∧ H a = none) → Rep K F' g' s H' → Stp (OwnAt g s) F H F' H' → Mo g g' → Q v H') : tLc wi (tG K t ws) (tT K c) (tD K f) vs s H Q := by
  unfold vLc at e
  simp only [Option.bind_some] at e
  split at e
  · rename_i ok
    cases q2 : lcGo t c f vs ds (wipeG g1 vs) with
    | none => rw [q2] at e; cases e
    | some p2 =>
      obtain ⟨ys, gE⟩ := p2
      rw [q2] at e
      simp only [Option.bind_some] at e
      split at e
      · rename_i hlen
        cases e
        refine hwi _ fun J F1 H1 r1 t1 m1 hJ A nA => ?_
        have h0A : H A = none := by
          cases z : H A with
          | none => rfl
          | some o => exact absurd nA (t1.dom A (by rw [z]; simp))
        have nOwn : ¬ OwnAt g1 s A := fun z => by
          obtain ⟨xs, hx, _⟩ := r1.ownSome z
          rw [nA] at hx; cases hx
        -- what is true at each turn
        refine ⟨fun i m H2 => m = ds.length - i ∧ i ≤ ds.length ∧ ∃ F2 g2 acc accV rest, Rep K F2 g2 (L2.wipe s vs) H2 ∧ Same F1 F2 ∧ F2 A = none ∧ H2 A = some (.lst accV) ∧ DpAll K F2 accV acc ∧ Stp (OwnAt g1 s) F1 H1 F2 H2 ∧ Mo (wipeG g1 vs) g2 ∧ lcGo t c f vs (ds.drop i) g2 = some (rest, gE) ∧ acc ++ rest = ys,
          ⟨ds.length, by simp, Nat.zero_le _, F1, wipeG g1 vs, [], [], ys, (r1.wipe vs).stepN (Stp.made nA) (sameMade r1.fh nA), .refl _, nF r1.fh nA, upd_same, .nil, Stp.made nA, Mo.refl, by rw [List.drop_zero]; exact q2, rfl⟩, ?_⟩
        rintro i m H2 ⟨rfl, hle, F2, g2, acc, accV, rest, r2, sm2, fA, hA, hac, st2, mo2, w, hsum⟩
        have nOwn2 : ∀ {g3 : G} {s3 : Sg}, (∀ b, OwnAt g3 s3 b → OwnAt g2 (L2.wipe s vs) b ∨ H2 b = none) → ¬ OwnAt g3 s3 A := fun {g3 s3} hh z => by
          rcases hh A z with z | z
          · obtain ⟨j, tg, es, e1, e2⟩ := z
            obtain ⟨es', e3⟩ := mo2 j tg es e1
            exact nOwn (ownWipe ⟨j, tg, es', e3, e2⟩)
          · rw [hA] at z; cases z
        by_cases hlt : i < ds.length
        · obtain ⟨d, hd⟩ : ∃ d, ds[i]? = some d := ⟨ds[i], List.getElem?_eq_getElem hlt⟩
          rw [dropCons hd] at w
          unfold lcGo at w
          cases q3 : t d g2 with
          | none => rw [q3] at w; cases w
          | some g3 =>
            rw [q3] at w
            have w : (c g3).bind _ = some (rest, gE) := w
            cases q4 : c g3 with
            | none => rw [q4] at w; cases w
            | some p4 =>
              obtain ⟨cb, g4⟩ := p4
              rw [q4] at w
              refine .inr ⟨hJ.go i H2 (sm2.trans r2.fh) hlt, fun H5 => ∃ F2 g2 acc accV rest, Rep K F2 g2 (L2.wipe s vs) H5 ∧ Same F1 F2 ∧ F2 A = none ∧ H5 A = some (.lst accV) ∧ DpAll K F2 accV acc ∧ Stp (OwnAt g1 s) F1 H1 F2 H5 ∧ Mo (wipeG g1 vs) g2 ∧ lcGo t c f vs (ds.drop (i + 1)) g2 = some (rest, gE) ∧ acc ++ rest = ys, fun H5 hN => ⟨ds.length - (i + 1), by omega, rfl, hlt, hN⟩, fun x H' y => ?_⟩
              obtain ⟨F', d', hd', hx, fh, st⟩ := hJ.yld i F2 H2 x H' sm2 r2.fh hlt y
              rw [hd] at hd'; cases hd'
              have r' := r2.stepN st fh
              refine ⟨F', g2, d, g3, r', hx, q3, fun F3 s3 H3 t3 m3 c3 => ⟨chgWipe c3 hw, F3, g3, cb, g4, t3.rep, q4, fun F4 H4 r4 st4 m4 => ?_⟩⟩
              have tr : Tr K F2 g2 (L2.wipe s vs) H2 F4 g4 s3 H4 := (Tr.trans ⟨r', st.weak fun _ z => z.elim, fun _ z => .inl z⟩ t3).trans (Tr.of r4 st4 m4)
              have moT : Mo (wipeG g1 vs) g4 := (mo2.trans m3).trans m4
              have keepA : ∀ {F9 H9 : Hp} {g9 : G}, Tr K F2 g2 (L2.wipe s vs) H2 F9 g9 s3 H9 → H9 A = some (.lst accV) ∧ F9 A = none := fun {F9 H9 g9} t9 => by
                have n2 : ¬ OwnAt g2 (L2.wipe s vs) A := nOwn2 fun _ z => .inl z
                refine ⟨t9.stp.keep A _ hA n2, ?_⟩
                cases z : F9 A with
                | none => rfl
                | some u =>
                  rcases t9.stp.fresh A fA (by rw [z]; simp) with z2 | z2
                  · rw [hA] at z2; cases z2
                  · exact absurd z2 n2
              have stAll : ∀ {F9 H9 : Hp} {g9 : G}, Tr K F2 g2 (L2.wipe s vs) H2 F9 g9 s3 H9 → Stp (OwnAt g1 s) F1 H1 F9 H9 := fun {F9 H9 g9} t9 => st2.trans t9.stp fun b z => by
                obtain ⟨j, tg, es, e1, e2⟩ := z
                obtain ⟨es', e3⟩ := mo2 j tg es e1
                exact .inl (ownWipe ⟨j, tg, es', e3, e2⟩)
              have wp : ∀ {F9 H9 : Hp} {g9 : G}, Rep K F9 g9 s3 H9 → Rep K F9 (wipeG g9 vs) (L2.wipe s vs) H9 := fun {F9 H9 g9} r9 => by
                have := r9.wipe vs
                rwa [chgWipe c3 hw] at this
              cases cb with
              | true =>
                refine iteT ?_
                have w : (f g4).bind _ = some (rest, gE) := w
                cases q5 : f g4 with
                | none => rw [q5] at w; cases w
                | some p5 =>
                  obtain ⟨yd, g5⟩ := p5
                  rw [q5] at w
                  have w : (lcGo t c f vs (ds.drop (i + 1)) (wipeG g5 vs)).map _ = some (rest, gE) := w
                  cases q6 : lcGo t c f vs (ds.drop (i + 1)) (wipeG g5 vs) with
                  | none => rw [q6] at w; cases w
                  | some p6 =>
                    obtain ⟨rs, g6⟩ := p6
                    rw [q6] at w
                    cases w
                    refine ⟨F4, g4, yd, g5, r4, q5, fun yv F5 H5 hy r5 st5 m5 => ?_⟩
                    have tr5 := tr.trans (Tr.of r5 st5 m5)
                    obtain ⟨hA5, fA5⟩ := keepA tr5
                    refine ⟨accV, hA5, ?_, ?_⟩
                    · rw [dpLen hac]
                      have : acc.length < ys.length := by rw [← hsum]; simp
                      exact Nat.lt_of_lt_of_le this (Nat.le_trans hlen million)
                    · obtain ⟨ra, sa⟩ := appNew (y := yv) r5 fA5 (nOwn2 tr5.own) hA5
                      refine ⟨F5, wipeG g5 vs, acc ++ [yd], accV ++ [yv], rs, wp ra, sm2.trans tr5.stp.fs, fA5, upd_same, dpApp (dpMonos tr5.stp.fs _ _ hac) (.cons hy .nil), ?_, (moT.trans m5).trans (wipeMo g5 vs), q6, by rw [← hsum]; simp⟩
                      exact (stAll tr5).trans sa fun b z => .inr (by rw [z]; exact nA)
              | false =>
                refine iteF ?_
                have w : lcGo t c f vs (ds.drop (i + 1)) (wipeG g4 vs) = some (rest, gE) := w
                obtain ⟨hA5, fA5⟩ := keepA tr
                exact ⟨F4, wipeG g4 vs, acc, accV, rest, wp r4, sm2.trans tr.stp.fs, fA5, hA5, dpMonos tr.stp.fs _ _ hac, stAll tr, moT.trans (wipeMo g4 vs), w, hsum⟩
        · have hi : i = ds.length := by omega
          subst hi
          rw [List.drop_length] at w
          cases w
          rw [List.append_nil] at hsum
          subst hsum
          refine .inl ⟨hJ.stop H2 (sm2.trans r2.fh), k (.ref A) F2 H2 ⟨A, accV, rfl, fA, hA, hac, fun b e => nomatch e⟩ (fun tg es z => ?_) (r1.back r2 sm2 ok) (t1.two m1 st2) (m1.trans (backMo ok mo2))⟩
          cases z
          exact ⟨rfl, A, rfl, h0A⟩
      · cases e
  · cases e
theorem tLc_of {K : PySem.W.Frag} {fi : Fa} {t : Fg} {ws : List Nat} {c : Ft} {f : Fe} {vs : List Nat} (hw : ∀ i ∈ ws, i ∈ vs) {s : Sg} {H : Hp} {Q : VK} (h : tV K (vLc fi t c f vs) s H Q) : tLc (tI K fi) (tG K t ws) (tT K c) (tD K f) vs s H Q := by
  obtain ⟨F, g, x, g', r, e, k⟩ := h
  cases q : fi g with
  | none =>
    unfold vLc at e
    rw [q] at e; cases e
  | some p =>
    obtain ⟨ds, g1⟩ := p
    have e2 : vLc (fun _ => some (ds, g1)) t c f vs g = some (x, g') := by
      unfold vLc at e ⊢
      rw [q] at e
      exact e
    exact tLc_ofX hw (fun R hR => ⟨F, g, ds, g1, r, q, hR⟩) r e2 k
def cYes : Ft := fun g => some (true, g)
abbrev Blk (X : Cx) (scope : Scope) (st : Shared) (H : Hp) (C : Addr) (cl : List (Str × Addr)) (fp : List Addr) : Cx := X.blk st H scope (compEnvC scope cl C X.env) fp
def DCs (X : Cx) (ifs : List Expr) (c : Ft) : Prop := PTs X ifs (tT X.K c)
theorem dcs_nil : DCs X [] cYes := ⟨fun pins st s H Q I ⟨F, g, b, g', r, e, k⟩ => by
  cases e
  exact pts_nil.run pins st s H Q I (k F H r Stp.refl Mo.refl)⟩
theorem dcs_one {a : Expr} {c : Ft} (h : DT X a c) : DCs X [a] c := pts_one h
theorem dv_lc {elt tg iter : Expr} {ifs : List Expr} {scope : Scope} (own : List (Str × Nat)) {pos : Pos} {fi : Fa} {t : Fg} {ws : List Nat} {c : Ft} {f : Fe} (hc : X.calm = true) (hN : X.N.Nodup) (hi : DI X tg iter fi) (ok : blkC X.N X.env.scope scope own = true)
    (hg : ∀ st H C cl fp, DG (Blk X scope st H C cl fp) tg t ws) (ht : ∀ st H C cl fp, DCs (Blk X scope st H C cl fp) ifs c)
    (he : ∀ st H C cl fp, DE (Blk X scope st H C cl fp) elt f) (hw : ∀ i ∈ ws, i ∈ own.map (·.2) := by decide) (hs : ∀ x, foldedSetIterable iter X.env x = pure x := by intro _; rfl) :
    DV X (.ListComp elt [⟨tg, iter, ifs, 0⟩] scope pos) (vLc fi t c f (own.map (·.2))) := peMono (pe_lc (g := tG X.K t ws) (tt := tT X.K c) (te := tD X.K f) hc hN hi (blkOk_by ok) hg ht he hs) fun _ _ _ h => tLc_of hw h
/-- name = [..] on one row -/
theorem ds_setLc (i : Nat) {y : Str} {py : Pos} {elt tg iter : Expr} {ifs : List Expr} {scope : Scope} (own : List (Str × Nat)) {pos spos : Pos} {fi : Fa} {t : Fg} {ws : List Nat} {c : Ft} {f : Fe} (hc : X.calm = true) (hN : X.N.Nodup) (hi : DI X tg iter fi) (ok : blkC X.N X.env.scope scope own = true)
    (hg : ∀ st H C cl fp, DG (Blk X scope st H C cl fp) tg t ws) (ht : ∀ st H C cl fp, DCs (Blk X scope st H C cl fp) ifs c)
    (he : ∀ st H C cl fp, DE (Blk X scope st H C cl fp) elt f) (hsw : swapsWith (.ListComp elt [⟨tg, iter, ifs, 0⟩] scope pos) (some (.Name y py)) spos.line X.env = pure true) (hy : X.N[i]? = some y := by rfl) (hyl : X.env.scope.names.lookup y = some .local := by rfl)
    (hw : ∀ i ∈ ws, i ∈ own.map (·.2) := by decide) (hs : ∀ x, foldedSetIterable iter X.env x = pure x := by intro _; rfl) :
    DS X (.Assign [.Name y py] (.ListComp elt [⟨tg, iter, ifs, 0⟩] scope pos) spos) (sSet i (vLc fi t c f (own.map (·.2)))) := psMono (ps_setLc (g := tG X.K t ws) (tt := tT X.K c) (te := tD X.K f) hc hN hy hyl hsw hi (blkOk_by ok) hg ht he hs) fun D s H ⟨F, g, o, r, e, k⟩ => by
  unfold sSet at e
  cases q : vLc fi t c f (own.map (·.2)) g with
  | none => rw [q] at e; cases e
  | some p =>
    obtain ⟨x, g1⟩ := p
    rw [q] at e
    exact tLc_of hw ⟨F, g, x, g1, r, q, fun v F1 H1 hv hn r1 t1 m1 => set_end r r1 t1 m1 hv hn e k⟩
end Dl
set_option Elab.async false
set_option linter.all false
set_option maxRecDepth 100000
namespace Dl
open PySem PySem.Spec PyProof.Rows L2
variable {X : Cx}

/-! ### built-in functions of one argument -/
def C1Ok (K : PySem.W.Frag) (r : List V → Hp → VK → Prop) (op : D → Option D) : Prop := ∀ (v : V) (d1 d : D) (F H : Hp) (Q : VK), Same F H → BD K F H v d1 → op d1 = some d →
  (∀ v F' H', Dp K F' v d → Same F' H' → Stp Non F H F' H' → Q v H') → r [v] H Q
theorem tCB_of {K : PySem.W.Frag} {r : List V → Hp → VK → Prop} {op : D → Option D} {f : Fe} (ok : C1Ok K r op) {s : Sg} {H : Hp} {Q : VK} (h : tD K (eUn op f) s H Q) : tCB r (tCons (tB K f) tNil) s H Q := by
  obtain ⟨F, g, d, g', rp, e, k⟩ := h
  obtain ⟨d1, e1, e2⟩ := eUn_inv e
  exact ⟨F, g, d1, g', rp, e1, fun v1 F1 H1 p1 r1 t1 m1 => ok v1 d1 d F1 H1 Q r1.fh p1 e2 fun v F2 H2 p2 fh t2 => k v F2 H2 p2 (r1.stepN t2 fh) (t1.andN t2) m1⟩
theorem de_b1 {x : Str} {id : String} {p pos : Pos} {a : Expr} {f : Fe} {r : List V → Hp → VK → Prop} {op : D → Option D} (hc : CallR X (.builtin id) r) (ok : C1Ok X.K r op) (hg : Gl X x) (hm : X.mg x = none) (hv : bootBuiltins x = some (.builtin id)) (ha : DB X a f)
    (hn : x ≠ "__name__" := by decide) (hdb : (x == ("__debug__" : Str)) = false := by decide) (he : starEach [a] X.env = (false, eval a X.env) :: starEach [] X.env := by rfl) (hpl : (backTo pos (starEach [] X.env)).any (·.1) = false := by rfl) : DE X (.Call (.Name x p) [a] [] pos) (eUn op f) :=
  peMono (pe_callB hc hg hm hv (pa_cons ha pa_nil he) hn hdb he hpl) fun _ _ _ h => tCB_of ok h
theorem de_t1 {x : Str} {id : String} {p pos : Pos} {a : Expr} {f : Fe} {r : List V → Hp → VK → Prop} {op : D → Option D} (hc : CallR X (.type id) r) (ok : C1Ok X.K r op) (hg : Gl X x) (hm : X.mg x = none) (hv : bootBuiltins x = some (.type id)) (ha : DB X a f)
    (hn : x ≠ "__name__" := by decide) (hdb : (x == ("__debug__" : Str)) = false := by decide) (he : starEach [a] X.env = (false, eval a X.env) :: starEach [] X.env := by rfl) (hpl : (backTo pos (starEach [] X.env)).any (·.1) = false := by rfl) : DE X (.Call (.Name x p) [a] [] pos) (eUn op f) :=
  peMono (pe_callTy hc hg hm hv (pa_cons ha pa_nil he) hn hdb he hpl) fun _ _ _ h => tCB_of ok h
/-- len -/
def lenD : D → Option D
  | .list ds => some (.int (ds.length : Nat))
  | .tuple ds => some (.int (ds.length : Nat))
  | .str x => if x.length ≤ sizeLine then some (.int (x.length : Nat)) else none
  | _ => none
theorem ok_len : C1Ok X.K (fun xs H Q => ∃ x n, xs = [x] ∧ LenV X.K x H n ∧ Q (.int n) H) lenD := fun v d1 d F H Q fh p e k => by
  have p' := p.dp fh
  unfold lenD at e
  split at e
  · cases e
    cases p' with
    | lst hs ha => exact ⟨_, _, rfl, .inl ⟨_, hs, (dpLen ha).symm⟩, k _ F H (.int _) fh Stp.refl⟩
  · cases e
    cases p' with
    | tup hs ha => exact ⟨_, _, rfl, .inr ⟨_, hs, (dpLen ha).symm⟩, k _ F H (.int _) fh Stp.refl⟩
  · split at e
    · rename_i hz
      cases e
      cases p'
      exact ⟨_, _, rfl, ⟨hz, rfl⟩, k _ F H (.int _) fh Stp.refl⟩
    · cases e
  · cases e
/-- abs -/
def absD : D → Option D
  | .int i => some (.int (if i < 0 then -i else i))
  | _ => none
theorem ok_abs : C1Ok X.K (fun xs H Q => ∃ i, xs = [.int i] ∧ Q (.int (if i < 0 then -i else i)) H) absD := fun v d1 d F H Q fh p e k => by
  have p' := p.dp fh
  unfold absD at e
  split at e
  · cases e
    cases p'
    exact ⟨_, rfl, k _ F H (.int _) fh Stp.refl⟩
  · cases e
/-- int of an int, a bool -/
def intD : D → Option D
  | .int i => some (.int i)
  | .bool b => some (.int (if b then 1 else 0))
  | _ => none
theorem ok_int : C1Ok X.K (fun xs H Q => (∃ i, xs = [.int i] ∧ Q (.int i) H) ∨ ∃ k, xs = [.bl k] ∧ Q (.int (if k then 1 else 0)) H) intD := fun v d1 d F H Q fh p e k => by
  have p' := p.dp fh
  unfold intD at e
  split at e
  · cases e
    cases p'
    exact .inl ⟨_, rfl, k _ F H (.int _) fh Stp.refl⟩
  · cases e
    cases p'
    exact .inr ⟨_, rfl, k _ F H (.int _) fh Stp.refl⟩
  · cases e
/-- tuple -/
def tupD : D → Option D
  | .list ds => some (.tuple ds)
  | .tuple ds => some (.tuple ds)
  | _ => none
theorem ok_tup : C1Ok X.K (fun xs H Q => ∃ p ys, xs = [.ref p] ∧ ((SqL X.K H p ys ∧ ∀ l, H l = none → Q (.ref l) (upd H l (.tup ys))) ∨ (SqT X.K H p ys ∧ Q (.ref p) H))) tupD := fun v d1 d F H Q fh p e k => by
  unfold tupD at e
  split at e
  · cases e
    rcases p with p | ⟨ds, a, xs, e1, e2, ha, hp⟩
    · cases p with
      | lst hs ha => exact ⟨_, _, rfl, .inl ⟨fh.seq hs, newTup fh ha k⟩⟩
    · cases e1
      subst e2
      exact ⟨a, xs, rfl, .inl ⟨SqL.of ha, newTup fh hp k⟩⟩
  · cases e
    rcases p with p | ⟨ds, a, xs, e1, e2, ha, hp⟩
    · cases p with
      | tup hs ha => exact ⟨_, _, rfl, .inr ⟨Same.tupS fh hs, k _ F H (.tup hs ha) fh Stp.refl⟩⟩
    · cases e1
  · cases e
/-- flags of a list -/
def boolL : List D → Option (List Bool)
  | [] => some []
  | .bool b :: r => (boolL r).map fun bs => b :: bs
  | _ => none
theorem boolL_of {K : PySem.W.Frag} {H : Hp} : ∀ {ds : List D} {bs : List Bool} {vs : List V}, boolL ds = some bs → DpAll K H vs ds → vs = bs.map V.bl
  | [], _, _, e, h => by cases e; cases h; rfl
  | .bool b :: r, bs, vs, e, h => by
    have e : (boolL r).map _ = some bs := e
    cases q : boolL r with
    | none => rw [q] at e; cases e
    | some cs =>
      rw [q] at e
      cases e
      cases h with
      | cons h1 h2 => cases h1; rw [boolL_of q h2]; rfl
  | .none :: _, _, _, e, _ => by cases e
  | .int _ :: _, _, _, e, _ => by cases e
  | .str _ :: _, _, _, e, _ => by cases e
  | .list _ :: _, _, _, e, _ => by cases e
  | .tuple _ :: _, _, _, e, _ => by cases e
  | .dict _ :: _, _, _, e, _ => by cases e
def allD : D → Option D
  | .list ds => (boolL ds).map fun bs => .bool (bs.all id)
  | _ => none
def anyD : D → Option D
  | .list ds => (boolL ds).map fun bs => .bool (bs.any id)
  | _ => none
theorem ok_all : C1Ok X.K (rAll X.K) allD := fun v d1 d F H Q fh p e k => by
  have p' := p.dp fh
  unfold allD at e
  split at e
  · rename_i ds
    cases q : boolL ds with
    | none => rw [q] at e; cases e
    | some bs =>
      rw [q] at e
      cases e
      cases p' with
      | lst hs ha => exact ⟨_, bs, rfl, by rw [← boolL_of q ha]; exact hs, k _ F H (.bl _) fh Stp.refl⟩
  · cases e
theorem ok_any : C1Ok X.K (rAny X.K) anyD := fun v d1 d F H Q fh p e k => by
  have p' := p.dp fh
  unfold anyD at e
  split at e
  · rename_i ds
    cases q : boolL ds with
    | none => rw [q] at e; cases e
    | some bs =>
      rw [q] at e
      cases e
      cases p' with
      | lst hs ha => exact ⟨_, bs, rfl, by rw [← boolL_of q ha]; exact hs, k _ F H (.bl _) fh Stp.refl⟩
  · cases e
/-- intL of a list -/
def intL : List D → Option (List Int)
  | [] => some []
  | .int b :: r => (intL r).map fun bs => b :: bs
  | _ => none
theorem intL_of {K : PySem.W.Frag} {H : Hp} : ∀ {ds : List D} {bs : List Int} {vs : List V}, intL ds = some bs → DpAll K H vs ds → vs = bs.map V.int
  | [], _, _, e, h => by cases e; cases h; rfl
  | .int b :: r, bs, vs, e, h => by
    have e : (intL r).map _ = some bs := e
    cases q : intL r with
    | none => rw [q] at e; cases e
    | some cs =>
      rw [q] at e
      cases e
      cases h with
      | cons h1 h2 => cases h1; rw [intL_of q h2]; rfl
  | .none :: _, _, _, e, _ => by cases e
  | .bool _ :: _, _, _, e, _ => by cases e
  | .str _ :: _, _, _, e, _ => by cases e
  | .list _ :: _, _, _, e, _ => by cases e
  | .tuple _ :: _, _, _, e, _ => by cases e
  | .dict _ :: _, _, _, e, _ => by cases e
def sumD : D → Option D
  | .list ds => (intL ds).map fun bs => .int bs.sum
  | _ => none
theorem ok_sum : C1Ok X.K (rSum X.K) sumD := fun v d1 d F H Q fh p e k => by
  have p' := p.dp fh
  unfold sumD at e
  split at e
  · rename_i ds
    cases q : intL ds with
    | none => rw [q] at e; cases e
    | some bs =>
      rw [q] at e
      cases e
      cases p' with
      | lst hs ha => exact ⟨_, bs, rfl, by rw [← intL_of q ha]; exact hs, k _ F H (.int _) fh Stp.refl⟩
  · cases e
section
variable {a : Expr} {f : Fe} {p pos : Pos}
theorem de_len (hg : Gl X "len") (hm : X.mg "len" = none) (ha : DB X a f) (he : starEach [a] X.env = (false, eval a X.env) :: starEach [] X.env := by rfl) : DE X (.Call (.Name "len" p) [a] [] pos) (eUn lenD f) := de_b1 call_len ok_len hg hm PySem.boot_len ha (he := he)
theorem de_abs (hg : Gl X "abs") (hm : X.mg "abs" = none) (ha : DB X a f) (he : starEach [a] X.env = (false, eval a X.env) :: starEach [] X.env := by rfl) : DE X (.Call (.Name "abs" p) [a] [] pos) (eUn absD f) := de_b1 call_abs ok_abs hg hm (by decide +kernel) ha (he := he)
theorem de_int1 (hg : Gl X "int") (hm : X.mg "int" = none) (ha : DB X a f) (he : starEach [a] X.env = (false, eval a X.env) :: starEach [] X.env := by rfl) : DE X (.Call (.Name "int" p) [a] [] pos) (eUn intD f) := de_t1 call_int1 ok_int hg hm (by decide +kernel) ha (he := he)
theorem de_tuple (hg : Gl X "tuple") (hm : X.mg "tuple" = none) (ha : DB X a f) (he : starEach [a] X.env = (false, eval a X.env) :: starEach [] X.env := by rfl) : DE X (.Call (.Name "tuple" p) [a] [] pos) (eUn tupD f) := de_t1 call_tuple_of ok_tup hg hm (by decide +kernel) ha (he := he)
theorem de_all (hc : X.calm = true) (hg : Gl X "all") (hm : X.mg "all" = none) (ha : DB X a f) (he : starEach [a] X.env = (false, eval a X.env) :: starEach [] X.env := by rfl) : DE X (.Call (.Name "all" p) [a] [] pos) (eUn allD f) := de_b1 (cr_all hc) ok_all hg hm (by decide +kernel) ha (he := he)
theorem de_any (hc : X.calm = true) (hg : Gl X "any") (hm : X.mg "any" = none) (ha : DB X a f) (he : starEach [a] X.env = (false, eval a X.env) :: starEach [] X.env := by rfl) : DE X (.Call (.Name "any" p) [a] [] pos) (eUn anyD f) := de_b1 (cr_any hc) ok_any hg hm (by decide +kernel) ha (he := he)
theorem de_sum (hc : X.calm = true) (hg : Gl X "sum") (hm : X.mg "sum" = none) (ha : DB X a f) (he : starEach [a] X.env = (false, eval a X.env) :: starEach [] X.env := by rfl) : DE X (.Call (.Name "sum" p) [a] [] pos) (eUn sumD f) := de_b1 (cr_sum hc) ok_sum hg hm (by decide +kernel) ha (he := he)
end
/-! ### repr of data -/
mutual
/-- no list in it -/
def noL : D → Bool
  | .list _ => false
  | .tuple ds => noLAll ds
  | _ => true
def noLAll : List D → Bool
  | [] => true
  | d :: ds => noL d && noLAll ds
end
section
variable {X : Cx} {pins : List (Addr × Obj)} {σ : L2.St} {H : Hp} {s : Shared}
mutual
theorem Dp.readsN (I : Inv X pins σ H s) : ∀ (d : D) (v : V) (u : Value), noL d = true → Dp X.K H v d → RelV v u → ∃ as, Reads s.heap u d as ∧ sysModules ∉ as
  | .none, _, _, _, h, r => by cases h; cases r; exact ⟨_, Reads.none, by simp⟩
  | .bool b, _, _, _, h, r => by cases h; cases r; exact ⟨_, Reads.bool b, by simp⟩
  | .int i, _, _, _, h, r => by
    cases h
    obtain ⟨t, rfl⟩ := r
    exact ⟨_, Reads.int i t, by simp⟩
  | .str x, _, _, _, h, r => by
    cases h
    obtain ⟨t, rfl⟩ := r
    exact ⟨_, Reads.str x t, by simp⟩
  | .list ds, _, _, n, _, _ => by simp [noL] at n
  | .tuple ds, _, _, n, h, r => by
    cases h with
    | tup hs ha =>
      cases r
      obtain ⟨its, rv, ⟨o, ho, hc, n', hd⟩, _⟩ := I.tuple hs
      obtain ⟨as, q, m⟩ := DpAll.readsN I ds _ its (by simpa only [noL] using n) ha rv
      exact ⟨_, Reads.tuple ho hc hd q, m⟩
  | .dict _, _, _, _, h, r => by
    cases h with
    | dct e =>
      cases r
      obtain ⟨_, hsm, xs, hp, o, es, ep, ho, hx, hd, he, _⟩ := (show ObjOk X.prog X.w H s.heap _ (.dT []) from I.hok _ _ e)
      cases hp
      refine ⟨_, Reads.dict ho hx.1 hd (by rw [he]; exact .nil) (by rw [he]; exact .nil), fun z => ?_⟩
      simp only [List.append_nil, List.mem_singleton] at z
      rw [z] at hsm
      simp at hsm
theorem DpAll.readsN (I : Inv X pins σ H s) : ∀ (ds : List D) (vs : List V) (us : List Value), noLAll ds = true → DpAll X.K H vs ds → Vals vs us → ∃ as, ReadsAll s.heap us ds as ∧ sysModules ∉ as
  | [], _, _, _, h, r => by cases h; cases r; exact ⟨_, ReadsAll.nil, by simp⟩
  | d :: ds, _, _, n, h, r => by
    simp only [noLAll, Bool.and_eq_true] at n
    cases h with
    | cons h1 h2 =>
      cases r with
      | cons r1 r2 =>
        obtain ⟨as, q1, m1⟩ := Dp.readsN I d _ _ n.1 h1 r1
        obtain ⟨bs, q2, m2⟩ := DpAll.readsN I ds _ _ n.2 h2 r2
        exact ⟨_, ReadsAll.cons q1 q2, fun z => (List.mem_append.mp z).elim m1 m2⟩
end
end
def reprD (d : D) : Option D := if d.showable = true ∧ (d.hasDict = false ∨ noL d = true) ∧ d.depth ≤ 60 ∧ d.shown.length ≤ sizeLine then some (.str d.shown) else none
theorem call_reprD (hg : X.A.guards = some []) (hu : X.A.units + 64 < cLine) : CallR X (.builtin "repr") (fun xs H Q => ∃ x d, xs = [x] ∧ Dp X.K H x d ∧ d.showable = true ∧ (d.hasDict = false ∨ noL d = true) ∧ d.depth ≤ 60 ∧ d.shown.length ≤ sizeLine ∧ Q (.str d.shown) H) := by
  intro pins s st H xs us Q I r h
  obtain ⟨x, d, rfl, hp, h1, h2, h3, h5, q⟩ := h
  obtain ⟨u, rfl, rx⟩ := vals1 r
  have key : ∀ a, u = .ref a → wpAny (model X.prog X.w) X.A (call (.builtin "repr") [u]) (fun v s' => EP X pins st Q v s') X.xe s := fun a e => by
    subst e
    have fin : ∀ as, Reads s.heap (.ref a) d as → (d.hasDict = true → sysModules ∉ as) → wpAny (model X.prog X.w) X.A (call (.builtin "repr") [.ref a]) (fun v s' => EP X pins st Q v s') X.xe s := fun as rd hsm =>
      repr_of_reads' rd h1 hsm hg (by omega) (fun _ _ e => e) (fun h' w tk hk => ⟨.str d.shown, H, I.kept hk, ⟨w, rfl⟩, q⟩) h5
    rcases h2 with h2 | h2
    · obtain ⟨as, rd⟩ := Dp.reads I d x _ hp rx
      exact fin as rd (PyData.noDict_hsm h2)
    · obtain ⟨as, rd, hm⟩ := Dp.readsN I d x _ h2 hp rx
      exact fin as rd fun _ => hm
  cases hp with
  | non => cases rx; exact PySem.P.repr_of_none ⟨.str _, H, I.tok _, ⟨_, rfl⟩, q⟩
  | bl b => cases rx; exact PySem.P.repr_of_bool ⟨.str _, H, I.tok _, ⟨_, rfl⟩, q⟩
  | int i =>
    obtain ⟨t, rfl⟩ := rx
    exact PySem.P.repr_of_int (by simpa [PyData.showable] using h1) ⟨.str _, H, I.tok _, ⟨_, rfl⟩, q⟩
  | str y =>
    obtain ⟨t, rfl⟩ := rx
    exact PySem.P.repr_of_str ⟨.str _, H, I.tok _, ⟨_, rfl⟩, q⟩ h5
  | lst hs ha => cases rx; exact key _ rfl
  | tup hs ha => cases rx; exact key _ rfl
  | dct e => cases rx; exact key _ rfl
theorem ok_repr : C1Ok X.K (fun xs H Q => ∃ x d, xs = [x] ∧ Dp X.K H x d ∧ d.showable = true ∧ (d.hasDict = false ∨ noL d = true) ∧ d.depth ≤ 60 ∧ d.shown.length ≤ sizeLine ∧ Q (.str d.shown) H) reprD := fun v d1 d F H Q fh p e k => by
  unfold reprD at e
  split at e
  · rename_i hh
    cases e
    exact ⟨v, d1, rfl, p.dp fh, hh.1, hh.2.1, hh.2.2.1, hh.2.2.2, k _ F H (.str _) fh Stp.refl⟩
  · cases e
theorem de_repr {a : Expr} {f : Fe} {p pos : Pos} (hgd : X.A.guards = some []) (hu : X.A.units + 64 < cLine) (hg : Gl X "repr") (hm : X.mg "repr" = none) (ha : DB X a f) (he : starEach [a] X.env = (false, eval a X.env) :: starEach [] X.env := by rfl) : DE X (.Call (.Name "repr" p) [a] [] pos) (eUn reprD f) :=
  de_b1 (call_reprD hgd hu) ok_repr hg hm (by decide +kernel) ha (he := he)

/-! ### isinstance -/
def tyD : D → Option String
  | .none => some "NoneType"
  | .bool _ => some "bool"
  | .int _ => some "int"
  | .str _ => some "str"
  | .list _ => some "list"
  | .tuple _ => some "tuple"
  | .dict [] => some "dict"
  | .dict _ => none
theorem tyX_of {K : PySem.W.Frag} {H : Hp} {v : V} {d : D} {n : String} (h : Dp K H v d) (e : tyD d = some n) : TyX K H v (.type n) := by
  cases h with
  | non => cases e; exact .base .non
  | bl b => cases e; exact .base (.bl b)
  | int i => cases e; exact .base (.int i)
  | str x => cases e; exact .base (.str x)
  | lst hs ha =>
    cases e
    rcases hs with (hs | ⟨o, hs⟩) | ⟨o, its, m, hk, hc, _⟩
    · exact .base (.lst hs)
    · exact .base (.frz hs)
    · exact .kList hk hc
  | tup hs ha =>
    cases e
    rcases hs with (hs | ⟨o, hs⟩) | ⟨o, its, m, hk, hc, _⟩
    · exact .base (.tup hs)
    · exact .fTuple hs
    · exact .kTuple hk hc
  | dct q => cases e; exact .base (.dT q)
/-- isinstance(e, T) -/
def isiD (T : String) (d : D) : Option D := (tyD d).bind fun n => (kitB n T).map fun b => .bool b
theorem de_isi {a : Expr} {f : Fe} {p pt pos : Pos} {T : Str} {n : String} (hg : Gl X "isinstance") (hm : X.mg "isinstance" = none) (hgT : Gl X T) (hmT : X.mg T = none) (hv : bootBuiltins T = some (.type n)) (ha : DE X a f)
    (hn : T ≠ "__name__" := by decide) (hd : (T == ("__debug__" : Str)) = false := by decide)
    (he : starEach [a, .Name T pt] X.env = (false, eval a X.env) :: starEach [.Name T pt] X.env := by rfl) (he2 : starEach [.Name T pt] X.env = (false, eval (.Name T pt) X.env) :: starEach [] X.env := by rfl) (hpl : (backTo pos (starEach [.Name T pt] X.env)).any (·.1) = false := by rfl) :
    DE X (.Call (.Name "isinstance" p) [a, .Name T pt] [] pos) (eUn (isiD n) f) :=
  peMono (pe_callB call_isi hg hm (by decide +kernel) (pa_cons ha (pa_cons (pe_bltn (v := .ty n) hgT hmT hv rfl hn hd) pa_nil he2) he) (by decide) (by decide) he hpl) fun s H Q h => by
    obtain ⟨F, g, d, g', rp, e, k⟩ := h
    obtain ⟨d1, e1, e2⟩ := eUn_inv e
    refine ⟨F, g, d1, g', rp, e1, fun v1 F1 H1 p1 r1 t1 m1 => ?_⟩
    unfold isiD at e2
    cases q : tyD d1 with
    | none => rw [q] at e2; cases e2
    | some m =>
      rw [q] at e2
      have e2 : (kitB m n).map _ = some d := e2
      cases q2 : kitB m n with
      | none => rw [q2] at e2; cases e2
      | some b =>
        rw [q2] at e2; cases e2
        exact ⟨v1, .ty n, .type m, .type n, b, rfl, .ty n, tyX_of (dpMono r1.fh _ _ p1) q, kit_ty q2, k _ F1 H1 (.bl b) r1 t1 m1⟩
/-- isinstance(e, (T, U)) -/
def isi2D (T U : String) (d : D) : Option D := (tyD d).bind fun n => match kitB n T, kitB n U with
  | some a, some b => some (.bool (a || b))
  | _, _ => none
theorem de_isi2 {a : Expr} {f : Fe} {p pt pu pos tp : Pos} {kk : Nat} {T U : Str} {n m : String} (hg : Gl X "isinstance") (hm : X.mg "isinstance" = none) (hgT : Gl X T) (hmT : X.mg T = none) (hv : bootBuiltins T = some (.type n)) (hgU : Gl X U) (hmU : X.mg U = none) (hvU : bootBuiltins U = some (.type m)) (ha : DE X a f)
    (hn : T ≠ "__name__" := by decide) (hd : (T == ("__debug__" : Str)) = false := by decide) (hnU : U ≠ "__name__" := by decide) (hdU : (U == ("__debug__" : Str)) = false := by decide)
    (he : starEach [a, .Tuple [.Name T pt, .Name U pu] kk tp] X.env = (false, eval a X.env) :: starEach [.Tuple [.Name T pt, .Name U pu] kk tp] X.env := by rfl) (he2 : starEach [.Tuple [.Name T pt, .Name U pu] kk tp] X.env = (false, eval (.Tuple [.Name T pt, .Name U pu] kk tp) X.env) :: starEach [] X.env := by rfl)
    (h3 : starEach [.Name T pt, .Name U pu] X.env = (false, eval (.Name T pt) X.env) :: starEach [.Name U pu] X.env := by rfl) (h4 : starEach [.Name U pu] X.env = (false, eval (.Name U pu) X.env) :: starEach [] X.env := by rfl)
    (hpl : (backTo pos (starEach [.Tuple [.Name T pt, .Name U pu] kk tp] X.env)).any (·.1) = false := by rfl) :
    DE X (.Call (.Name "isinstance" p) [a, .Tuple [.Name T pt, .Name U pu] kk tp] [] pos) (eUn (isi2D n m) f) :=
  peMono (pe_callB call_isiT hg hm (by decide +kernel) (pa_cons ha (pa_cons (pe_tup (pa_cons (pe_bltn (v := .ty n) hgT hmT hv rfl hn hd) (pa_cons (pe_bltn (v := .ty m) hgU hmU hvU rfl hnU hdU) pa_nil h4) h3)) pa_nil he2) he) (by decide) (by decide) he hpl) fun s H Q h => by
    obtain ⟨F, g, d, g', rp, e, k⟩ := h
    obtain ⟨d1, e1, e2⟩ := eUn_inv e
    refine ⟨F, g, d1, g', rp, e1, fun v1 F1 H1 p1 r1 t1 m1 => ⟨by show 2 ≤ sizeLine; decide, fun tpa ntp => ?_⟩⟩
    unfold isi2D at e2
    cases q : tyD d1 with
    | none => rw [q] at e2; cases e2
    | some t =>
      rw [q] at e2
      simp only [Option.bind_some] at e2
      split at e2
      · rename_i b1 b2 k1 k2
        cases e2
        have st : Stp Non F1 H1 F1 (upd H1 tpa (.tup [.ty n, .ty m])) := Stp.made ntp
        have fh := sameMade (o := .tup [.ty n, .ty m]) r1.fh ntp
        refine ⟨v1, tpa, [.ty n, .ty m], .type t, [.type n, .type m], b1 || b2, rfl, upd_same, .cons (.ty n) (.cons (.ty m) .nil), tyX_of (dpMono fh _ _ p1) q, ?_, k _ F1 _ (.bl _) (r1.stepN st fh) (t1.andN st) m1⟩
        refine kitAny_cons (kit_ty k1) (fun z => ?_) (fun z => by rw [z]; rfl)
        subst z
        refine kitAny_cons (kit_ty k2) (fun z => ?_) (fun z => by rw [z]; rfl)
        subst z
        rfl
      · cases e2
end Dl
set_option Elab.async false
set_option linter.all false
set_option maxRecDepth 100000
namespace Dl
open PySem PySem.Spec PyProof.Rows L2

/-! ### a def and its promise, where no repr is under way -/
abbrev Sp3 := List V → Hp → VK → Prop
structure FnG (P : Program) (w : World) (K : PySem.W.Frag) (mg : Str → Option Value) (base : Heap) (k : Nat) (f : Addr) (fd : FuncData) (ps : List Str) (sp : Sp3) : Prop where
  len : ∀ vs H Q, sp vs H Q → vs.length = ps.length
  run : ∀ (A : Around) (outer : List Env) (st : Shared) (H : Hp) (args : Args) (us : List Value) (vs : List V) (Q : VK), Room k A → A.guards = some [] → Env0 P w K mg base A outer st H → BindsTo st fd args (ps.zip us) → Vals vs us → sp vs H Q →
    codeAny (model P w) A (.call (.ref f) args) (CR CX0 outer P w H st Q E0) st
theorem FnG.mono {P : Program} {w : World} {K : PySem.W.Frag} {mg : Str → Option Value} {base : Heap} {j k : Nat} {f : Addr} {fd : FuncData} {ps : List Str} {sp : Sp3} (F : FnG P w K mg base j f fd ps sp) (h : j ≤ k) : FnG P w K mg base k f fd ps sp :=
  ⟨F.len, fun A outer st H args us vs Q hr => F.run A outer st H args us vs Q (hr.mono h)⟩
abbrev BodyCx (P : Program) (w : World) (K : PySem.W.Frag) (mg : Str → Option Value) (base : Heap) (N : List Str) (qual : Str) (sc : Scope) (f : Addr) (cd : Value) (A : Around) (outer : List Env) (st : Shared) (H : Hp) : Cx := (cxOf CX0 P w K mg base N qual sc f cd A outer st H E0).nox
section
variable {P : Program} {w : World} {K : PySem.W.Frag} {mg : Str → Option Value} {base : Heap}
theorem fnG_of {x qual : Str} {sd : Stmt} {f : Addr} {fd : FuncData} {N ps : List Str} {k : Nat} {sp : Sp3} (F : Fun K x qual sd f fd) (S : FnScope N ps (defScope sd)) (len : ∀ vs H Q, sp vs H Q → vs.length = ps.length)
    (hbody : ∀ (cd : Value) (A : Around) (outer : List Env) (st : Shared) (H : Hp) (vs : List V) (Q : VK), Room k (BodyCx P w K mg base N qual (defScope sd) f cd A outer st H).A → (BodyCx P w K mg base N qual (defScope sd) f cd A outer st H).A.guards = some [] → sp vs H Q →
      ∃ t, PSs (BodyCx P w K mg base N qual (defScope sd) f cd A outer st H) (defBody sd) t ∧ t { nx := fun _ H' => Q .non H', rt := Q } (L2.start N vs) H) : FnG P w K mg base (k + 1) f fd ps sp := by
  obtain ⟨oc, od, kV, doc, pm, an, cd, ct, osl, efd, lk, hcd⟩ := F.ex
  subst efd
  refine ⟨len, fun A outer st H args us vs Q room gd env0 bnd vals want => ?_⟩
  have hl := len vs H Q want
  have inK : K.In st.heap := env0.mod.kin.keeps fun b o z => (env0.bs b o z).1
  have nolim : st.heap.NoLimit := env0.mod.nolimit.keeps fun b o z => (env0.bs b o z).1
  have kinds : ∀ q ∈ ps.zip us, (defScope sd).names.lookup q.1 = some .local ∨ ((defScope sd).names.lookup q.1 = some .cell ∧ ((cellsFrom (st.heap.objs.size + 1) (defScope sd).names []).lookup q.1).isSome = true) := by
    rintro ⟨nm, v⟩ hq
    exact (S.par nm (List.of_mem_zip hq).1).imp id fun z => ⟨z, PySem.W.cellsFrom_some _ _ _ (.inl z)⟩
  refine codeAny_call_function room.depth (inK _ _ lk) rfl S.co S.gen rfl (PySem.W.codeRec_of inK hcd) (bnd _ _ _ _ (wpAny_newFunctionEnv_cells S.kind kinds fun env he st1 inC => ?_))
  subst he
  refine ⟨nolim.keeps inC.toInCall.keep, codeAny_func ?_⟩
  obtain ⟨t, ht, good⟩ := hbody cd A outer st H vs Q (room.deeper _) gd want
  have I0 : Inv (cxOf CX0 P w K mg base N qual (defScope sd) f cd A outer st H E0) [] (L2.start N vs) H st1 := inv_start S room.hd env0 hl vals inC
  refine wpAny_mono (ht.nox.run [] st1 (L2.start N vs) H _ I0 good) (fun fl st2 hs => ?_) fun e st2 hs => hs
  cases fl with
  | ret u =>
    obtain ⟨v, _, H2, J, rv, q⟩ := hs
    exact ⟨v, H2, J.os, J.bare, J.base, J.hok, rv, q⟩
  | next =>
    obtain ⟨_, H2, J, q⟩ := hs
    exact ⟨.non, H2, J.os, J.bare, J.base, J.hok, rfl, q⟩
  | brk =>
    obtain ⟨_, _, _, q⟩ := hs
    exact q.elim
  | cont =>
    obtain ⟨_, _, _, q⟩ := hs
    exact q.elim
end
section
variable {X : Cx} {k : Nat} {f : Addr} {fd : FuncData} {ps : List Str} {sp : Sp3}
/-- f(e, ..) -/
theorem pe_callG {x : Str} {p pos : Pos} {e : Expr} {es : List Expr} {t : TA} (F : FnG X.prog X.w X.K X.mg X.base k f fd ps sp) (room : Room k X.A) (gd : X.A.guards = some []) (hg : Gl X x) (hm : X.mg x = some (.ref f)) (hk : PySem.W.keepIn X.K (.ref f) = true) (hb : Binds X.K fd ps [])
    (ha : PA X (e :: es) t) (hdb : (x == ("__debug__" : Str)) = false := by decide) (he : starEach (e :: es) X.env = (false, eval e X.env) :: starEach es X.env := by rfl) (hpl : (backTo pos (starEach es X.env)).any (·.1) = false := by rfl) :
    PE X (.Call (.Name x p) (e :: es) [] pos) (fun s H Q => t s H fun vs H1 => sp vs H1 Q) := by
  refine ⟨fun pins st s H Q I h => wpAny_Call_Name_kw (ld_glob I hg hm (PySem.W.callWith_K (h₀ := X.base) I.ok.mod.kin hk (thn (ha.run pos pins st s H _ I h) fun us st1 hq => ?_) he hpl) hdb)⟩
  obtain ⟨vs, H1, I1, r, q⟩ := hq
  refine ⟨I1.kIn, ?_⟩
  have hl : (us ++ ([] : List Value)).length = ps.length := by rw [List.append_nil, ← r.length]; exact F.len _ _ _ q
  have bt := hb st1 us I1.kIn hl
  rw [List.append_nil] at bt
  refine wpAny_call (codeAny_mono (F.run X.A X.stack st1 H1 ⟨us, []⟩ us vs Q room gd I1.env0 bt r q) fun res st2 hq => ?_)
  cases res with
  | error e => exact (show False from hq).elim
  | ok fl =>
    cases fl with
    | ret u => exact I1.after hq
    | next => exact (show False from hq).elim
    | brk => exact (show False from hq).elim
    | cont => exact (show False from hq).elim
end

/-! ### promises by data -/
/-- a value handed back -/
def Back (K : PySem.W.Frag) (F H : Hp) (O : Addr → Prop) (x : Sl) (Q : VK) : Prop := ∀ v F' H', RepS K F' H' x (some v) → x ≠ .no → (∀ t es, x = .own t es → t = none ∧ ∃ a, v = .ref a ∧ H a = none) → Same F' H' → Stp O F H F' H' → Q v H'
/-- a def of n arguments, all data: m tells the answer -/
def spP (K : PySem.W.Frag) (n : Nat) (m : List D → Option Sl) : Sp3 := fun vs H Q => ∃ F ds x, Same F H ∧ DpAll K F vs ds ∧ ds.length = n ∧ m ds = some x ∧ Back K F H Non x Q
/-- a def whose first argument is a list that it changes -/
def spI (K : PySem.W.Frag) (n : Nat) (m : List D → List D → Option (Sl × List D)) : Sp3 := fun vs H Q => ∃ F a xs es ws ds x es', vs = .ref a :: ws ∧ Same F H ∧ F a = none ∧ H a = some (.lst xs) ∧ DpAll K F xs es ∧ DpAll K F ws ds ∧ ds.length + 1 = n ∧ m es ds = some (x, es') ∧
  ∀ v F' H' xs', RepS K F' H' x (some v) → x ≠ .no → (∀ t fs, x = .own t fs → t = none ∧ ∃ b, v = .ref b ∧ H b = none) → Same F' H' → F' a = none → H' a = some (.lst xs') → DpAll K F' xs' es' → Stp (fun b => b = a) F H F' H' → Q v H'
theorem spP_len {K : PySem.W.Frag} {n : Nat} {m : List D → Option Sl} : ∀ vs H Q, spP K n m vs H Q → vs.length = n := fun vs H Q ⟨F, ds, x, _, hp, hl, _⟩ => by rw [dpLen hp, hl]
theorem spI_len {K : PySem.W.Frag} {n : Nat} {m : List D → List D → Option (Sl × List D)} : ∀ vs H Q, spI K n m vs H Q → vs.length = n := fun vs H Q ⟨F, a, xs, es, ws, ds, x, es', e, _, _, _, _, hp, hl, _⟩ => by rw [e, List.length_cons, dpLen hp, hl]

/-! ### a body run from its arguments -/
def runG (f : Fs) (N : Nat) (g : G) : Option (Sl × G) := match f (g ++ List.replicate (N - g.length) .no) with
  | some (.ret x g') => some (x, g')
  | some (.nx g') => some (.v .none, g')
  | _ => none
def fnP (f : Fs) (N : Nat) (ds : List D) : Option Sl := (runG f N (ds.map .v)).map (·.1)
open Classical in
noncomputable def fnI (f : Fs) (N : Nat) (es ds : List D) : Option (Sl × List D) :=
  if h : ∃ r : Sl × List D, ∀ a, ∃ g', runG f N (.own (some a) es :: ds.map .v) = some (r.1, g') ∧ g'[0]? = some (.own (some a) r.2) then some h.choose else none
theorem fnI_of {f : Fs} {N : Nat} {es ds : List D} {x : Sl} {es' : List D} (h : ∀ a, ∃ g', runG f N (.own (some a) es :: ds.map .v) = some (x, g') ∧ g'[0]? = some (.own (some a) es')) : fnI f N es ds = some (x, es') := by
  have hx : ∃ r : Sl × List D, ∀ a, ∃ g', runG f N (.own (some a) es :: ds.map .v) = some (r.1, g') ∧ g'[0]? = some (.own (some a) r.2) := ⟨(x, es'), h⟩
  unfold fnI
  rw [dif_pos hx]
  obtain ⟨g1, e1, q1⟩ := hx.choose_spec (0 : Nat)
  obtain ⟨g2, e2, q2⟩ := h (0 : Nat)
  rw [e1] at e2
  have h1 : hx.choose.1 = x := (Prod.mk.inj (Option.some.inj e2)).1
  have h2 : g1 = g2 := (Prod.mk.inj (Option.some.inj e2)).2
  rw [h2, q2] at q1
  have h3 : es' = hx.choose.2 := by cases q1; rfl
  rw [h3, ← h1]
theorem fnI_inv {f : Fs} {N : Nat} {es ds : List D} {x : Sl} {es' : List D} (h : fnI f N es ds = some (x, es')) (a : Addr) : ∃ g', runG f N (.own (some a) es :: ds.map .v) = some (x, g') ∧ g'[0]? = some (.own (some a) es') := by
  unfold fnI at h
  split at h
  · rename_i hx
    have := hx.choose_spec a
    have e : hx.choose = (x, es') := Option.some.inj h
    rw [e] at this
    exact this
  · cases h
theorem startRep {K : PySem.W.Frag} {F H : Hp} {N : List Str} : ∀ {vs : List V} {ds : List D}, Same F H → DpAll K F vs ds → Rep K F (ds.map .v ++ List.replicate (N.length - ds.length) .no) (L2.start N vs) H := fun {vs ds} fh hp => by
  have hl := dpLen hp
  refine ⟨fh, by unfold L2.start; simp [hl], fun i x o hx ho => ?_, fun i j a t u es fs h1 => ?_⟩
  · unfold L2.start at ho
    by_cases hi : i < ds.length
    · rw [List.getElem?_append_left (by simpa using hi), List.getElem?_map] at hx
      rw [List.getElem?_append_left (by simpa [hl] using hi), List.getElem?_map] at ho
      cases q : ds[i]? with
      | none => rw [q] at hx; cases hx
      | some d =>
        rw [q] at hx; cases hx
        obtain ⟨v, hv, hd⟩ := dpAt hp q
        rw [hv] at ho; cases ho
        exact ⟨v, rfl, hd⟩
    · rw [List.getElem?_append_right (by simpa using hi), List.getElem?_replicate] at hx
      split at hx
      · cases hx; trivial
      · cases hx
  · exfalso
    by_cases hi : i < ds.length
    · rw [List.getElem?_append_left (by simpa using hi), List.getElem?_map] at h1
      cases q : ds[i]? with
      | none => rw [q] at h1; cases h1
      | some d => rw [q] at h1; cases h1
    · rw [List.getElem?_append_right (by simpa using hi), List.getElem?_replicate] at h1
      split at h1 <;> cases h1
section
variable {P : Program} {w : World} {K : PySem.W.Frag} {mg : Str → Option Value} {base : Heap}
/-- THE RULE for a def of data -/
theorem fnP_ok {x qual : Str} {sd : Stmt} {f : Addr} {fd : FuncData} {N ps : List Str} {k : Nat} {b : Fs} {n : Nat} (F : Fun K x qual sd f fd) (S : FnScope N ps (defScope sd)) (hn : ps.length = n)
    (hbody : ∀ (cd : Value) (A : Around) (outer : List Env) (st : Shared) (H : Hp), Room k (BodyCx P w K mg base N qual (defScope sd) f cd A outer st H).A → (BodyCx P w K mg base N qual (defScope sd) f cd A outer st H).A.guards = some [] →
      DSs (BodyCx P w K mg base N qual (defScope sd) f cd A outer st H) (defBody sd) b) : FnG P w K mg base (k + 1) f fd ps (spP K n (fnP b N.length)) := by
  refine fnG_of F S (fun vs H Q h => by rw [hn]; exact spP_len vs H Q h) fun cd A outer st H vs Q room gd h => ⟨_, hbody cd A outer st H room gd, ?_⟩
  obtain ⟨F0, ds, y, fh, hp, hl, e, k⟩ := h
  unfold fnP runG at e
  rw [List.length_map] at e
  have r0 := startRep (N := N) fh hp
  have noOwn : ∀ a, ¬ OwnAt (ds.map .v ++ List.replicate (N.length - ds.length) .no) (L2.start N vs) a := fun a ⟨i, t, es, h1, _⟩ => by
    by_cases hi : i < ds.length
    · rw [List.getElem?_append_left (by simpa using hi), List.getElem?_map] at h1
      cases q : ds[i]? with
      | none => rw [q] at h1; cases h1
      | some d => rw [q] at h1; cases h1
    · rw [List.getElem?_append_right (by simpa using hi), List.getElem?_replicate] at h1
      split at h1 <;> cases h1
  cases q : b (ds.map .v ++ List.replicate (N.length - ds.length) .no) with
  | none => rw [q] at e; cases e
  | some o =>
    rw [q] at e
    refine ⟨F0, _, o, r0, q, ?_⟩
    cases o with
    | bk g' => cases e
    | ct g' => cases e
    | nx g' =>
      cases e
      exact fun F' s' H' t => k .non F' H' ⟨_, rfl, .non⟩ (fun z => nomatch z) (fun _ _ z => nomatch z) t.rep.fh (t.stp.weak fun b hb => noOwn b hb)
    | ret z g' =>
      cases e
      refine fun v F' s' H' hv hz ho t => k v F' H' hv hz (fun tg es ez => ?_) t.rep.fh (t.stp.weak fun b hb => noOwn b hb)
      obtain ⟨e1, a, e2, e3, _⟩ := ho tg es ez
      exact ⟨e1, a, e2, e3.resolve_right (noOwn a)⟩
theorem startRepI {F H : Hp} {N : List Str} {a : Addr} {xs : List V} {es : List D} {vs : List V} {ds : List D} (fh : Same F H) (fa : F a = none) (ha : H a = some (.lst xs)) (hx : DpAll K F xs es) (hp : DpAll K F vs ds) :
    Rep K F (.own (some a) es :: (ds.map .v ++ List.replicate (N.length - (ds.length + 1)) .no)) (L2.start N (.ref a :: vs)) H := by
  have hl := dpLen hp
  have noT : ∀ (i : Nat) (t : Option Addr) (fs : List D), (ds.map Sl.v ++ List.replicate (N.length - (ds.length + 1)) Sl.no)[i]? ≠ some (Sl.own t fs) := fun i t fs h1 => by
    by_cases hi : i < ds.length
    · rw [List.getElem?_append_left (by simpa using hi), List.getElem?_map] at h1
      cases q : ds[i]? with
      | none => rw [q] at h1; cases h1
      | some d => rw [q] at h1; cases h1
    · rw [List.getElem?_append_right (by simpa using hi), List.getElem?_replicate] at h1
      split at h1 <;> cases h1
  refine ⟨fh, by unfold L2.start; simp [hl], fun i x o hxx ho => ?_, fun i j b t u fs gs h1 h2 => ?_⟩
  · cases i with
    | zero =>
      cases hxx
      cases ho
      exact ⟨a, xs, rfl, fa, ha, hx, fun b e => (Option.some.inj e).symm⟩
    | succ i =>
      have hxx : (ds.map Sl.v ++ List.replicate (N.length - (ds.length + 1)) Sl.no)[i]? = some x := by simpa using hxx
      have ho : (vs.map some ++ List.replicate (N.length - (vs.length + 1)) none)[i]? = some o := by
        unfold L2.start at ho
        simpa using ho
      by_cases hi : i < ds.length
      · rw [List.getElem?_append_left (by simpa using hi), List.getElem?_map] at hxx
        rw [List.getElem?_append_left (by simpa [hl] using hi), List.getElem?_map] at ho
        cases q : ds[i]? with
        | none => rw [q] at hxx; cases hxx
        | some d =>
          rw [q] at hxx; cases hxx
          obtain ⟨v, hv, hd⟩ := dpAt hp q
          rw [hv] at ho; cases ho
          exact ⟨v, rfl, hd⟩
      · rw [List.getElem?_append_right (by simpa using hi), List.getElem?_replicate] at hxx
        split at hxx
        · cases hxx; trivial
        · cases hxx
  · cases i with
    | zero =>
      cases j with
      | zero => exact fun _ _ => rfl
      | succ j => exact absurd (by simpa using h2) (noT j u gs)
    | succ i => exact absurd (by simpa using h1) (noT i t fs)
/-- .. of a def whose first argument is a list that it changes -/
theorem fnI_ok {x qual : Str} {sd : Stmt} {f : Addr} {fd : FuncData} {N ps : List Str} {k : Nat} {b : Fs} {n : Nat} (F : Fun K x qual sd f fd) (S : FnScope N ps (defScope sd)) (hn : ps.length = n)
    (hbody : ∀ (cd : Value) (A : Around) (outer : List Env) (st : Shared) (H : Hp), Room k (BodyCx P w K mg base N qual (defScope sd) f cd A outer st H).A → (BodyCx P w K mg base N qual (defScope sd) f cd A outer st H).A.guards = some [] →
      DSs (BodyCx P w K mg base N qual (defScope sd) f cd A outer st H) (defBody sd) b) : FnG P w K mg base (k + 1) f fd ps (spI K n (fnI b N.length)) := by
  refine fnG_of F S (fun vs H Q h => by rw [hn]; exact spI_len vs H Q h) fun cd A outer st H vs Q room gd h => ⟨_, hbody cd A outer st H room gd, ?_⟩
  obtain ⟨F0, a, xs, es, ws, ds, y, es', rfl, fh, fa, ha, hx, hp, hl, e, k⟩ := h
  obtain ⟨gE, e, e0⟩ := fnI_inv e a
  unfold runG at e
  have hlen : (Sl.own (some a) es :: ds.map Sl.v).length = ds.length + 1 := by simp
  rw [hlen] at e
  have r0 := startRepI (N := N) fh fa ha hx hp
  have one : ∀ c, OwnAt (.own (some a) es :: (ds.map .v ++ List.replicate (N.length - (ds.length + 1)) .no)) (L2.start N (.ref a :: ws)) c → c = a := fun c ⟨i, t, fs, h1, h2⟩ => by
    cases i with
    | zero => cases h2; rfl
    | succ i =>
      exfalso
      have h1 : (ds.map Sl.v ++ List.replicate (N.length - (ds.length + 1)) Sl.no)[i]? = some (.own t fs) := by simpa using h1
      by_cases hi : i < ds.length
      · rw [List.getElem?_append_left (by simpa using hi), List.getElem?_map] at h1
        cases q : ds[i]? with
        | none => rw [q] at h1; cases h1
        | some d => rw [q] at h1; cases h1
      · rw [List.getElem?_append_right (by simpa using hi), List.getElem?_replicate] at h1
        split at h1 <;> cases h1
  -- the list behind the body
  have fin : ∀ {F' : Hp} {s' : Sg} {H' : Hp} {g' : G}, g' = gE → Tr K F0 (.own (some a) es :: (ds.map .v ++ List.replicate (N.length - (ds.length + 1)) .no)) (L2.start N (.ref a :: ws)) H F' g' s' H' →
      OwnAt g' s' a ∧ ∃ xs', F' a = none ∧ H' a = some (.lst xs') ∧ DpAll K F' xs' es' := fun {F' s' H' g'} eg t => by
    subst eg
    obtain ⟨o, ho, c, xs', eo, fc, hc, hp', ht⟩ := t.rep.get e0
    have : a = c := ht a rfl
    subst this
    subst eo
    exact ⟨⟨0, _, _, e0, ho⟩, xs', fc, hc, hp'⟩
  have hb : b (.own (some a) es :: (ds.map .v ++ List.replicate (N.length - (ds.length + 1)) .no)) = b ((.own (some a) es :: ds.map .v) ++ List.replicate (N.length - (ds.length + 1)) .no) := rfl
  cases q : b ((.own (some a) es :: ds.map .v) ++ List.replicate (N.length - (ds.length + 1)) .no) with
  | none => rw [q] at e; cases e
  | some o =>
    rw [q] at e
    refine ⟨F0, _, o, r0, hb.trans q, ?_⟩
    cases o with
    | bk g' => cases e
    | ct g' => cases e
    | nx g' =>
      cases e
      intro F' s' H' t
      obtain ⟨_, xs', f1, f2, f3⟩ := fin rfl t
      exact k .non F' H' xs' ⟨_, rfl, .non⟩ (fun z => nomatch z) (fun _ _ z => nomatch z) t.rep.fh f1 f2 f3 (t.stp.weak one)
    | ret z g' =>
      cases e
      intro v F' s' H' hv hz ho t
      obtain ⟨f0, xs', f1, f2, f3⟩ := fin rfl t
      refine k v F' H' xs' hv hz (fun tg es ez => ?_) t.rep.fh f1 f2 f3 (t.stp.weak one)
      obtain ⟨e1, c, e2, e3, e4⟩ := ho tg es ez
      refine ⟨e1, c, e2, e3.resolve_right fun w => ?_⟩
      rw [one c w] at e4
      exact e4 f0
end

/-! ### calls by data -/
section
variable {X : Cx} {k : Nat} {f : Addr} {fd : FuncData} {ps : List Str} {n : Nat}
def eCall (m : List D → Option Sl) (fs : Fa) : Fv := fun g => (fs g).bind fun p => (m p.1).map fun x => (x, p.2)
theorem dv_call {x : Str} {p pos : Pos} {a : Expr} {es : List Expr} {m : List D → Option Sl} {fs : Fa} (F : FnG X.prog X.w X.K X.mg X.base k f fd ps (spP X.K n m)) (room : Room k X.A) (gd : X.A.guards = some []) (hg : Gl X x) (hm : X.mg x = some (.ref f)) (hk : PySem.W.keepIn X.K (.ref f) = true) (hb : Binds X.K fd ps [])
    (ha : DA X (a :: es) fs) (hl : LenA fs n) (hdb : (x == ("__debug__" : Str)) = false := by decide) (he : starEach (a :: es) X.env = (false, eval a X.env) :: starEach es X.env := by rfl) (hpl : (backTo pos (starEach es X.env)).any (·.1) = false := by rfl) :
    DV X (.Call (.Name x p) (a :: es) [] pos) (eCall m fs) := peMono (pe_callG F room gd hg hm hk hb ha hdb he hpl) fun s H Q ⟨Fz, g, y, g', r, e, k⟩ => by
  unfold eCall at e
  cases q : fs g with
  | none => rw [q] at e; cases e
  | some p =>
    rw [q] at e
    have e : (m p.1).map _ = some (y, g') := e
    cases q2 : m p.1 with
    | none => rw [q2] at e; cases e
    | some z =>
      rw [q2] at e; cases e
      refine ⟨Fz, g, p.1, p.2, r, q, fun vs F1 H1 p1 r1 t1 m1 => ⟨F1, p.1, _, r1.fh, p1, hl _ _ _ q, q2, fun v F2 H2 hv hz ho fh t2 => ?_⟩⟩
      refine k v F2 H2 hv (fun tg es ez => ?_) (r1.stepN t2 fh) (t1.andN t2) m1
      obtain ⟨e1, b, e2, e3⟩ := ho tg es ez
      refine ⟨e1, b, e2, ?_⟩
      cases w : H b with
      | none => rfl
      | some o => exact absurd e3 (t1.dom b (by rw [w]; simp))
/-- the first argument the list in slot i, which is changed -/
def eCallI (m : List D → List D → Option (Sl × List D)) (i : Nat) (fs : Fa) : Fv := fun g => (ownD g[i]?).bind fun _ => (fs g).bind fun p => match p.2[i]? with
  | some (.own t es) => (m es p.1).map fun r => (r.1, p.2.set i (.own t r.2))
  | _ => none
theorem turnI {K : PySem.W.Frag} {F H F' H' : Hp} {g : G} {s : Sg} (r : Rep K F g s H) {i : Nat} {t : Option Addr} {es es' : List D} {a : Addr} {ys : List V} (hg : g[i]? = some (.own t es)) (hs : s[i]? = some (some (.ref a))) (st : Stp (fun b => b = a) F H F' H') (fh : Same F' H') (fa : F' a = none) (ha : H' a = some (.lst ys)) (hp : DpAll K F' ys es') :
    Rep K F' (g.set i (.own t es')) s H' ∧ Stp (OwnAt g s) F H F' H' := by
  obtain ⟨o, ho, a', xs, eo, fa0, ha0, hp0, ht⟩ := r.get hg
  rw [hs] at ho; cases ho; cases eo
  have hi : i < g.length := (List.getElem?_eq_some_iff.mp hg).1
  have r0 : Rep K F (g.set i .no) s H := by
    have := r.put i .no (some (.ref a)) trivial (fun _ _ _ e => nomatch e)
    rwa [setSelf hs] at this
  have n0 : ¬ OwnAt (g.set i .no) s a := fun ⟨j, tg, fs, e1, e2⟩ => by
    by_cases z : i = j
    · subst z; rw [List.getElem?_set_self hi] at e1; cases e1
    · rw [List.getElem?_set_ne z] at e1
      exact z (r.uq i j a t tg es fs hg e1 hs e2)
  have r1 : Rep K F' (g.set i .no) s H' := r0.step st (fun b hb z => n0 (by rw [← z]; exact hb)) fh
  refine ⟨?_, st.weak fun b z => by rw [z]; exact ⟨i, t, es, hg, hs⟩⟩
  have := r1.put i (.own t es') (some (.ref a)) ⟨a, ys, rfl, fa, ha, hp, ht⟩ (fun _ _ b _ e => by cases e; exact n0)
  rwa [setSelf hs, List.set_set] at this
theorem dv_callI (i : Nat) {x y : Str} {p py pos : Pos} {es : List Expr} {m : List D → List D → Option (Sl × List D)} {fs : Fa} (F : FnG X.prog X.w X.K X.mg X.base k f fd ps (spI X.K n m)) (room : Room k X.A) (gd : X.A.guards = some []) (hg : Gl X x) (hm : X.mg x = some (.ref f)) (hk : PySem.W.keepIn X.K (.ref f) = true) (hb : Binds X.K fd ps [])
    (ha : DA X es fs) {n' : Nat} (hl : LenA fs n') (hn : n' + 1 = n := by rfl) (hN : X.N[i]? = some y := by rfl) (hv : Vis X.env.scope y := by first | exact Or.inl rfl | exact Or.inr (Or.inl rfl) | exact Or.inr (Or.inr rfl)) (hd : (y == ("__debug__" : Str)) = false := by decide) (hcd : (y == ("__classdict__" : Str)) = false := by decide)
    (hdb : (x == ("__debug__" : Str)) = false := by decide) (he : starEach (.Name y py :: es) X.env = (false, eval (.Name y py) X.env) :: starEach es X.env := by rfl) (hpl : (backTo pos (starEach es X.env)).any (·.1) = false := by rfl) :
    DV X (.Call (.Name x p) (.Name y py :: es) [] pos) (eCallI m i fs) := peMono (pe_callG F room gd hg hm hk hb (pa_cons (pe_var hN hv hd hcd) ha he) hdb he hpl) fun s H Q ⟨Fz, g, y, g', r, e, k⟩ => by
  unfold eCallI at e
  cases q0 : ownD g[i]? with
  | none => rw [q0] at e; cases e
  | some d0 =>
    rw [q0] at e
    have e : (fs g).bind _ = some (y, g') := e
    cases q : fs g with
    | none => rw [q] at e; cases e
    | some p =>
      obtain ⟨ds, g1⟩ := p
      rw [q] at e
      simp only [Option.bind_some] at e
      split at e
      · rename_i t ee hge
        cases q2 : m ee ds with
        | none => rw [q2] at e; cases e
        | some z =>
          obtain ⟨z, ee'⟩ := z
          rw [q2] at e; cases e
          have hw : ∃ a, s[i]? = some (some (V.ref a)) := by
            unfold ownD at q0
            split at q0
            · rename_i t0 ds0 hx0
              obtain ⟨o, ho, a, xs, ea, _⟩ := r.get hx0
              subst ea
              exact ⟨a, ho⟩
            · cases q0
          obtain ⟨a, ha⟩ := hw
          refine ⟨.ref a, ha, Fz, g, ds, g1, r, q, fun vs F1 H1 p1 r1 t1 m1 => ?_⟩
          obtain ⟨o, ho, a', xs, eo, fa, hal, hps, ht⟩ := r1.get hge
          rw [ha] at ho; cases ho; cases eo
          refine ⟨F1, a, xs, ee, vs, ds, z, ee', rfl, r1.fh, fa, hal, hps, p1, by rw [hl _ _ _ q]; exact hn, q2, fun v F2 H2 xs' hv hz hown fh f1 f2 f3 t2 => ?_⟩
          obtain ⟨r2, t2'⟩ := turnI r1 hge ha t2 fh f1 f2 f3
          refine k v F2 H2 hv (fun tg fs' ez => ?_) r2 (t1.two m1 t2') (m1.trans (moSet hge))
          obtain ⟨e1, b, e2, e3⟩ := hown tg fs' ez
          refine ⟨e1, b, e2, ?_⟩
          cases w : H b with
          | none => rfl
          | some o => exact absurd e3 (t1.dom b (by rw [w]; simp))
      · cases e
end
end Dl
set_option Elab.async false
set_option linter.all false
set_option maxRecDepth 100000
namespace Dl
open PySem PySem.Spec PyProof.Rows L2

/-- the law's def is called, nothing tracked but the script -/
theorem lawG {P : Program} {w : World} {K : PySem.W.Frag} {mg mb : Str → Option Value} {k : Nat} {fa a : Addr} {fd : FuncData} {x : Str} {m : List D → Option Sl} {st : Shared} {vs : List Value} {ns : List Int}
    (inK : K.In st.heap) (nsG : st.heap.Ns mainGlobals mg) (nsB : st.heap.Ns builtinsNs mb) (boot : ∀ x : Str, x ≠ "__name__" → mb x = bootBuiltins x) (lim : st.heap.NoLimit) (gens : st.gens = #[])
    (hob : st.heap.get? a = some { cls := .type "list", data := .seq vs.toArray }) (hns : IntsAre vs ns) (hlen : ns.length ≤ sizeLine) (room : Room k callerA)
    (G : ∀ base : Heap, K.In base → base.Ns mainGlobals mg → FnG P w K mg base k fa fd [x] (spP K 1 m)) (bnd : ∀ (s : Shared) (u : Value), BindsTo s fd ⟨[u], []⟩ [(x, u)])
    (good : m [.list (ns.map .int)] = some (.v (.bool true))) :
    codeAny (model P w) callerA (.call (.ref fa) ⟨[.ref a], []⟩) (fun r s' => r = .ok (.ret (.bool true)) ∧ OldK st.heap s'.heap ∧ s'.os = st.os ∧ AllBare s'.gens) st := by
  have vals := vals_ints hns
  have leq := hns.length
  have dps : ∀ H : Hp, DpAll K H (ns.map V.int) (ns.map PyData.int) := fun H => by
    clear hlen leq good vals hns
    induction ns with
    | nil => exact .nil
    | cons n r ih => exact .cons (.int n) ih
  have main : ∀ H : Hp, (∀ b u, H b = some u → b = a ∧ ∃ o ys, u = .frz o (.lst ys)) → SqL K H a (ns.map V.int) → HOk P w H st.heap → (H a ≠ none → K.lookup a = none) →
      codeAny (model P w) callerA (.call (.ref fa) ⟨[.ref a], []⟩) (fun r s' => r = .ok (.ret (.bool true)) ∧ OldK st.heap s'.heap ∧ s'.os = st.os ∧ AllBare s'.gens) st := by
    intro H only hS hok apart
    have hid : ∀ {b : Addr} {o : Obj}, st.heap.get? b = some o → (H b ≠ none → False) → (hidT st.heap H).get? b = some o := fun {b o} e n => hidT_get e (by
      cases q : H b with
      | none => rfl
      | some u => exact (n (by rw [q]; simp)).elim)
    have noDict : ∀ {b : Addr} {o : Obj} {es : Array DictEntry} {ep : Nat}, st.heap.get? b = some o → o.data = .dict es ep → H b ≠ none → False := fun {b o es ep} e d n => by
      cases q : H b with
      | none => exact n q
      | some u =>
        have eb := (only b u q).1
        subst eb
        rw [hob] at e
        cases e
        exact Data.noConfusion (show Data.seq vs.toArray _ = Data.dict es ep from d)
    have nsH : ∀ {b : Addr} {mm : Str → Option Value}, st.heap.Ns b mm → (hidT st.heap H).Ns b mm := fun {b mm} z => by
      obtain ⟨o, es, ep, e, d, q⟩ := z
      exact ⟨o, es, ep, hid e (noDict e d), d, q⟩
    have kH : K.In (hidT st.heap H) := fun b o e => hid (inK b o e) fun n => by
      cases q : H b with
      | none => exact n q
      | some u =>
        have eb := (only b u q).1
        subst eb
        rw [apart n] at e
        cases e
    obtain ⟨mc, l1, l2⟩ := lim
    have md : Mod K mg (hidT st.heap H) := ⟨kH, nsH nsG, ⟨mb, nsH nsB, boot⟩, ⟨mc, nsH l1, l2⟩⟩
    have env0 : Env0 P w K mg (hidT st.heap H) callerA [] st H := ⟨rfl, md, fun b o e => of_hidT e, Nat.le_of_eq (hidT_size _ _), trivial, (fun b hb => by cases hb), hok, .of_eq gens⟩
    have want : spP K 1 m [.ref a] H (fun v H' => v = .bl true) := ⟨H, [.list (ns.map PyData.int)], _, .refl _, .cons (.lst hS (dps H)) .nil, rfl, good, fun v F' H' hv _ _ _ _ => by
      obtain ⟨y, ey, hy⟩ := hv
      cases ey
      cases hy
      rfl⟩
    refine codeAny_mono ((G _ kH (nsH nsG)).run callerA [] st H ⟨[.ref a], []⟩ [.ref a] [.ref a] _ room rfl env0 (bnd st (.ref a)) (.cons rfl .nil) want) fun r s' hr => ?_
    cases r with
    | error e => exact (show False from hr).elim
    | ok fl =>
      cases fl with
      | next => exact (show False from hr).elim
      | brk => exact (show False from hr).elim
      | cont => exact (show False from hr).elim
      | ret u =>
        obtain ⟨v, H', e1, e2, un, hok', rv, hv⟩ := hr
        have hv : v = .bl true := hv
        subst hv
        have hu : u = Value.bool true := rv
        subst hu
        refine ⟨rfl, OldK.of_keep fun b o e => ?_, e1, e2⟩
        cases q : H b with
        | none => exact un.keep b o e q (by intro z; cases z) (by simp)
        | some z =>
          obtain ⟨_, ob, ys, rfl⟩ := only b z q
          obtain ⟨k1, _⟩ := hok b _ q
          obtain ⟨k2, _⟩ := hok' b _ (un.frzs b ob _ q)
          rw [e] at k1
          cases k1
          exact k2
  cases hk : K.lookup a with
  | some o =>
    have e := inK a o hk
    rw [hob] at e
    cases e
    exact main (fun _ => none) (fun b u z => nomatch z) (.inr ⟨_, vs.toArray, _, hk, rfl, rfl, rfl, by rw [List.size_toArray, leq]; exact hlen, by simpa using vals⟩) (fun b u z => nomatch z) fun z => absurd rfl z
  | none =>
    refine main (fun b => if b = a then some (.frz { cls := .type "list", data := .seq vs.toArray } (.lst (ns.map V.int))) else none) (fun b u z => ?_) (.inl (.inr ⟨_, if_pos rfl⟩)) (fun b u z => ?_) fun _ => hk
    · by_cases hb : b = a
      · have z2 := (if_pos hb).symm.trans z
        cases z2; exact ⟨hb, _, _, rfl⟩
      · have z2 := (if_neg hb).symm.trans z
        cases z2
    · by_cases hb : b = a
      · have z2 := (if_pos hb).symm.trans z
        cases z2
        subst hb
        exact ⟨hob, by rw [List.length_map]; exact hlen, vs, _, vals, hob⟩
      · have z2 := (if_neg hb).symm.trans z
        cases z2
/-- the goal that k_head leaves -/
theorem walkG {l : PySem.W.OpenLaw} {n k : Nat} {q : Program} {loose : List Str} {XP : (Str → Option Value) → Heap → Prop} {YP : World → Heap → Prop} {d : DefRec} {K : Params → PySem.W.Frag} {x : Str} {m : List D → Option Sl}
    (hn : l.most = some n) (hn2 : n ≤ sizeLine) (hdf : d.params.defaults = []) (room : Room k callerA) (hY : ∀ (w : World) (h : Heap), YP w h → (K w.params).In h)
    (G : ∀ (w : World) (mg : Str → Option Value) (fa : Addr) (h : Heap), (K w.params).In h → h.Ns mainGlobals mg → mg d.name = some (.ref fa) →
      ∃ fd : FuncData, (∀ (s : Shared) (u : Value), BindsTo s fd ⟨[u], []⟩ [(x, u)]) ∧ ∀ base : Heap, (K w.params).In base → base.Ns mainGlobals mg → FnG l.prog w (K w.params) mg base k fa fd [x] (spP (K w.params) 1 m))
    (good : ∀ ns : List Int, ns.length ≤ n → m [.list (ns.map .int)] = some (.v (.bool true))) :
    PySem.W.WalkO q loose XP YP l.row.toRowW d [] (fun f vs => PySem.call f vs) := by
  refine Att.attach_call hn hdf fun w s0 s1 mg mb fa o pm cd doc a vs ns TT Y ho hd hcd hmg hob hns hlen hgens => ?_
  have inK := hY w _ Y
  obtain ⟨fd, bnd, hG⟩ := G w mg fa _ inK TT.T.g hmg
  exact lawG inK TT.T.g TT.T.b TT.T.builtins TT.T.nolimit hgens hob hns (Nat.le_trans hlen hn2) room hG bnd (good ns hlen)
end Dl
set_option Elab.async false
set_option linter.all false
set_option maxRecDepth 100000
namespace Dl
open PySem PySem.Spec PyProof.Rows L2

/-! ### a def as the head tells it -/
structure Df (K : PySem.W.Frag) (mg : Str → Option Value) (x : Str) (sd : Stmt) (ps : List Str) : Type where
  f : Addr
  fd : FuncData
  F : Fun K x x sd f fd
  g : mg x = some (.ref f)
  b : L2.Binds K fd ps []
  bA : ∀ (s : Shared) (us : List Value), us.length = ps.length → BindsTo s fd ⟨us, []⟩ (ps.zip us)
theorem fun_of {K : PySem.W.Frag} {x qual : Str} {st : Stmt} {f : Addr} {fd : FuncData} (F : FunD K x qual (defArgs st) (defBody st) (defScope st) [] [] f fd) : Fun K x qual st f fd := by
  obtain ⟨oc, od, dV, kV, doc, pm, an, cdv, ct, osl, e, l, c, hd, _⟩ := F.ex
  rcases hd with ⟨_, e2⟩ | ⟨e2, _⟩
  · subst e2
    exact ⟨⟨oc, od, kV, doc, pm, an, cdv, ct, osl, e, l, c⟩, F.kp⟩
  · exact absurd rfl e2
def Df.mk' {K : PySem.W.Frag} {mg : Str → Option Value} {x : Str} {sd : Stmt} {ps : List Str} {f : Addr} (fd : {fd : FuncData // FunD K x x (defArgs sd) (defBody sd) (defScope sd) [] [] f fd}) (g : mg x = some (.ref f))
    (h : ∀ (kV doc pm : Value) (an : Option Addr) (cdv ct : Value) (us : List Value), us.length = ps.length → bindArgs (PySem.W.fnOf x x (defArgs sd) (defBody sd) (defScope sd) .none kV doc pm an cdv ct) ⟨us, []⟩ = pure (ps.zip us)) : Df K mg x sd ps :=
  ⟨f, fd.1, fun_of fd.2, g, fd.2.bindsN h, fun s us e => fd.2.bindsA h s us e⟩

theorem hu64 {k : Nat} {A : Around} (r : Room k A) : A.units + 64 < cLine := r.units
theorem hu65 {k : Nat} {A : Around} (r : Room k A) : A.units + 65 < cLine := by have := r.un; omega

variable {X : Cx}
/-! ### + of ints, tuples, texts -/
def addA : D → D → Option D := fun a b => (addD a b).or ((catTD a b).or (catSD a b))
theorem addA_int (i j : Int) : addA (.int i) (.int j) = some (.int (i + j)) := rfl
theorem addA_tup (xs ys : List D) : addA (.tuple xs) (.tuple ys) = catTD (.tuple xs) (.tuple ys) := by
  unfold addA addD catSD
  simp
theorem de_addA {a b : Expr} {pos : Pos} {fa fb : Fe} (ha : DE X a fa) (hb : DE X b fb) : DE X (.BinOp a .Add b pos) (eBin addA fa fb) :=
  de_op (op_add.or (op_catA.or op_add_str)) (ok_add.or (ok_catT.or ok_catS)) ha hb

/-! ### slices of a list or a tuple -/
def eSlU (fa : Fe) (fl fh : Fo) : Fe := fun g => (fa g).bind fun p => (fl p.2).bind fun l => (fh l.2).bind fun h => match p.1 with
  | .tuple ds => some (.tuple (cutL ds l.1 h.1), h.2)
  | .list ds => some (.list (cutL ds l.1 h.1), h.2)
  | _ => none
/-- a new list, frozen at once -/
theorem newLstF {K : PySem.W.Frag} {F H : Hp} {vs : List V} {ds : List D} {Q : VK} (fh : Same F H) (hp : DpAll K F vs ds) (k : ∀ v F' H', Dp K F' v (.list ds) → Same F' H' → Stp Non F H F' H' → Q v H') : ∀ p, H p = none → Q (.ref p) (upd H p (.lst vs)) := fun p np =>
  k (.ref p) (upd F p (.lst vs)) _ (.lst (SqL.of upd_same) (dpUpd hp (nF fh np))) (sameLaid fh np) (Stp.laid np fh)
theorem de_sl {a : Expr} {lo hi : Option Expr} {p2 pos : Pos} {fa : Fe} {fl fh : Fo} (ha : DE X a fa) (hl : DO X lo fl) (hu : DO X hi fh) : DE X (.Subscript a (.Slice lo hi none p2) pos) (eSlU fa fl fh) := peMono (pe_slice (SlR.or sl_tupA sl_list) ha hl hu) fun s H Q ⟨F, g, d, g', rp, e, k⟩ => by
  unfold eSlU at e
  cases q : fa g with
  | none => rw [q] at e; cases e
  | some p =>
    rw [q] at e
    have e : (fl p.2).bind _ = some (d, g') := e
    cases q2 : fl p.2 with
    | none => rw [q2] at e; cases e
    | some l =>
      rw [q2] at e
      have e : (fh l.2).bind _ = some (d, g') := e
      cases q3 : fh l.2 with
      | none => rw [q3] at e; cases e
      | some h =>
        rw [q3] at e
        obtain ⟨d1, g1⟩ := p
        obtain ⟨l, g2⟩ := l
        obtain ⟨h, g3⟩ := h
        cases d1 with
        | tuple ds =>
          cases e
          refine ⟨F, g, _, g1, rp, q, fun v F1 H1 p1 r1 t1 m1 => ⟨F1, g1, l, g2, r1, q2, fun F2 H2 r2 t2 m2 => ⟨F2, g2, h, g3, r2, q3, fun F3 H3 r3 t3 m3 => .inl ?_⟩⟩⟩
          have p3 := dpMono (t2.fs.trans t3.fs) _ _ p1
          have tt := (t1.two m1 t2).two (m1.trans m2) t3
          have mm := (m1.trans m2).trans m3
          cases p3 with
          | tup hs hp =>
            refine ⟨_, _, rfl, Same.tupS r3.fh hs, fun hw => ?_, fun _ => newTup r3.fh (dpCut hp) fun v F' H' hv fh st => k v F' H' hv (r3.stepN st fh) (tt.andN st) mm⟩
            rw [dpLen hp] at hw
            exact k _ F3 H3 (.tup hs (by rw [cut_whole hw.1 hw.2]; exact hp)) r3 tt mm
        | list ds =>
          cases e
          refine ⟨F, g, _, g1, rp, q, fun v F1 H1 p1 r1 t1 m1 => ⟨F1, g1, l, g2, r1, q2, fun F2 H2 r2 t2 m2 => ⟨F2, g2, h, g3, r2, q3, fun F3 H3 r3 t3 m3 => .inr ?_⟩⟩⟩
          have p3 := dpMono (t2.fs.trans t3.fs) _ _ p1
          have tt := (t1.two m1 t2).two (m1.trans m2) t3
          have mm := (m1.trans m2).trans m3
          cases p3 with
          | lst hs hp => exact ⟨_, _, rfl, r3.fh.seq hs, newLstF r3.fh (dpCut hp) fun v F' H' hv fh st => k v F' H' hv (r3.stepN st fh) (tt.andN st) mm⟩
        | _ => cases e

/-! ### in, not in -/
def rInU (K : PySem.W.Frag) (neg : Bool) : R2 := fun x y H Q => ∃ d ds, Dp K H x d ∧ (Dp K H y (.list ds) ∨ Dp K H y (.tuple ds)) ∧ SeqAt.shaped d = true ∧ SeqAt.shaped (.list ds) = true ∧ Q (.bl (neg ^^ (ds.any fun z => PyData.eqv z d))) H
theorem op_inU (hu : X.A.units + 65 < cLine) : OpR X (compareOp .In) (rInU X.K false) := by
  intro pins s σ H x y v u Q I rx ry h
  obtain ⟨d, ds, hd, he, sd, se, q⟩ := h
  rw [Bool.false_xor] at q
  obtain ⟨as, r1⟩ := Dp.reads I d x v hd rx
  rcases he with he | he
  · obtain ⟨bs, r2⟩ := Dp.reads I (.list ds) y u he ry
    exact SeqAt.in_list_reads r2 r1 (SeqAt.canLay_of_shaped se) (SeqAt.canLay_of_shaped sd) (room_in_shaped sd hu) ⟨.bl _, H, I, rfl, q⟩
  · obtain ⟨bs, r2⟩ := Dp.reads I (.tuple ds) y u he ry
    exact SeqAt.in_tuple_reads r2 r1 (SeqAt.canLay_of_shaped se) (SeqAt.canLay_of_shaped sd) (room_in_shaped sd hu) ⟨.bl _, H, I, rfl, q⟩
theorem op_notInU (hu : X.A.units + 65 < cLine) : OpR X (compareOp .NotIn) (rInU X.K true) := by
  intro pins s σ H x y v u Q I rx ry h
  obtain ⟨d, ds, hd, he, sd, se, q⟩ := h
  rw [Bool.true_xor] at q
  obtain ⟨as, r1⟩ := Dp.reads I d x v hd rx
  rcases he with he | he
  · obtain ⟨bs, r2⟩ := Dp.reads I (.list ds) y u he ry
    exact SeqAt.notIn_list_reads r2 r1 (SeqAt.canLay_of_shaped se) (SeqAt.canLay_of_shaped sd) (room_in_shaped sd hu) ⟨.bl _, H, I, rfl, q⟩
  · obtain ⟨bs, r2⟩ := Dp.reads I (.tuple ds) y u he ry
    exact SeqAt.notIn_tuple_reads r2 r1 (SeqAt.canLay_of_shaped se) (SeqAt.canLay_of_shaped sd) (room_in_shaped sd hu) ⟨.bl _, H, I, rfl, q⟩
def inGD (neg : Bool) : D → D → Option D
  | d, .list ds => if SeqAt.shaped d = true ∧ SeqAt.shaped (.list ds) = true then some (.bool (neg ^^ (ds.any fun z => PyData.eqv z d))) else none
  | d, .tuple ds => if SeqAt.shaped d = true ∧ SeqAt.shaped (.list ds) = true then some (.bool (neg ^^ (ds.any fun z => PyData.eqv z d))) else none
  | _, _ => none
abbrev inD : D → D → Option D := inGD false
abbrev notinD : D → D → Option D := inGD true
theorem ok_inG {neg : Bool} : BinOk X.K (rInU X.K neg) (inGD neg) := fun x y d1 d2 d F H Q fh p1 p2 e k => by
  unfold inGD at e
  split at e
  · split at e
    · rename_i hc
      cases e
      exact ⟨_, _, dpMono fh _ _ p1, .inl (dpMono fh _ _ p2), hc.1, hc.2, fin0 fh (.bl _) k⟩
    · cases e
  · split at e
    · rename_i hc
      cases e
      exact ⟨_, _, dpMono fh _ _ p1, .inr (dpMono fh _ _ p2), hc.1, hc.2, fin0 fh (.bl _) k⟩
    · cases e
  · cases e
theorem isb_inG {neg : Bool} : IsBo (inGD neg) := fun d e c h => by
  unfold inGD at h
  split at h
  · split at h
    · cases h; exact ⟨_, rfl⟩
    · cases h
  · split at h
    · cases h; exact ⟨_, rfl⟩
    · cases h
  · cases h
section
variable {a b : Expr} {pos : Pos} {fa fb : Fe}
theorem de_in (hu : X.A.units + 65 < cLine) (ha : DE X a fa) (hb : DE X b fb) (hm : behindInMarks .In b = false := by rfl) : DE X (.Compare a [.In] [b] pos) (eBin inD fa fb) := de_cmp (op_inU hu) ok_inG hm ha hb
theorem de_notin (hu : X.A.units + 65 < cLine) (ha : DE X a fa) (hb : DE X b fb) (hm : behindInMarks .NotIn b = false := by rfl) : DE X (.Compare a [.NotIn] [b] pos) (eBin notinD fa fb) := de_cmp (op_notInU hu) ok_inG hm ha hb
theorem dt_in (hu : X.A.units + 65 < cLine) (ha : DE X a fa) (hb : DE X b fb) (hm : behindInMarks .In b = false := by rfl) : DT X (.Compare a [.In] [b] pos) (tOf (eBin inD fa fb)) := dt_cmp (op_inU hu) ok_inG isb_inG hm ha hb
theorem dt_notin (hu : X.A.units + 65 < cLine) (ha : DE X a fa) (hb : DE X b fb) (hm : behindInMarks .NotIn b = false := by rfl) : DT X (.Compare a [.NotIn] [b] pos) (tOf (eBin notinD fa fb)) := dt_cmp (op_notInU hu) ok_inG isb_inG hm ha hb
end

/-! ### l.append(e) -/
theorem de_append (i : Nat) {x : Str} {a : Expr} {f : Fv} {pos p1 p2 : Pos} (he : DV X a f) (hN : X.N[i]? = some x := by rfl) (hv : Vis X.env.scope x := by first | exact Or.inl rfl | exact Or.inr (Or.inl rfl) | exact Or.inr (Or.inr rfl)) (hd : (x == ("__debug__" : Str)) = false := by decide)
    (hcd : (x == ("__classdict__" : Str)) = false := by decide) (hbase : attributeBase (.Name x p1) "append" X.env (eval (.Name x p1) X.env) = eval (.Name x p1) X.env := by rfl)
    (hfew : ((backTo pos (starEach [a] X.env)).all (fun x => !x.1) && (backToKw pos (keywordEach [] X.env)).all (fun x => x.1.isSome)
      && decide ([a].length + ([] : List Keyword).length + (if ([] : List Keyword).isEmpty then 0 else 1) < 30)) = true := by rfl)
    (hline : (p2.endLine == pos.line) = true := by rfl) (hs : starEach [a] X.env = (false, eval a X.env) :: starEach [] X.env := by rfl) (hplain : (backTo pos (starEach [] X.env)).any (·.1) = false := by rfl) :
    DE X (.Call (.Attribute (.Name x p1) "append" p2) [a] [] pos) (eApp i f) :=
  de_app i he hN hv hd hcd (pe_bm PySem.F.plainAttrs_list PySem.F.slot_list_append PySem.F.type_list_append mt_append (pe_var hN hv hd hcd) (pa_cons (de_dv he) pa_nil hs) hbase hfew hline hs hplain)

/-! ### a, b = e1, e2 where one is a cell -/
theorem ds_parC (i j : Nat) {x y : Str} {a b : Expr} {f h : Fv} {pos px py pt : Pos} {kt k2 pt2} (hc : X.calm = true) (hN : X.N.Nodup) (ha : DV X a f) (hb : DV X b h) (hi : X.N[i]? = some x := by rfl) (hj : X.N[j]? = some y := by rfl)
    (hx : Loc X.env.scope x := by first | exact Or.inl rfl | exact Or.inr rfl) (hy : Loc X.env.scope y := by first | exact Or.inl rfl | exact Or.inr rfl)
    (hfx : X.fn x = true ∨ X.env.scope.names.lookup x = some .local := by first | exact .inl rfl | exact .inr rfl | assumption) (hfy : X.fn y = true ∨ X.env.scope.names.lookup y = some .local := by first | exact .inl rfl | exact .inr rfl | assumption)
    (hs : swapsWithSole [.Tuple [.Name x px, .Name y py] kt pt] (.Tuple [a, b] k2 pt2) pos.line X.env = pure false := by rfl)
    (hw : swappedStores [.Tuple [.Name x px, .Name y py] kt pt] (.Tuple [a, b] k2 pt2) X.env = pure none := by rfl)
    (hg : (assignEach [.Tuple [.Name x px, .Name y py] kt pt] X.env).map (·.2) = [assign (.Tuple [.Name x px, .Name y py] kt pt) X.env] := by rfl)
    (hn : (assignEach [.Name x px, .Name y py] X.env).length = 2 := by rfl) (hst : (assignEach [.Name x px, .Name y py] X.env).findIdx? (·.1) = none := by rfl)
    (hg1 : (assignEach [.Name x px, .Name y py] X.env).map (·.2) = assign (.Name x px) X.env :: (assignEach [.Name y py] X.env).map (·.2) := by rfl) (hg2 : (assignEach [.Name y py] X.env).map (·.2) = assign (.Name y py) X.env :: (assignEach [] X.env).map (·.2) := by rfl)
    (h1 : starEach [a, b] X.env = (false, eval a X.env) :: starEach [b] X.env := by rfl) (h2 : starEach [b] X.env = (false, eval b X.env) :: starEach [] X.env := by rfl) :
    DS X (.Assign [.Tuple [.Name x px, .Name y py] kt pt] (.Tuple [a, b] k2 pt2) pos) (sPar i j f h) := psMono (ps_asg (pe_tup (pa_cons ha (pa_cons hb pa_nil h2) h1)) (pg_tup hc (pgs_cons (pg_name hN hi hx hfx) (pgs_cons (pg_name hN hj hy hfy) pgs_nil hg2) hg1) hn hst) hs hw hg) fun D s H ⟨F, g, o, r, e, k⟩ => by
  unfold sPar at e
  cases q : f g with
  | none => rw [q] at e; cases e
  | some p =>
    obtain ⟨x1, g1⟩ := p
    rw [q] at e
    have e : (h g1).bind _ = some o := e
    cases q2 : h g1 with
    | none => rw [q2] at e; cases e
    | some p2 =>
      obtain ⟨x2, g2⟩ := p2
      rw [q2] at e
      have e : parOut i j x1 x2 g2 = some o := e
      have hx1 : x1 ≠ .no := fun z => by subst z; cases e
      have hx2 : x2 ≠ .no := fun z => by subst z; cases x1 <;> cases e
      have eo : o = Out.nx ((g2.set i x1).set j x2) := by
        cases x1 <;> cases x2 <;> first | (cases e; rfl) | exact absurd rfl hx1 | exact absurd rfl hx2
      subst eo
      refine ⟨F, g, x1, g1, r, q, fun v F1 H1 hv hn r1 t1 m1 => ⟨F1, g1, x2, g2, r1, q2, fun w F2 H2 hw2 hn2 r2 t2 m2 => ⟨sl1000 (by decide : 2 ≤ 1000), fun p np => ⟨p, [v, w], rfl, SqT.of upd_same, rfl, v, [w], rfl, w, [], rfl, rfl, ?_⟩⟩⟩⟩
      have na : ∀ a, H a = none → ¬ OwnAt g1 s a := fun a ha z => by
        obtain ⟨xs, hx, _⟩ := r.ownSome (m1.own z)
        rw [ha] at hx; cases hx
      have hv2 : RepS X.K F2 H2 x1 (some v) := keepRep r1 hv t2 (fun tg ds z => by
        obtain ⟨_, a, ea, n⟩ := hn tg ds z
        exact ⟨a, ea, na a n⟩) r2.fh
      have t02 := Tr.of r2 (t1.two m1 t2) (m1.trans m2)
      have s1 := par_set i t02 hv2 hx1 fun tg ds z => by
        obtain ⟨e1, a, ea, n⟩ := hn tg ds z
        exact ⟨e1, a, ea, n, fun z2 => na a n (m2.own z2)⟩
      have s2 := par_set j s1 hw2 hx2 fun tg ds z => by
        obtain ⟨e1, a, ea, n⟩ := hn2 tg ds z
        refine ⟨e1, a, ea, ?_, fun z2 => ?_⟩
        · cases z3 : H a with
          | none => rfl
          | some u => exact absurd n (t1.dom a (by rw [z3]; simp))
        · rcases ownIn z2 r2.len with q3 | ⟨_, _, e3, e4⟩
          · obtain ⟨xs, hx, _⟩ := r1.ownSome (m2.own q3)
            rw [n] at hx; cases hx
          · subst e3
            cases e4
            obtain ⟨a', xs, ea', _, ha', _⟩ := hv
            cases ea'
            rw [n] at ha'; cases ha'
      exact k F2 _ _ (s2.trans (Tr.of (s2.rep.stepN (Stp.made np) (sameMade s2.rep.fh np)) (Stp.made np) Mo.refl))

/-! ### the root -/
theorem walkK {l : PySem.W.OpenLaw} {n k : Nat} {q : Program} {loose : List Str} {XP : (Str → Option Value) → Heap → Prop} {YP : World → Heap → Prop} {d : DefRec} {x : Str} {m : List D → Option Sl}
    (hn : l.most = some n) (hn2 : n ≤ sizeLine) (hdf : d.params.defaults = []) (room : Room k callerA)
    (G : ∀ (w : World) (mg : Str → Option Value) (fa : Addr) (h : Heap), YP w h → h.Ns mainGlobals mg → mg d.name = some (.ref fa) →
      ∃ (K : PySem.W.Frag) (fd : FuncData), K.In h ∧ (∀ (s : Shared) (u : Value), BindsTo s fd ⟨[u], []⟩ [(x, u)]) ∧ ∀ base : Heap, K.In base → base.Ns mainGlobals mg → FnG l.prog w K mg base k fa fd [x] (spP K 1 m))
    (good : ∀ ns : List Int, ns.length ≤ n → m [.list (ns.map .int)] = some (.v (.bool true))) :
    PySem.W.WalkO q loose XP YP l.row.toRowW d [] (fun f vs => PySem.call f vs) := by
  refine Att.attach_call hn hdf fun w s0 s1 mg mb fa o pm cd doc a vs ns TT Y ho hd hcd hmg hob hns hlen hgens => ?_
  obtain ⟨K, fd, inK, bnd, hG⟩ := G w mg fa _ Y TT.T.g hmg
  exact lawG inK TT.T.g TT.T.b TT.T.builtins TT.T.nolimit hgens hob hns (Nat.le_trans hlen hn2) room hG bnd (good ns hlen)
end Dl
set_option Elab.async false
set_option linter.all false
set_option maxRecDepth 100000
namespace Dl
open PySem PySem.Spec PyProof.Rows L2
variable {X : Cx}

/-! ### methods of a list of the frame's own, one argument -/
def M1Ok (K : PySem.W.Frag) (r : V → List V → Hp → VK → Prop) (op : List D → D → Option (D × List D)) : Prop := ∀ (l : Addr) (xs : List V) (ds : List D) (y : V) (d : D) (F H : Hp) (res : D) (ds' : List D) (Q : VK), H l = some (.lst xs) → DpAll K F xs ds → Dp K F y d → op ds d = some (res, ds') →
  (∀ v ys, Dp K F v res → DpAll K F ys ds' → Q v (upd H l (.lst ys))) → r (.ref l) [y] H Q
def eM1 (op : List D → D → Option (D × List D)) (i : Nat) (f : Fe) : Fe := fun g => (ownD g[i]?).bind fun _ => (f g).bind fun q => match q.2[i]? with
  | some (.own t ds) => (op ds q.1).map fun r => (r.1, q.2.set i (.own t r.2))
  | _ => none
theorem de_m1 (i : Nat) {x n : Str} {id : String} {a : Expr} {f : Fe} {pos p1 p2 : Pos} {r : V → List V → Hp → VK → Prop} {op : List D → D → Option (D × List D)} (slot : Slot "list" n id) (hty : typeOf (.builtin id) = pure (.type "method_descriptor")) (hm : MtR X id r) (ok : M1Ok X.K r op)
    (he : DE X a f) (hN : X.N[i]? = some x := by rfl) (hv : Vis X.env.scope x := by first | exact Or.inl rfl | exact Or.inr (Or.inl rfl) | exact Or.inr (Or.inr rfl)) (hd : (x == ("__debug__" : Str)) = false := by decide)
    (hcd : (x == ("__classdict__" : Str)) = false := by decide) (hbase : attributeBase (.Name x p1) n X.env (eval (.Name x p1) X.env) = eval (.Name x p1) X.env := by rfl)
    (hfew : ((backTo pos (starEach [a] X.env)).all (fun x => !x.1) && (backToKw pos (keywordEach [] X.env)).all (fun x => x.1.isSome)
      && decide ([a].length + ([] : List Keyword).length + (if ([] : List Keyword).isEmpty then 0 else 1) < 30)) = true := by rfl)
    (hline : (p2.endLine == pos.line) = true := by rfl) (hs : starEach [a] X.env = (false, eval a X.env) :: starEach [] X.env := by rfl) (hplain : (backTo pos (starEach [] X.env)).any (·.1) = false := by rfl) :
    DE X (.Call (.Attribute (.Name x p1) n p2) [a] [] pos) (eM1 op i f) :=
  peMono (pe_bm PySem.F.plainAttrs_list slot hty hm (pe_var hN hv hd hcd) (pa_cons he pa_nil hs) hbase hfew hline hs hplain) fun s H Q ⟨F, g, d, g', r0, e, k⟩ => by
    unfold eM1 at e
    cases q0 : ownD g[i]? with
    | none => rw [q0] at e; cases e
    | some d0 =>
      rw [q0] at e
      have e : (f g).bind _ = some (d, g') := e
      cases q2 : f g with
      | none => rw [q2] at e; cases e
      | some p2 =>
        obtain ⟨dj, g2⟩ := p2
        rw [q2] at e
        simp only [Option.bind_some] at e
        split at e
        · rename_i tg ds hg
          cases q3 : op ds dj with
          | none => rw [q3] at e; cases e
          | some rr =>
            rw [q3] at e
            cases e
            have hw : ∃ w xs, s[i]? = some (some (.ref w)) ∧ H w = some (.lst xs) := by
              unfold ownD at q0
              split at q0
              · rename_i t0 ds0 hx0
                obtain ⟨o, ho, a, xs, ea, _, ha, _⟩ := r0.get hx0
                subst ea
                exact ⟨a, xs, ho, ha⟩
              · cases q0
            obtain ⟨w, xs0, hw, hxs0⟩ := hw
            refine ⟨.ref w, hw, .inl ⟨rfl, _, SqL.of hxs0⟩, F, g, dj, g2, r0, q2, fun vj F2 H2 hpj r2 t2 m2 => ?_⟩
            obtain ⟨o, ho, a, xs, eo, fa, hal, hps, ht⟩ := r2.get hg
            rw [hw] at ho; cases ho; cases eo
            refine ok w xs ds vj dj F2 H2 _ _ Q hal hps hpj q3 fun v ys hv hys => ?_
            have tr := r2.turn hg hw hys
            exact k v F2 _ hv tr.rep (t2.two m2 tr.stp) (m2.trans (moSet hg))
        · cases e
def popD : List D → D → Option (D × List D)
  | ds, .int i => match ixN ds.length i with
    | some k => (ds[k]?).map fun d => (d, ds.eraseIdx k)
    | none => none
  | _, _ => none
theorem dpErase {K : PySem.W.Frag} {H : Hp} : ∀ (n : Nat) {vs : List V} {ds : List D}, DpAll K H vs ds → DpAll K H (vs.eraseIdx n) (ds.eraseIdx n)
  | _, _, [], h => by cases h; exact .nil
  | 0, _, d :: ds, h => by
    cases h with
    | cons h1 h2 => exact h2
  | n + 1, _, d :: ds, h => by
    cases h with
    | cons h1 h2 => exact .cons h1 (dpErase n h2)
theorem ok_pop : M1Ok X.K (fun x vs H Q => rPopAt x vs H Q) (fun ds d => match d with
    | .int i => if -(2 ^ 63) ≤ i ∧ i < 2 ^ 63 then popD ds d else none
    | _ => none) := fun l xs ds y d F H res ds' Q hl hx hy e k => by
  cases d with
  | int i =>
    simp only at e
    split at e
    · rename_i hi
      unfold popD at e
      simp only at e
      split at e
      · rename_i kk hk
        cases q : ds[kk]? with
        | none => rw [q] at e; cases e
        | some d0 =>
          rw [q] at e; cases e
          obtain ⟨v, hv, hd⟩ := dpAt hx q
          refine ⟨l, xs, i, kk, v, rfl, by rw [intOf hy], hl, hi.1, hi.2, ?_, hv, k v _ hd (dpErase kk hx)⟩
          rw [dpLen hx]
          exact (ixN_seq hk).1
      · cases e
    · cases e
  | _ => cases e
def popOp : List D → D → Option (D × List D) := fun ds d => match d with
    | .int i => if -(2 ^ 63) ≤ i ∧ i < 2 ^ 63 then popD ds d else none
    | _ => none
theorem de_pop (i : Nat) {x : Str} {a : Expr} {f : Fe} {pos p1 p2 : Pos} (he : DE X a f) (hN : X.N[i]? = some x := by rfl) (hv : Vis X.env.scope x := by first | exact Or.inl rfl | exact Or.inr (Or.inl rfl) | exact Or.inr (Or.inr rfl)) (hd : (x == ("__debug__" : Str)) = false := by decide)
    (hcd : (x == ("__classdict__" : Str)) = false := by decide) (hbase : attributeBase (.Name x p1) "pop" X.env (eval (.Name x p1) X.env) = eval (.Name x p1) X.env := by rfl)
    (hfew : ((backTo pos (starEach [a] X.env)).all (fun x => !x.1) && (backToKw pos (keywordEach [] X.env)).all (fun x => x.1.isSome)
      && decide ([a].length + ([] : List Keyword).length + (if ([] : List Keyword).isEmpty then 0 else 1) < 30)) = true := by rfl)
    (hline : (p2.endLine == pos.line) = true := by rfl) (hs : starEach [a] X.env = (false, eval a X.env) :: starEach [] X.env := by rfl) (hplain : (backTo pos (starEach [] X.env)).any (·.1) = false := by rfl) :
    DE X (.Call (.Attribute (.Name x p1) "pop" p2) [a] [] pos) (eM1 popOp i f) := de_m1 i PySem.F.slot_list_pop PySem.F.type_list_pop mt_popAt ok_pop he hN hv hd hcd hbase hfew hline hs hplain
end Dl
set_option Elab.async false
set_option linter.all false
set_option maxRecDepth 100000
namespace Dl
open PySem PySem.Spec PyProof.Rows L2
variable {X : Cx}

/-! ### a built-in that makes a list of the frame's own out of one argument -/
def V1Ok (K : PySem.W.Frag) (r : List V → Hp → VK → Prop) (op : D → Option (List D)) : Prop := ∀ (v : V) (d1 : D) (ds : List D) (F H : Hp) (Q : VK), Same F H → BD K F H v d1 → op d1 = some ds →
  (∀ vs p, DpAll K F vs ds → H p = none → Q (.ref p) (upd H p (.lst vs))) → r [v] H Q
def v1 (op : D → Option (List D)) (f : Fe) : Fv := fun g => (f g).bind fun p => (op p.1).map fun ds => (.own none ds, p.2)
theorem v1_of {op : D → Option (List D)} {f : Fe} {g g1 : G} {d : D} {ds : List D} (e : f g = some (d, g1)) (h : op d = some ds) : v1 op f g = some (.own none ds, g1) := by
  unfold v1
  simp only [e, h, Option.bind_some, Option.map_some]
theorem tCV_of {K : PySem.W.Frag} {r : List V → Hp → VK → Prop} {op : D → Option (List D)} {f : Fe} (ok : V1Ok K r op) {s : Sg} {H : Hp} {Q : VK} (h : tV K (v1 op f) s H Q) : tCB r (tCons (tB K f) tNil) s H Q := by
  obtain ⟨F, g, x, g', rp, e, k⟩ := h
  unfold v1 at e
  cases q : f g with
  | none => rw [q] at e; cases e
  | some p =>
    obtain ⟨d1, g1⟩ := p
    rw [q] at e
    have e : (op d1).map _ = some (x, g') := e
    cases q2 : op d1 with
    | none => rw [q2] at e; cases e
    | some ds =>
      rw [q2] at e; cases e
      refine ⟨F, g, d1, _, rp, q, fun v1 F1 H1 p1 r1 t1 m1 => ok v1 d1 ds F1 H1 Q r1.fh p1 q2 fun vs p hvs np => ?_⟩
      exact newLst r1 hvs t1 m1 k p np
theorem dv_b1 {x : Str} {id : String} {p pos : Pos} {a : Expr} {f : Fe} {r : List V → Hp → VK → Prop} {op : D → Option (List D)} (hc : CallR X (.builtin id) r) (ok : V1Ok X.K r op) (hg : Gl X x) (hm : X.mg x = none) (hv : bootBuiltins x = some (.builtin id)) (ha : DB X a f)
    (hn : x ≠ "__name__" := by decide) (hdb : (x == ("__debug__" : Str)) = false := by decide) (he : starEach [a] X.env = (false, eval a X.env) :: starEach [] X.env := by rfl) (hpl : (backTo pos (starEach [] X.env)).any (·.1) = false := by rfl) : DV X (.Call (.Name x p) [a] [] pos) (v1 op f) :=
  peMono (pe_callB hc hg hm hv (pa_cons ha pa_nil he) hn hdb he hpl) fun _ _ _ h => tCV_of ok h
theorem dv_t1 {x : Str} {id : String} {p pos : Pos} {a : Expr} {f : Fe} {r : List V → Hp → VK → Prop} {op : D → Option (List D)} (hc : CallR X (.type id) r) (ok : V1Ok X.K r op) (hg : Gl X x) (hm : X.mg x = none) (hv : bootBuiltins x = some (.type id)) (ha : DB X a f)
    (hn : x ≠ "__name__" := by decide) (hdb : (x == ("__debug__" : Str)) = false := by decide) (he : starEach [a] X.env = (false, eval a X.env) :: starEach [] X.env := by rfl) (hpl : (backTo pos (starEach [] X.env)).any (·.1) = false := by rfl) : DV X (.Call (.Name x p) [a] [] pos) (v1 op f) :=
  peMono (pe_callTy hc hg hm hv (pa_cons ha pa_nil he) hn hdb he hpl) fun _ _ _ h => tCV_of ok h
theorem BD.seq {K : PySem.W.Frag} {F H : Hp} {v : V} {d : D} {ds : List D} (h : BD K F H v d) (fh : Same F H) (e : seqD d = some ds) : ∃ p ys, v = .ref p ∧ (SqL K H p ys ∨ SqT K H p ys) ∧ DpAll K F ys ds := by
  rcases h with h | ⟨es, a, xs, rfl, rfl, ha, hp⟩
  · cases d with
    | list es =>
      cases e
      cases h with
      | lst hs ha => exact ⟨_, _, rfl, .inl (fh.seq hs), ha⟩
    | tuple es =>
      cases e
      cases h with
      | tup hs ha => exact ⟨_, _, rfl, .inr (Same.tupS fh hs), ha⟩
    | _ => cases e
  · cases e
    exact ⟨_, _, rfl, .inl (SqL.of ha), hp⟩
/-- list(x) -/
theorem ok_list : V1Ok X.K (fun xs H Q => ∃ p ys, xs = [.ref p] ∧ (SqL X.K H p ys ∨ SqT X.K H p ys) ∧ ∀ l, H l = none → Q (.ref l) (upd H l (.lst ys))) seqD := fun v d1 ds F H Q fh p e k => by
  obtain ⟨a, ys, rfl, h1, h2⟩ := p.seq fh e
  exact ⟨a, ys, rfl, h1, fun l nl => k ys l h2 nl⟩
theorem dv_list {p pos : Pos} {a : Expr} {f : Fe} (hg : Gl X "list") (hm : X.mg "list" = none) (ha : DB X a f) (he : starEach [a] X.env = (false, eval a X.env) :: starEach [] X.env := by rfl) (hpl : (backTo pos (starEach [] X.env)).any (·.1) = false := by rfl) :
    DV X (.Call (.Name "list" p) [a] [] pos) (v1 seqD f) := dv_t1 call_list_of ok_list hg hm (by decide +kernel) ha (by decide) (by decide) he hpl
/-- sorted of ints -/
def srtI (ns : List Int) : List Int := ns.mergeSort fun a b => decide (a ≤ b)
theorem srt_perm (ns : List Int) : (srtI ns).Perm ns := List.mergeSort_perm ..
theorem srt_sorted (ns : List Int) : (srtI ns).Pairwise (· ≤ ·) := by
  have := List.pairwise_mergeSort (le := fun a b : Int => decide (a ≤ b)) (by intro a b c h1 h2; simp at h1 h2 ⊢; omega) (by intro a b; simp; omega) ns
  exact this.imp fun h => by simpa using h
theorem srt_unique {ms ns : List Int} (h1 : ms.Perm ns) (h2 : ms.Pairwise (· ≤ ·)) : ms = srtI ns :=
  (h1.trans (srt_perm ns).symm).eq_of_pairwise (fun a b _ _ x y => Int.le_antisymm x y) h2 (srt_sorted ns)
def sortD : D → Option (List D)
  | .list ds => (intL ds).map fun ns => (srtI ns).map .int
  | _ => none
theorem dpInts {K : PySem.W.Frag} {F : Hp} : ∀ ns : List Int, DpAll K F (ns.map V.int) (ns.map .int)
  | [] => .nil
  | n :: r => .cons (.int n) (dpInts r)
theorem ok_sorted : V1Ok X.K (rSortedI X.K) sortD := fun v d1 ds F H Q fh p e k => by
  cases d1 with
  | list es =>
    have e : (intL es).map _ = some ds := e
    cases q : intL es with
    | none => rw [q] at e; cases e
    | some ns =>
      rw [q] at e; cases e
      have p' := p.dp fh
      cases p' with
      | lst hs ha =>
        have e2 := intL_of q ha
        subst e2
        exact ⟨_, ns, rfl, hs, fun ns' l hp hsrt nl => by rw [srt_unique hp hsrt]; exact k _ l (dpInts _) nl⟩
  | _ => cases e
theorem dv_sorted {p pos : Pos} {a : Expr} {f : Fe} (hg : Gl X "sorted") (hm : X.mg "sorted" = none) (ha : DB X a f) (he : starEach [a] X.env = (false, eval a X.env) :: starEach [] X.env := by rfl) (hpl : (backTo pos (starEach [] X.env)).any (·.1) = false := by rfl) :
    DV X (.Call (.Name "sorted" p) [a] [] pos) (v1 sortD f) := dv_b1 cr_sortedI ok_sorted hg hm (by decide +kernel) ha (by decide) (by decide) he hpl
end Dl
set_option Elab.async false
set_option linter.all false
set_option maxRecDepth 100000
namespace Dl
open PySem PySem.Spec PyProof.Rows L2

/-! ### zip of a list and a tuple, either way round -/
def Sq (t : Bool) (K : PySem.W.Frag) (H : Hp) (a : Addr) (xs : List V) : Prop := if t = true then SqT K H a xs else SqL K H a xs
def IterAt (t : Bool) (h : Heap) (i a : Addr) (k : Nat) : Prop := if t = true then h.IsTupleIter i a k else h.IsListIter i a k
def PlAt (t : Bool) (h : Heap) (a : Addr) (its : Array Value) : Prop := if t = true then h.IsTuple a its else h.IsList a its
def itObj (t : Bool) (a : Addr) : Obj := if t = true then { cls := .type "tuple_iterator", data := .fields #[.ref a, .int 0 0] } else { cls := .type "list_iterator", data := .fields #[.ref a, .int 0 0] }
theorem drawsX {prog : Program} {w : World} {A : Around} (hh : A.handled = none) (t : Bool) (it a : Addr) (hne : a ≠ it) (items : Array Value) :
    Draws prog w A it [it, a] items.size (fun i v => items[i]? = some v) (fun i h => IterAt t h it a i ∧ PlAt t h a items) := by
  cases t
  · exact Draws.list hh it a hne items
  · exact Draws.tuple hh it a hne items
theorem beginsX (t : Bool) (a : Addr) (items : Array Value) : Begins (.ref a) (itObj t a) fun h => PlAt t h a items := by
  cases t
  · exact begins_list a items
  · exact begins_tuple a items
theorem IterAt.obj {t : Bool} {h : Heap} {i a : Addr} {k : Nat} (x : IterAt t h i a k) : ∃ o, h.get? i = some o ∧ ∀ v, o.data ≠ .cell v := by
  cases t
  · obtain ⟨o, e, _, d⟩ := (show h.IsListIter i a k from x)
    exact ⟨o, e, fun v q => by rw [d] at q; cases q⟩
  · obtain ⟨o, e, _, d⟩ := (show h.IsTupleIter i a k from x)
    exact ⟨o, e, fun v q => by rw [d] at q; cases q⟩
theorem IterAt.at {t : Bool} {h h' : Heap} {i a : Addr} {k : Nat} (x : IterAt t h i a k) (kp : ∀ o, h.get? i = some o → h'.get? i = some o) : IterAt t h' i a k := by
  cases t
  · exact (show h.IsListIter i a k from x).at kp
  · exact (show h.IsTupleIter i a k from x).at kp
theorem IterAt.new {t : Bool} {h : Heap} {i a : Addr} (x : h.get? i = some (itObj t a)) : IterAt t h i a 0 := by
  cases t
  · exact ⟨_, x, rfl, rfl⟩
  · exact ⟨_, x, rfl, rfl⟩
theorem invSq {X : Cx} {pins : List (Addr × Obj)} {σ : L2.St} {H : Hp} {s : Shared} (I : Inv X pins σ H s) {t : Bool} {a : Addr} {xs : List V} (h : Sq t X.K H a xs) : ∃ its : List Value, Vals xs its ∧ PlAt t s.heap a its.toArray ∧ a < s.heap.objs.size := by
  cases t
  · obtain ⟨its, r, p, _⟩ := I.list (show SqL X.K H a xs from h)
    exact ⟨its, r, p.isList, p.lt⟩
  · obtain ⟨its, r, p, _⟩ := I.tuple (show SqT X.K H a xs from h)
    have p' := p
    obtain ⟨o, ho, _⟩ := p'
    exact ⟨its, r, p, Heap.lt_size ho⟩
theorem sqInj {X : Cx} {pins : List (Addr × Obj)} {σ : L2.St} {H : Hp} {s : Shared} (I : Inv X pins σ H s) {t : Bool} {a : Addr} {xs ys : List V} (h : Sq t X.K H a xs) (h2 : Sq t X.K H a ys) : xs = ys := by
  cases t
  · exact I.list_inj (show SqL X.K H a xs from h) (show SqL X.K H a ys from h2)
  · exact I.tuple_inj (show SqT X.K H a xs from h) (show SqT X.K H a ys from h2)
def ItX (K : PySem.W.Frag) (t1 t2 : Bool) (a b : Addr) : It :=
  ⟨fun i H => ∃ (xs ys : List V) (x y : V), Sq t1 K H a xs ∧ Sq t2 K H b ys ∧ xs[i]? = some x ∧ ys[i]? = some y,
    fun i H v H' => ∃ T x y, v = .ref T ∧ H T = none ∧ H' = upd H T (.tup [x, y]) ∧ (∀ xs, Sq t1 K H a xs → xs[i]? = some x) ∧ ∀ ys, Sq t2 K H b ys → ys[i]? = some y,
    fun i H => ∃ xs ys : List V, Sq t1 K H a xs ∧ Sq t2 K H b ys ∧ i = min xs.length ys.length⟩
theorem turnX {P : Program} {w : World} {K : PySem.W.Frag} {elts : List Expr} {kk : Nat} {tpos : Pos} {t1 t2 : Bool} {a b z TI TO i1 i2 : Addr} (S : ZipSep2 z TI TO i1 i2 [i1, a] [i2, b]) (hai : a ≠ i1) (hbi : b ≠ i2) :
    Turn P w K (.Tuple elts kk tpos) (ItX K t1 t2 a b) [z, TI, TO, i1, i2] z (fun i h => IsZip h z TI TO .none ∧ IsTupOf2 h TI (.ref i1) (.ref i2) ∧ (∃ x y, IsTupOf2 h TO x y) ∧ IterAt t1 h i1 a i ∧ IterAt t2 h i2 b i) where
  mem := by simp
  obj := fun i h st c hc => by
    obtain ⟨hz, hTI, ⟨x, y, hTO⟩, h1, h2⟩ := st
    have e' : c = z ∨ c = TI ∨ c = TO ∨ c = i1 ∨ c = i2 := by simpa using hc
    rcases e' with q | q | q | q | q
    · rw [q]; exact ⟨_, hz, fun v q => nomatch q⟩
    · rw [q]; exact ⟨_, hTI, fun v q => nomatch q⟩
    · rw [q]; exact ⟨_, hTO, fun v q => nomatch q⟩
    · rw [q]; exact h1.obj
    · rw [q]; exact h2.obj
  keep := fun i h h' st k => by
    obtain ⟨hz, hTI, ⟨x, y, hTO⟩, h1, h2⟩ := st
    exact ⟨k z (by simp) _ hz, k TI (by simp) _ hTI, ⟨x, y, k TO (by simp) _ hTO⟩, h1.at fun o q => k i1 (by simp) o q, h2.at fun o q => k i2 (by simp) o q⟩
  item := by
    intro X hP hw hK hc i pins s σ H E I hf st hg
    subst hP hw hK
    obtain ⟨hz, hTI, ⟨x0, y0, hTO⟩, h1, h2⟩ := st
    obtain ⟨xs, ys, x, y, hqx, hqy, hx, hy⟩ := hg
    obtain ⟨its, rv, p, _⟩ := invSq I hqx
    obtain ⟨its2, rv2, p2, _⟩ := invSq I hqy
    obtain ⟨u, hu, ru⟩ := rv.get hx
    obtain ⟨u2, hu2, ru2⟩ := rv2.get hy
    have hzl : z < s.heap.objs.size := Heap.lt_size hz
    have l1 : i < its.toArray.size := by
      have := (List.getElem?_eq_some_iff.mp hu).1
      simpa using this
    have l2 : i < its2.toArray.size := by
      have := (List.getElem?_eq_some_iff.mp hu2).1
      simpa using this
    have hh : X.A.in1.handled = none := I.ok.hd hc
    refine wpAny_pyNext_zipD2_item S (drawsX hh t1 i1 a hai its.toArray) (drawsX hh t2 i2 b hbi its2.toArray) hz hTI hTO ⟨h1, p⟩ ⟨h2, p2⟩ l1 l2 fun v1 v2 h' tk e1 e2 z' TO' n1 n2 hT hsz hk => ?_
    have e1 : v1 = u := by
      have : its[i]? = some v1 := by simpa using e1
      rw [hu] at this; exact (Option.some.inj this).symm
    have e2 : v2 = u2 := by
      have : its2[i]? = some v2 := by simpa using e2
      rw [hu2] at this; exact (Option.some.inj this).symm
    subst e1 e2
    refine ⟨_, rfl, wpAny_letOwnedTupleGo_zip (s := { s with heap := h', toks := tk }) z' fun h'' z'' sb => ?_⟩
    have hT2 : h''.get? s.heap.objs.size = some { cls := .type "tuple", data := .seq #[v1, v2] } := (sb.2 _ (Nat.ne_of_gt hzl)).trans hT
    have new : ObjOk X.prog X.w (upd H s.heap.objs.size (.tup [x, y])) h'' s.heap.objs.size (.tup [x, y]) :=
      ⟨by show 2 ≤ sizeLine; decide, [v1, v2], .cons ru (.cons ru2 .nil), ⟨_, hT2, rfl, _, rfl⟩⟩
    have I1 : Inv X pins σ (upd H s.heap.objs.size (.tup [x, y])) { s with heap := h'', toks := tk } :=
      I.turnedNew (t' := tk) (ch := [z, TI, TO, i1, i2]) (fun c o hb q => (sb.2 c (fun q' => hb (by simp [q']))).trans (hk c o (fun q' => hb (by simp [q'])) (fun q' => hb (by simp [q'])) (fun q' => hb (by simp [q'])) (fun q' => hb (by simp [q'])) q)) hf (Nat.le_refl _) new
    refine ⟨.ref s.heap.objs.size, _, I1, rfl, ⟨_, x, y, rfl, I.hok.fresh (Nat.le_refl _), rfl, fun l hl => by rw [sqInj I hl hqx]; exact hx, fun l hl => by rw [sqInj I hl hqy]; exact hy⟩, ⟨z'', ?_, ⟨v1, v2, ?_⟩, ?_, ?_⟩, fun c hcm => ?_⟩
    · exact (sb.2 _ S.TIz).trans (hk _ _ S.TIz S.TITO S.TIi1 S.TIi2 hTI)
    · exact (sb.2 _ S.TOz).trans TO'
    · exact n1.1.at fun o q => (sb.2 _ (Ne.symm S.zi1)).trans q
    · exact n2.1.at fun o q => (sb.2 _ (Ne.symm S.zi2)).trans q
    · have hlt : c < s.heap.objs.size := by
        have e' : c = z ∨ c = TI ∨ c = TO ∨ c = i1 ∨ c = i2 := by simpa using hcm
        rcases e' with q | q | q | q | q
        · rw [q]; exact hzl
        · rw [q]; exact Heap.lt_size hTI
        · rw [q]; exact Heap.lt_size hTO
        · rw [q]; obtain ⟨_, e1, _⟩ := h1.obj; exact Heap.lt_size e1
        · rw [q]; obtain ⟨_, e2, _⟩ := h2.obj; exact Heap.lt_size e2
      rw [upd_ne (Nat.ne_of_lt hlt)]
      exact (hf c hcm).1
  done := by
    intro X hP hw hK hc i pins s σ H E I hf st hg
    subst hP hw hK
    obtain ⟨hz, hTI, ⟨x0, y0, hTO⟩, h1, h2⟩ := st
    obtain ⟨xs, ys, hqx, hqy, hend⟩ := hg
    obtain ⟨its, rv, p, _⟩ := invSq I hqx
    obtain ⟨its2, rv2, p2, _⟩ := invSq I hqy
    have l1 := rv.length
    have l2 := rv2.length
    have hh : X.A.in1.handled = none := I.ok.hd hc
    exact wpAny_pyNext_zipD2_end S (drawsX hh t1 i1 a hai its.toArray) (drawsX hh t2 i2 b hbi its2.toArray) hz hTI hTO ⟨h1, p⟩ ⟨h2, p2⟩ (by simp; omega) (by simp; omega) (by simp; omega) fun h' tk hk => ⟨rfl, I.turnedL (t' := tk) (ch := [z, TI, TO, i1, i2]) (fun c o hb q =>
      hk c o (fun q' => hb (by simp [q'])) (fun q' => hb (by simp [q'])) (fun q' => hb (by simp [q'])) (fun q' => hb (by simp [q'])) q) hf⟩
  self := fun A i s Q E st h => wpAny_pyIter_zip st.1 h
def iZipX (K : PySem.W.Frag) (ta : TA) : TI := fun σ H R => ta σ H fun vs H1 => ∃ (t1 t2 : Bool) (a b : Addr) (xs ys : List V), vs = [.ref a, .ref b] ∧ Sq t1 K H1 a xs ∧ Sq t2 K H1 b ys ∧ R (ItX K t1 t2 a b) H1
theorem pi_zipX {X : Cx} {e e2 : Expr} {ta : TA} {p pos tpos : Pos} {elts : List Expr} {kk : Nat} (hg : Gl X "zip") (hm : X.mg "zip" = none) (ha : PA X [e, e2] ta)
    (hs : starEach [e, e2] X.env = (false, eval e X.env) :: starEach [e2] X.env := by rfl) (hpl : (backTo pos (starEach [e2] X.env)).any (·.1) = false := by rfl) :
    PI X (.Tuple elts kk tpos) (.Call (.Name "zip" p) [e, e2] [] pos) (iZipX X.K ta) := by
  refine ⟨fun pins s σ H R I h => ?_⟩
  refine Call_ (ld_blt I hg hm PyProof.Rows.boot_zip (PyProof.Rows.callWith_type1 (thn (ha.run pos pins s σ H _ I h) fun us s1 ⟨vs, H1, I1, r1, q1⟩ => ?_) hs hpl))
  obtain ⟨t1, t2, a, b, xs, ys, ex, hqx, hqy, q⟩ := q1
  subst ex
  cases r1 with
  | cons r rr =>
    cases rr with
    | cons r' rr =>
      cases rr
      cases r
      cases r'
      have fresh5 : ∀ c, c ∈ [s1.heap.objs.size + 4, s1.heap.objs.size + 2, s1.heap.objs.size + 3, s1.heap.objs.size, s1.heap.objs.size + 1] → FpOk X pins H1 c := fun c hcm => by
        have e' : c = s1.heap.objs.size + 4 ∨ c = s1.heap.objs.size + 2 ∨ c = s1.heap.objs.size + 3 ∨ c = s1.heap.objs.size ∨ c = s1.heap.objs.size + 1 := by simpa using hcm
        have hle : s1.heap.objs.size ≤ c := by
          rcases e' with z | z | z | z | z
          · rw [z]; exact Nat.le_add_right _ _
          · rw [z]; exact Nat.le_add_right _ _
          · rw [z]; exact Nat.le_add_right _ _
          · rw [z]; exact Nat.le_refl _
          · rw [z]; exact Nat.le_add_right _ _
        exact I1.fpOk hle (I1.hok.fresh hle)
      obtain ⟨its, rv, p1, la⟩ := invSq I1 hqx
      obtain ⟨its2, rv2, p2, lb⟩ := invSq I1 hqy
      refine zip_begins2 (beginsX t1 a its.toArray) (beginsX t2 b its2.toArray) p1 p2 fun h' hz hTI hTO h1 h2 hsz hk => wpAny_pyIter_zip hz ?_
      have I2 : Inv X pins σ H1 { s1 with heap := h' } := I1.kept (t' := s1.toks) hk
      exact ⟨s1.heap.objs.size + 4, [s1.heap.objs.size + 4, s1.heap.objs.size + 2, s1.heap.objs.size + 3, s1.heap.objs.size, s1.heap.objs.size + 1], _, _, H1, rfl, I2,
        turnX (t1 := t1) (t2 := t2) (zip_sep2 (N := s1.heap.objs.size) (fp1 := [a]) (fp2 := [b]) (by simpa using la) (by simpa using lb)) (Nat.ne_of_lt la) (Nat.ne_of_lt (Nat.lt_succ_of_lt lb)), ⟨hz, hTI, ⟨_, _, hTO⟩, IterAt.new h1, IterAt.new h2⟩, fresh5, q⟩

variable {X : Cx}
theorem walkX {K : PySem.W.Frag} {t1 t2 : Bool} {a b : Addr} {xs ys : List V} {n : Nat} (hn : n = min xs.length ys.length) : Walk (ItX K t1 t2 a b) n (fun H => Sq t1 K H a xs ∧ Sq t2 K H b ys) (YPair (fun i => xs[i]?) (fun i => ys[i]?)) := by
  subst hn
  refine ⟨fun i _ hi q => ?_, fun _ q => ⟨xs, ys, q.1, q.2, rfl⟩, fun i H v H' _ q y => ?_⟩
  · have h1 : i < xs.length := by omega
    have h2 : i < ys.length := by omega
    exact ⟨xs, ys, xs[i], ys[i], q.1, q.2, by simp [h1], by simp [h2]⟩
  · obtain ⟨T, x, z, h1, h2, h3, h4, h5⟩ := y
    exact ⟨T, x, z, h1, h2, h3, h4 xs q.1, h5 ys q.2⟩
def iZipU (f : Fa) : Fa := fun g => match f g with
  | some ([d, e], g') => (seqD d).bind fun xs => (seqD e).map fun ys => (zipL xs ys, g')
  | _ => none
theorem sqOf {K : PySem.W.Frag} {F H : Hp} {v : V} {d : D} {ds : List D} (h : Dp K F v d) (fh : Same F H) (e : seqD d = some ds) : ∃ t p ys, v = .ref p ∧ (∀ H', Same F H' → Sq t K H' p ys) ∧ DpAll K F ys ds := by
  cases d with
  | list es =>
    cases e
    cases h with
    | lst hs ha => exact ⟨false, _, _, rfl, fun H' q => q.seq hs, ha⟩
  | tuple es =>
    cases e
    cases h with
    | tup hs ha => exact ⟨true, _, _, rfl, fun H' q => Same.tupS q hs, ha⟩
  | _ => cases e
theorem di_zipU {a b : Expr} {p pos tp : Pos} {es : List Expr} {kk : Nat} {f : Fa} (hg : Gl X "zip") (hm : X.mg "zip" = none) (ha : DA X [a, b] f)
    (hs : starEach [a, b] X.env = (false, eval a X.env) :: starEach [b] X.env := by rfl) (hpl : (backTo pos (starEach [b] X.env)).any (·.1) = false := by rfl) :
    DI X (.Tuple es kk tp) (.Call (.Name "zip" p) [a, b] [] pos) (iZipU f) := piMono (pi_zipX hg hm ha hs hpl) fun s H R ⟨F, g, ds, g', r, e, k⟩ => by
  unfold iZipU at e
  split at e
  · rename_i d1 d2 g1 q
    cases q1 : seqD d1 with
    | none => rw [q1] at e; cases e
    | some xs =>
      rw [q1] at e
      have e : (seqD d2).map _ = some (ds, g') := e
      cases q2 : seqD d2 with
      | none => rw [q2] at e; cases e
      | some ys =>
        rw [q2] at e; cases e
        refine ⟨F, g, _, _, r, q, fun vs F1 H1 p1 r1 t1 m1 => ?_⟩
        obtain ⟨v, w, rfl, h1, h2⟩ := dpTwo p1
        obtain ⟨ta, pa, us, rfl, sa, da⟩ := sqOf h1 r1.fh q1
        obtain ⟨tb, pb, ws, rfl, sb, db⟩ := sqOf h2 r1.fh q2
        exact ⟨ta, tb, pa, pb, us, ws, rfl, sa _ r1.fh, sb _ r1.fh, k _ F1 H1 r1 t1 m1 (itdZip rfl da db (fun H q => ⟨sa H q, sb H q⟩) (walkX rfl))⟩
  · cases e
end Dl
set_option Elab.async false
set_option linter.all false
set_option maxRecDepth 100000
namespace Dl
open PySem PySem.Spec PyProof.Rows L2

/-! ### several new cells told by what is true of each -/
def layE (H : Hp) : List (Addr × (Heap → Prop)) → Hp
  | [] => H
  | (a, φ) :: r => upd (layE H r) a (.ext φ)
theorem layE_cases (H : Hp) : ∀ (cs : List (Addr × (Heap → Prop))) (b : Addr), ((∀ p ∈ cs, p.1 ≠ b) ∧ layE H cs b = H b) ∨ ∃ φ, (b, φ) ∈ cs ∧ layE H cs b = some (.ext φ)
  | [], b => .inl ⟨fun p hp => (by cases hp), rfl⟩
  | (a, φ) :: r, b => by
    by_cases e : b = a
    · subst e
      exact .inr ⟨φ, List.mem_cons_self .., by rw [layE, upd_same]⟩
    · rw [layE, upd_ne e]
      rcases layE_cases H r b with ⟨h1, h2⟩ | ⟨ψ, h1, h2⟩
      · exact .inl ⟨fun p hp => by
          rcases List.mem_cons.mp hp with rfl | hp
          · exact fun z => e z.symm
          · exact h1 p hp, h2⟩
      · exact .inr ⟨ψ, List.mem_cons_of_mem _ h1, h2⟩
section
variable {X : Cx} {pins : List (Addr × Obj)} {σ : L2.St} {H : Hp} {s : Shared}
theorem inv_laids {h' : Heap} {t' : Nat} {cs : List (Addr × (Heap → Prop))} (I : Inv X pins σ H s) (k : ∀ b u, s.heap.get? b = some u → h'.get? b = some u) (hp : ∀ p ∈ cs, s.heap.objs.size ≤ p.1)
    (ok : ∀ p ∈ cs, p.2 h' ∧ (∃ o, h'.get? p.1 = some o) ∧ ∀ h1 h2 : Heap, p.2 h1 → (∀ o, h1.get? p.1 = some o → h2.get? p.1 = some o) → p.2 h2) : Inv X pins σ (layE H cs) { s with heap := h', toks := t' } := by
  have old : ∀ b o, H b = some o → layE H cs b = some o := fun b o e => by
    rcases layE_cases H cs b with ⟨_, h2⟩ | ⟨φ, h1, _⟩
    · rw [h2, e]
    · have := I.hok.fresh (hp _ h1)
      rw [this] at e; cases e
  refine I.un ⟨fun b u q _ _ _ => k b u q, fun b u q _ _ _ => ⟨u.slots, k b u q⟩, fun b u q n _ => ?_, fun b u q _ => ⟨u, k b u q⟩, fun b xs q => old _ _ q, fun b u xs q => old _ _ q, fun b ps q => ⟨#[], by rw [old _ _ q]; simp⟩⟩ fun b u e => ?_
  · rcases layE_cases H cs b with ⟨_, h2⟩ | ⟨φ, h1, _⟩
    · rw [h2, n]
    · exact absurd (Nat.lt_of_lt_of_le (Heap.lt_size q) (hp _ h1)) (Nat.lt_irrefl _)
  · rcases layE_cases H cs b with ⟨_, h2⟩ | ⟨φ, h1, h2⟩
    · rw [h2] at e
      exact (I.hok b u e).stay (fun c v _ q => k c v q) (fun c q => old _ _ q) fun c xs q => old _ _ q
    · rw [h2] at e
      cases e
      exact ok _ h1
theorem inv_drops {cs : List (Addr × (Heap → Prop))} : ∀ {H : Hp}, (cs.map (·.1)).Nodup → (∀ p ∈ cs, H p.1 = none) → Inv X pins σ (layE H cs) s → Inv X pins σ H s := by
  induction cs with
  | nil => exact fun _ _ I => I
  | cons p r ih =>
    obtain ⟨a, φ⟩ := p
    intro H nd hn I
    rw [List.map_cons, List.nodup_cons] at nd
    have na : layE H r a = none := by
      rcases layE_cases H r a with ⟨_, h2⟩ | ⟨ψ, h1, _⟩
      · rw [h2]; exact hn _ (List.mem_cons_self ..)
      · exact absurd (List.mem_map.mpr ⟨_, h1, rfl⟩) nd.1
    have I2 := ItX.inv_drop (a := a) (φ := φ) I (by rw [layE, upd_same])
    have e : ItX.dropH (layE H ((a, φ) :: r)) a = layE H r := ItX.dropH_upd na
    rw [e] at I2
    exact ih nd.2 (fun p hp => hn p (List.mem_cons_of_mem _ hp)) I2
theorem fp_drops {cs : List (Addr × (Heap → Prop))} (I : Inv X pins σ (layE H cs) s) (hs : ∀ p ∈ cs, X.s_0.heap.objs.size ≤ p.1) (hn : ∀ p ∈ cs, H p.1 = none) : ∀ p ∈ cs, FpOk X pins H p.1 := fun p hp => by
  have : ∃ u, layE H cs p.1 = some u := by
    rcases layE_cases H cs p.1 with ⟨h1, _⟩ | ⟨φ, _, h2⟩
    · exact absurd rfl (h1 p hp)
    · exact ⟨_, h2⟩
  obtain ⟨u, hu⟩ := this
  obtain ⟨f0, f1, f2, f3, f4, f5⟩ := ItX.inv_fp I hu (hs p hp)
  exact ⟨hn p hp, f1, f2, f3, f4, f5⟩
end

/-! ### a zip kept in a name -/
abbrev zipCells (t1 t2 : Bool) (a b N : Addr) : List (Addr × (Heap → Prop)) :=
  [(N + 4, fun h => IsZip h (N + 4) (N + 2) (N + 3) .none), (N + 2, fun h => IsTupOf2 h (N + 2) (.ref N) (.ref (N + 1))), (N + 3, fun h => IsTupOf2 h (N + 3) .none .none), (N, fun h => IterAt t1 h N a 0), (N + 1, fun h => IterAt t2 h (N + 1) b 0)]
def tZipO (K : PySem.W.Frag) (n : Nat) (ta : TA) : TE := fun σ H Q => ta σ H fun vs H1 => ∃ (t1 t2 : Bool) (a b : Addr) (xs ys : List V), vs = [.ref a, .ref b] ∧ Sq t1 K H1 a xs ∧ Sq t2 K H1 b ys ∧
  ∀ N : Addr, n ≤ N → a < N → b < N → (∀ c, N ≤ c → H1 c = none) → Q (.ref (N + 4)) (layE H1 (zipCells t1 t2 a b N))
theorem pe_zipO {X : Cx} {e e2 : Expr} {ta : TA} {p pos : Pos} (hg : Gl X "zip") (hm : X.mg "zip" = none) (ha : PA X [e, e2] ta)
    (hs : starEach [e, e2] X.env = (false, eval e X.env) :: starEach [e2] X.env := by rfl) (hpl : (backTo pos (starEach [e2] X.env)).any (·.1) = false := by rfl) :
    PE X (.Call (.Name "zip" p) [e, e2] [] pos) (tZipO X.K X.s_0.heap.objs.size ta) := by
  refine ⟨fun pins s σ H Q I h => ?_⟩
  refine Call_ (ld_blt I hg hm PyProof.Rows.boot_zip (PyProof.Rows.callWith_type1 (thn (ha.run pos pins s σ H _ I h) fun us s1 ⟨vs, H1, I1, r1, q1⟩ => ?_) hs hpl))
  obtain ⟨t1, t2, a, b, xs, ys, ex, hqx, hqy, q⟩ := q1
  subst ex
  cases r1 with
  | cons r rr =>
    cases rr with
    | cons r' rr =>
      cases rr
      cases r
      cases r'
      obtain ⟨its, rv, p1, la⟩ := invSq I1 hqx
      obtain ⟨its2, rv2, p2, lb⟩ := invSq I1 hqy
      refine zip_begins2 (beginsX t1 a its.toArray) (beginsX t2 b its2.toArray) p1 p2 fun h' hz hTI hTO h1 h2 hsz hk => ?_
      refine ⟨.ref (s1.heap.objs.size + 4), _, inv_laids (t' := s1.toks) (cs := zipCells t1 t2 a b s1.heap.objs.size) I1 hk (fun p hp => ?_) (fun p hp => ?_), rfl, q _ I1.sz la lb fun c hc => I1.hok.fresh hc⟩
      · simp only [List.mem_cons, List.not_mem_nil, or_false] at hp
        rcases hp with rfl | rfl | rfl | rfl | rfl
        · exact Nat.le_add_right _ _
        · exact Nat.le_add_right _ _
        · exact Nat.le_add_right _ _
        · exact Nat.le_refl _
        · exact Nat.le_add_right _ _
      · simp only [List.mem_cons, List.not_mem_nil, or_false] at hp
        rcases hp with rfl | rfl | rfl | rfl | rfl
        · exact ⟨hz, ⟨_, hz⟩, fun g1 g2 x y => y _ x⟩
        · exact ⟨hTI, ⟨_, hTI⟩, fun g1 g2 x y => y _ x⟩
        · exact ⟨hTO, ⟨_, hTO⟩, fun g1 g2 x y => y _ x⟩
        · exact ⟨IterAt.new h1, ⟨_, h1⟩, fun g1 g2 x y => x.at y⟩
        · exact ⟨IterAt.new h2, ⟨_, h2⟩, fun g1 g2 x y => x.at y⟩
def iZipVar (K : PySem.W.Frag) (n k : Nat) : TI := fun σ H R => ∃ (t1 t2 : Bool) (a b N : Addr) (H0 : Hp), σ[k]? = some (some (.ref (N + 4))) ∧ H = layE H0 (zipCells t1 t2 a b N) ∧ n ≤ N ∧ a < N ∧ b < N ∧ (∀ c, N ≤ c → H0 c = none) ∧ R (ItX K t1 t2 a b) H0
theorem pi_zipVar {X : Cx} {elts : List Expr} {kk k : Nat} {tpos : Pos} {x : Str} {p : Pos} (hN : X.N[k]? = some x) (hv : Vis X.env.scope x) (hd : (x == ("__debug__" : Str)) = false := by decide) (hcd : (x == ("__classdict__" : Str)) = false := by decide) :
    PI X (.Tuple elts kk tpos) (.Name x p) (iZipVar X.K X.s_0.heap.objs.size k) := by
  refine ⟨fun pins s σ H R I h => ?_⟩
  obtain ⟨t1, t2, a, b, N, H0, hs, eH, hn, la, lb, fr, q⟩ := h
  subst eH
  refine thn ((pe_var (pos := p) (i := k) hN hv hd hcd).run pins s σ _ (fun v H1 => v = .ref (N + 4) ∧ H1 = layE H0 (zipCells t1 t2 a b N)) I ⟨.ref (N + 4), hs, rfl, rfl⟩) fun u s1 ⟨v, H1, I1, r1, ev, eH⟩ => ?_
  subst ev
  rw [eH] at I1
  cases r1
  have at' : ∀ p ∈ zipCells t1 t2 a b N, p.2 s1.heap := fun p hp => by
    rcases layE_cases H0 (zipCells t1 t2 a b N) p.1 with ⟨h1, _⟩ | ⟨φ, h1, h2⟩
    · exact absurd rfl (h1 p hp)
    · have e : φ = p.2 := by
        simp only [List.mem_cons, List.not_mem_nil, or_false] at hp h1
        rcases hp with rfl | rfl | rfl | rfl | rfl <;> rcases h1 with h1 | h1 | h1 | h1 | h1 <;> first
          | exact (Prod.mk.inj h1).2
          | (exfalso; have := (Prod.mk.inj h1).1; simp only at this; revert this; show ¬ ((_ : Nat) = _); omega)
      have := (I1.hok _ _ h2)
      obtain ⟨w, _⟩ := this
      rw [e] at w
      exact w
  have nd : ((zipCells t1 t2 a b N).map (·.1)).Nodup := by
    simp only [List.map_cons, List.map_nil, List.nodup_cons, List.mem_cons, List.not_mem_nil, or_false, not_or, not_false_eq_true, List.nodup_nil, and_true]
    refine ⟨⟨?_, ?_, ?_, ?_⟩, ⟨?_, ?_, ?_⟩, ⟨?_, ?_⟩, ?_⟩ <;> (show ¬ ((_ : Nat) = _); omega)
  have hz := at' _ (List.mem_cons_self ..)
  have hTI := at' _ (List.mem_cons_of_mem _ (List.mem_cons_self ..))
  have hTO := at' _ (List.mem_cons_of_mem _ (List.mem_cons_of_mem _ (List.mem_cons_self ..)))
  have h1 := at' _ (List.mem_cons_of_mem _ (List.mem_cons_of_mem _ (List.mem_cons_of_mem _ (List.mem_cons_self ..))))
  have h2 := at' _ (List.mem_cons_of_mem _ (List.mem_cons_of_mem _ (List.mem_cons_of_mem _ (List.mem_cons_of_mem _ (List.mem_cons_self ..)))))
  have hge : ∀ p ∈ zipCells t1 t2 a b N, N ≤ p.1 := fun p hp => by
    simp only [List.mem_cons, List.not_mem_nil, or_false] at hp
    rcases hp with rfl | rfl | rfl | rfl | rfl
    · exact Nat.le_add_right _ _
    · exact Nat.le_add_right _ _
    · exact Nat.le_add_right _ _
    · exact Nat.le_refl _
    · exact Nat.le_add_right _ _
  have I2 := inv_drops (H := H0) nd (fun p hp => fr _ (hge p hp)) I1
  have fp := fp_drops I1 (fun p hp => Nat.le_trans hn (hge p hp)) (fun p hp => fr _ (hge p hp))
  refine wpAny_pyIter_zip hz ?_
  refine ⟨N + 4, [N + 4, N + 2, N + 3, N, N + 1], _, _, H0, rfl, I2, turnX (t1 := t1) (t2 := t2) (zip_sep2 (N := N) (fp1 := [a]) (fp2 := [b]) (by simpa using la) (by simpa using lb)) (Nat.ne_of_lt la) (Nat.ne_of_lt (Nat.lt_succ_of_lt lb)), ⟨hz, hTI, ⟨_, _, hTO⟩, h1, h2⟩, fun c hc => ?_, q⟩
  simp only [List.mem_cons, List.not_mem_nil, or_false] at hc
  rcases hc with rfl | rfl | rfl | rfl | rfl
  · exact fp _ (List.mem_cons_self ..)
  · exact fp _ (List.mem_cons_of_mem _ (List.mem_cons_self ..))
  · exact fp _ (List.mem_cons_of_mem _ (List.mem_cons_of_mem _ (List.mem_cons_self ..)))
  · exact fp _ (List.mem_cons_of_mem _ (List.mem_cons_of_mem _ (List.mem_cons_of_mem _ (List.mem_cons_self ..))))
  · exact fp _ (List.mem_cons_of_mem _ (List.mem_cons_of_mem _ (List.mem_cons_of_mem _ (List.mem_cons_of_mem _ (List.mem_cons_self ..)))))
end Dl
set_option Elab.async false
set_option linter.all false
set_option maxRecDepth 100000
namespace Dl
open PySem PySem.Spec PyProof.Rows L2

/-! ### x = zip(a, b), then return f([.. for .. in x]) -/
def sZr (i : Nat) (fz : Fa) (op : D → Option D) (t : Fg) (c : Ft) (f : Fe) (vs : List Nat) : Fs := fun g => (fz g).bind fun p => match p.2[i]? with
  | some .no => sRet (vE (eUn op (eV (vLc (fun _ => some (p.1, p.2)) t c f vs)))) p.2
  | _ => none
theorem noSet {g : G} {i : Nat} (h : g[i]? = some .no) : g.set i .no = g := by
  obtain ⟨hi, e⟩ := List.getElem?_eq_some_iff.mp h
  rw [← e, List.set_getElem_self]
section
variable {X : Cx}
theorem zr_core {K : PySem.W.Frag} {r : List V → Hp → VK → Prop} {op : D → Option D} (ok : C1Ok K r op) {wi : TI} {t : Fg} {ws : List Nat} {c : Ft} {f : Fe} {vs : List Nat} (hw : ∀ i ∈ ws, i ∈ vs) {s : Sg} {F H : Hp} {g : G} {ds : List D} {o : Out} {D0 : Ends}
    (hwi : ∀ R : It → Hp → Prop, (∀ J F' H', Rep K F' g s H' → Stp (OwnAt g s) F H F' H' → Mo g g → Itd K F' J ds → R J H') → wi s H R) (rp : Rep K F g s H)
    (e : sRet (vE (eUn op (eV (vLc (fun _ => some (ds, g)) t c f vs)))) g = some o) (k : endS K F g s H D0 o) : tRet (tCB r (tCons (tLc wi (tG K t ws) (tT K c) (tD K f) vs) tNil)) D0 s H := by
  cases q : vLc (fun _ => some (ds, g)) t c f vs g with
  | none =>
    unfold sRet vE eUn eV at e
    rw [q] at e; cases e
  | some p =>
    obtain ⟨x, g'⟩ := p
    have hx : ∃ es, x = .own none es := by
      unfold vLc at q
      simp only [Option.bind_some] at q
      split at q
      · cases q2 : lcGo t c f vs ds (wipeG g vs) with
        | none => rw [q2] at q; cases q
        | some p2 =>
          rw [q2] at q
          simp only [Option.bind_some] at q
          split at q
          · cases q; exact ⟨_, rfl⟩
          · cases q
      · cases q
    obtain ⟨es, rfl⟩ := hx
    have e2 : (op (.list es)).bind (fun d => some (Out.ret (.v d) g')) = some o := by
      unfold sRet vE eUn eV at e
      rw [q] at e
      cases q3 : op (.list es) with
      | none => simp [dat, q3] at e
      | some d => simpa [dat, q3] using e
    cases q3 : op (.list es) with
    | none => rw [q3] at e2; cases e2
    | some d =>
      rw [q3] at e2
      cases e2
      show tLc wi (tG K t ws) (tT K c) (tD K f) vs s H fun x H1 => r [x] H1 D0.rt
      refine tLc_ofX hw hwi rp q fun v F1 H1 hv hn r1 t1 m1 => ?_
      obtain ⟨a, xs, ea, fa, ha, hp, _⟩ := hv
      cases ea
      refine ok (.ref a) (.list es) d F1 H1 _ r1.fh (.inr ⟨es, a, xs, rfl, rfl, ha, hp⟩) q3 fun v F2 H2 p2 fh t2 => ?_
      exact k v F2 s H2 ⟨v, rfl, p2⟩ (fun z => nomatch z) (fun _ _ z => nomatch z) (Tr.of (r1.stepN t2 fh) (t1.andN t2) m1)
/-- the two rows, f a type (tuple) -/
theorem dss_zipRetT (i : Nat) {x y : Str} {id : String} {px pz p1 p2 pt p3 rpos lpos spos : Pos} {a b elt : Expr} {elts : List Expr} {kk : Nat} {tp : Pos} {ifs : List Expr} {scope : Scope} (own : List (Str × Nat)) {r : List V → Hp → VK → Prop} {op : D → Option D} {fA : Fa} {t : Fg} {ws : List Nat} {c : Ft} {f : Fe}
    (hcr : CallR X (.type id) r) (ok1 : C1Ok X.K r op) (hgy : Gl X y) (hmy : X.mg y = none) (hvy : bootBuiltins y = some (.type id)) (hc : X.calm = true) (hN : X.N.Nodup) (hg0 : Gl X "zip") (hm0 : X.mg "zip" = none) (ha : DA X [a, b] fA) (ok : blkC X.N X.env.scope scope own = true)
    (hg : ∀ st H C cl fp, DG (Blk X scope st H C cl fp) (.Tuple elts kk tp) t ws) (ht : ∀ st H C cl fp, DCs (Blk X scope st H C cl fp) ifs c) (he : ∀ st H C cl fp, DE (Blk X scope st H C cl fp) elt f) (hi : X.N[i]? = some x := by rfl) (hx : Loc X.env.scope x := by first | exact Or.inl rfl | exact Or.inr rfl)
    (hv : Vis X.env.scope x := by first | exact Or.inl rfl | exact Or.inr (Or.inl rfl) | exact Or.inr (Or.inr rfl)) (hf : X.fn x = true ∨ X.env.scope.names.lookup x = some .local := by first | exact .inl rfl | exact .inr rfl | assumption) (hd : (x == ("__debug__" : Str)) = false := by decide) (hcd : (x == ("__classdict__" : Str)) = false := by decide)
    (hw : ∀ i ∈ ws, i ∈ own.map (·.2) := by decide) (hfs : ∀ z, foldedSetIterable (.Name x px) X.env z = pure z := by intro _; rfl) (hsw : swapsWith (.Call (.Name "zip" pz) [a, b] [] p1) (some (.Name x p2)) spos.line X.env = pure false := by rfl)
    (hs : starEach [a, b] X.env = (false, eval a X.env) :: starEach [b] X.env := by rfl) (hpl : (backTo p1 (starEach [b] X.env)).any (·.1) = false := by rfl) (hny : y ≠ "__name__" := by decide) (hdy : (y == ("__debug__" : Str)) = false := by decide)
    (hs2 : starEach [.ListComp elt [⟨.Tuple elts kk tp, .Name x px, ifs, 0⟩] scope lpos] X.env = (false, eval (.ListComp elt [⟨.Tuple elts kk tp, .Name x px, ifs, 0⟩] scope lpos) X.env) :: starEach [] X.env := by rfl) (hpl2 : (backTo p3 (starEach [] X.env)).any (·.1) = false := by rfl) :
    DSs X [.Assign [.Name x p2] (.Call (.Name "zip" pz) [a, b] [] p1) spos, .Return (some (.Call (.Name y pt) [.ListComp elt [⟨.Tuple elts kk tp, .Name x px, ifs, 0⟩] scope lpos] [] p3)) rpos] (sZr i (iZipU fA) op t c f (own.map (·.2))) :=
  pssMono (pss_cons (ps_set hN hi hx (pe_zipO hg0 hm0 ha hs hpl) hsw hf) (pss_one (ps_ret (pe_callTy hcr hgy hmy hvy (pa_cons (pe_lc (g := tG X.K t ws) (tt := tT X.K c) (te := tD X.K f) hc hN (pi_zipVar hi hv hd hcd) (blkOk_by ok) hg ht he hfs) pa_nil hs2) hny hdy hs2 hpl2)))) fun D0 s H ⟨F, g, o, rp, e, k⟩ => by
    unfold sZr at e
    cases q : iZipU fA g with
    | none => rw [q] at e; cases e
    | some p =>
      obtain ⟨ds, g1⟩ := p
      rw [q] at e
      simp only [Option.bind_some] at e
      split at e
      · rename_i hno
        unfold iZipU at q
        split at q
        · rename_i d1 d2 g2 qa
          cases q1 : seqD d1 with
          | none => rw [q1] at q; cases q
          | some xs =>
            rw [q1] at q
            have q : (seqD d2).map _ = some (ds, g1) := q
            cases q2 : seqD d2 with
            | none => rw [q2] at q; cases q
            | some ys =>
              rw [q2] at q; cases q
              refine ⟨F, g, _, _, rp, qa, fun vs F1 H1 p1 r1 t1 m1 => ?_⟩
              obtain ⟨v, w, rfl, h1, h2⟩ := dpTwo p1
              obtain ⟨ta, pa, us, rfl, sa, da⟩ := sqOf h1 r1.fh q1
              obtain ⟨tb, pb, ws', rfl, sb, db⟩ := sqOf h2 r1.fh q2
              refine ⟨ta, tb, pa, pb, us, ws', rfl, sa _ r1.fh, sb _ r1.fh, fun N hn la lb fr => ?_⟩
              have hlen : i < s.length := by
                rw [← r1.len]
                exact (List.getElem?_eq_some_iff.mp hno).1
              have rep2 : Rep X.K F1 g1 (s.set i (some (.ref (N + 4)))) H1 := by
                have := r1.put i .no (some (.ref (N + 4))) trivial (fun _ _ _ z => nomatch z)
                rwa [noSet hno] at this
              have tr2 : Tr X.K F g s H F1 g1 (s.set i (some (.ref (N + 4)))) H1 := (Tr.of r1 t1 m1).trans ⟨rep2, Stp.refl, fun b hb => by
                have hb : OwnAt (g1.set i .no) (s.set i (some (.ref (N + 4)))) b := by rw [noSet hno]; exact hb
                rcases ownIn hb r1.len with z | ⟨_, _, z, _⟩
                · exact .inl z
                · cases z⟩
              have hz := zr_core (wi := fun _ H' R => R (ItX X.K ta tb pa pb) H') (F := F1) (H := H1) (g := g1) (s := s.set i (some (.ref (N + 4)))) ok1 hw (fun R hR => hR _ F1 H1 rep2 Stp.refl Mo.refl (itdZip rfl da db (fun H q => ⟨sa H q, sb H q⟩) (walkX rfl))) rep2 e (k.back tr2)
              exact ⟨ta, tb, pa, pb, N, H1, List.getElem?_set_self hlen, rfl, hn, la, lb, fr, hz⟩
        · cases q
      · cases e
end
end Dl
set_option Elab.async false
set_option linter.all false
set_option maxRecDepth 100000
namespace Dl
open PySem PySem.Spec PyProof.Rows L2
variable {X : Cx}

/-! ### list(range(a)), tuple(range(a)) -/
def rg1 : D → Option (List D)
  | .int j => if -(2 ^ 62) ≤ j ∧ j ≤ 1000000 then some (rangeL 0 j.toNat) else none
  | _ => none
theorem rgV_dp {K : PySem.W.Frag} {F : Hp} {j : Int} : DpAll K F (rgV 0 j) (rangeL 0 j.toNat) := by
  unfold rgV rangeL
  rw [Int.sub_zero]
  have : ∀ l : List Nat, DpAll K F (l.map fun (i : Nat) => V.int (0 + (i : Nat))) (l.map fun (i : Nat) => PyData.int (0 + (i : Nat))) := fun l => by
    induction l with
    | nil => exact .nil
    | cons a r ih => exact .cons (.int _) ih
  exact this _
theorem rg1_inv {d : D} {ds : List D} (h : rg1 d = some ds) : ∃ j, d = .int j ∧ RgOk 0 j ∧ ds = rangeL 0 j.toNat := by
  unfold rg1 at h
  split at h
  · rename_i j
    split at h
    · rename_i hj
      cases h
      refine ⟨j, rfl, ⟨by omega, by omega, hj.1, by omega, by omega⟩, rfl⟩
    · cases h
  · cases h
theorem dv_listRg {a : Expr} {f : Fe} {p pr pos pos2 : Pos} (hc : X.calm = true) (hg : Gl X "list") (hm : X.mg "list" = none) (hg2 : Gl X "range") (hm2 : X.mg "range" = none) (ha : DE X a f) (na : starEach [a] X.env = (false, eval a X.env) :: starEach [] X.env := by rfl)
    (na2 : starEach [.Call (.Name "range" pr) [a] [] pos2] X.env = (false, eval (.Call (.Name "range" pr) [a] [] pos2) X.env) :: starEach [] X.env := by rfl) : DV X (.Call (.Name "list" p) [.Call (.Name "range" pr) [a] [] pos2] [] pos) (v1 rg1 f) :=
  peMono (pe_listRg hc hg hm (prg_1 hg2 hm2 ha na) na2) fun s H Q ⟨F, g, x, g', rp, e, k⟩ => by
    unfold v1 at e
    cases q : f g with
    | none => rw [q] at e; cases e
    | some pp =>
      obtain ⟨d1, g1⟩ := pp
      rw [q] at e
      have e : (rg1 d1).map _ = some (x, g') := e
      cases q2 : rg1 d1 with
      | none => rw [q2] at e; cases e
      | some ds =>
        rw [q2] at e; cases e
        obtain ⟨j, rfl, hj, rfl⟩ := rg1_inv q2
        exact ⟨F, g, _, _, rp, q, fun v F1 H1 p1 r1 t1 m1 => ⟨j, intOf p1, hj, newLst r1 rgV_dp t1 m1 k⟩⟩
theorem de_tupRg {a : Expr} {f : Fe} {p pr pos pos2 : Pos} (hc : X.calm = true) (hg : Gl X "tuple") (hm : X.mg "tuple" = none) (hg2 : Gl X "range") (hm2 : X.mg "range" = none) (ha : DE X a f) (na : starEach [a] X.env = (false, eval a X.env) :: starEach [] X.env := by rfl)
    (na2 : starEach [.Call (.Name "range" pr) [a] [] pos2] X.env = (false, eval (.Call (.Name "range" pr) [a] [] pos2) X.env) :: starEach [] X.env := by rfl) : DE X (.Call (.Name "tuple" p) [.Call (.Name "range" pr) [a] [] pos2] [] pos) (eUn (fun d => (rg1 d).map .tuple) f) :=
  peMono (pe_tupRg hc hg hm (prg_1 hg2 hm2 ha na) na2) fun s H Q ⟨F, g, d, g', rp, e, k⟩ => by
    obtain ⟨d1, e1, e2⟩ := eUn_inv e
    cases q2 : rg1 d1 with
    | none => rw [q2] at e2; cases e2
    | some ds =>
      rw [q2] at e2; cases e2
      obtain ⟨j, rfl, hj, rfl⟩ := rg1_inv q2
      refine ⟨F, g, _, _, rp, e1, fun v F1 H1 p1 r1 t1 m1 => ⟨j, intOf p1, hj, ?_⟩⟩
      exact newTup r1.fh rgV_dp fun v F' H' hv fh st => k v F' H' hv (r1.stepN st fh) (t1.andN st) m1

/-! ### min, max of two ints -/
def eInt2 (op : Int → Int → Int) (f : Fa) : Fe := fun g => match f g with
  | some ([.int i, .int j], g') => some (.int (op i j), g')
  | _ => none
def min2 (i j : Int) : Int := if j < i then j else i
def max2 (i j : Int) : Int := if j > i then j else i
theorem de_min2 {a b : Expr} {f : Fa} {p pos : Pos} (hc : X.calm = true) (hg : Gl X "min") (hm : X.mg "min" = none) (ha : DA X [a, b] f) (he : starEach [a, b] X.env = (false, eval a X.env) :: starEach [b] X.env := by rfl) (hpl : (backTo pos (starEach [b] X.env)).any (·.1) = false := by rfl) :
    DE X (.Call (.Name "min" p) [a, b] [] pos) (eInt2 min2 f) := peMono (pe_callB (call_min2 hc) hg hm (by decide +kernel) ha (by decide) (by decide) he hpl) fun s H Q ⟨F, g, d, g', rp, e, k⟩ => by
  unfold eInt2 at e
  split at e
  · rename_i i j g1 q
    cases e
    exact ⟨F, g, _, _, rp, q, fun vs F1 H1 p1 r1 t1 m1 => ⟨i, j, dp2 p1, k _ F1 H1 (.int _) r1 t1 m1⟩⟩
  · cases e
theorem de_max2 {a b : Expr} {f : Fa} {p pos : Pos} (hc : X.calm = true) (hg : Gl X "max") (hm : X.mg "max" = none) (ha : DA X [a, b] f) (he : starEach [a, b] X.env = (false, eval a X.env) :: starEach [b] X.env := by rfl) (hpl : (backTo pos (starEach [b] X.env)).any (·.1) = false := by rfl) :
    DE X (.Call (.Name "max" p) [a, b] [] pos) (eInt2 max2 f) := peMono (pe_callB (call_max2 hc) hg hm (by decide +kernel) ha (by decide) (by decide) he hpl) fun s H Q ⟨F, g, d, g', rp, e, k⟩ => by
  unfold eInt2 at e
  split at e
  · rename_i i j g1 q
    cases e
    exact ⟨F, g, _, _, rp, q, fun vs F1 H1 p1 r1 t1 m1 => ⟨i, j, dp2 p1, k _ F1 H1 (.int _) r1 t1 m1⟩⟩
  · cases e

/-! ### l.extend(a new list) -/
def eExt (i : Nat) (f : Fv) : Fe := fun g => (ownD g[i]?).bind fun _ => (f g).bind fun q => match q.2[i]?, q.1 with
  | some (.own t ds), .own none es => if ds.length + es.length ≤ 1000000 then some (.none, q.2.set i (.own t (ds ++ es))) else none
  | _, _ => none
theorem de_ext (i : Nat) {x : Str} {a : Expr} {f : Fv} {pos p1 p2 : Pos} (he : DV X a f) (hN : X.N[i]? = some x := by rfl) (hv : Vis X.env.scope x := by first | exact Or.inl rfl | exact Or.inr (Or.inl rfl) | exact Or.inr (Or.inr rfl)) (hd : (x == ("__debug__" : Str)) = false := by decide)
    (hcd : (x == ("__classdict__" : Str)) = false := by decide) (hbase : attributeBase (.Name x p1) "extend" X.env (eval (.Name x p1) X.env) = eval (.Name x p1) X.env := by rfl)
    (hfew : ((backTo pos (starEach [a] X.env)).all (fun x => !x.1) && (backToKw pos (keywordEach [] X.env)).all (fun x => x.1.isSome)
      && decide ([a].length + ([] : List Keyword).length + (if ([] : List Keyword).isEmpty then 0 else 1) < 30)) = true := by rfl)
    (hline : (p2.endLine == pos.line) = true := by rfl) (hs : starEach [a] X.env = (false, eval a X.env) :: starEach [] X.env := by rfl) (hplain : (backTo pos (starEach [] X.env)).any (·.1) = false := by rfl) :
    DE X (.Call (.Attribute (.Name x p1) "extend" p2) [a] [] pos) (eExt i f) :=
  peMono (pe_bm PySem.F.plainAttrs_list PySem.F.slot_list_extend PySem.F.type_list_extend mt_extend (pe_var hN hv hd hcd) (pa_cons he pa_nil hs) hbase hfew hline hs hplain) fun s H Q ⟨F, g, d, g', r0, e, k⟩ => by
    unfold eExt at e
    cases q0 : ownD g[i]? with
    | none => rw [q0] at e; cases e
    | some d0 =>
      rw [q0] at e
      have e : (f g).bind _ = some (d, g') := e
      cases q2 : f g with
      | none => rw [q2] at e; cases e
      | some p2 =>
        obtain ⟨dj, g2⟩ := p2
        rw [q2] at e
        simp only [Option.bind_some] at e
        split at e
        · rename_i tg ds es hg
          split at e
          · rename_i hl
            cases e
            have hw : ∃ w xs, s[i]? = some (some (.ref w)) ∧ H w = some (.lst xs) := by
              unfold ownD at q0
              split at q0
              · rename_i t0 ds0 hx0
                obtain ⟨o, ho, a, xs, ea, _, ha, _⟩ := r0.get hx0
                subst ea
                exact ⟨a, xs, ho, ha⟩
              · cases q0
            obtain ⟨w, xs0, hw, hxs0⟩ := hw
            refine ⟨.ref w, hw, .inl ⟨rfl, _, SqL.of hxs0⟩, F, g, _, g2, r0, q2, fun vj F2 H2 hpj _ r2 t2 m2 => ?_⟩
            obtain ⟨b, ys, eb, fb, hb, hys, _⟩ := hpj
            cases eb
            obtain ⟨o, ho, a, xs, eo, fa, hal, hps, ht⟩ := r2.get hg
            rw [hw] at ho; cases ho; cases eo
            have tr := r2.turn hg hw (dpApp hps hys)
            show rExtend _ _ _ _
            exact ⟨w, b, xs, ys, rfl, rfl, hal, hb, by rw [dpLen hps, dpLen hys]; exact Nat.le_trans hl million, k .non F2 _ .non tr.rep (t2.two m2 tr.stp) (m2.trans (moSet hg))⟩
          · cases e
        · cases e
/-! ### l.insert(i, e) -/
def eIns (i : Nat) (f : Fa) : Fe := fun g => (ownD g[i]?).bind fun _ => (f g).bind fun q => match q.2[i]?, q.1 with
  | some (.own t ds), [.int k, d] => if ds.length < 1000000 ∧ 0 ≤ k ∧ k ≤ 1000000 then some (.none, q.2.set i (.own t (ds.take k.toNat ++ [d] ++ ds.drop k.toNat))) else none
  | _, _ => none
theorem de_ins (i : Nat) {x : Str} {a b : Expr} {f : Fa} {pos p1 p2 : Pos} (he : DA X [a, b] f) (hN : X.N[i]? = some x := by rfl) (hv : Vis X.env.scope x := by first | exact Or.inl rfl | exact Or.inr (Or.inl rfl) | exact Or.inr (Or.inr rfl)) (hd : (x == ("__debug__" : Str)) = false := by decide)
    (hcd : (x == ("__classdict__" : Str)) = false := by decide) (hbase : attributeBase (.Name x p1) "insert" X.env (eval (.Name x p1) X.env) = eval (.Name x p1) X.env := by rfl)
    (hfew : ((backTo pos (starEach [a, b] X.env)).all (fun x => !x.1) && (backToKw pos (keywordEach [] X.env)).all (fun x => x.1.isSome)
      && decide ([a, b].length + ([] : List Keyword).length + (if ([] : List Keyword).isEmpty then 0 else 1) < 30)) = true := by rfl)
    (hline : (p2.endLine == pos.line) = true := by rfl) (hs : starEach [a, b] X.env = (false, eval a X.env) :: starEach [b] X.env := by rfl) (hplain : (backTo pos (starEach [b] X.env)).any (·.1) = false := by rfl) :
    DE X (.Call (.Attribute (.Name x p1) "insert" p2) [a, b] [] pos) (eIns i f) :=
  peMono (pe_bm PySem.F.plainAttrs_list PySem.F.slot_list_insert PySem.F.type_list_insert mt_insert (pe_var hN hv hd hcd) he hbase hfew hline hs hplain) fun s H Q ⟨F, g, d, g', r0, e, k⟩ => by
    unfold eIns at e
    cases q0 : ownD g[i]? with
    | none => rw [q0] at e; cases e
    | some d0 =>
      rw [q0] at e
      have e : (f g).bind _ = some (d, g') := e
      cases q2 : f g with
      | none => rw [q2] at e; cases e
      | some p2 =>
        obtain ⟨dj, g2⟩ := p2
        rw [q2] at e
        simp only [Option.bind_some] at e
        split at e
        · rename_i tg ds kk dd hg
          split at e
          · rename_i hl
            cases e
            have hw : ∃ w xs, s[i]? = some (some (.ref w)) ∧ H w = some (.lst xs) := by
              unfold ownD at q0
              split at q0
              · rename_i t0 ds0 hx0
                obtain ⟨o, ho, a, xs, ea, _, ha, _⟩ := r0.get hx0
                subst ea
                exact ⟨a, xs, ho, ha⟩
              · cases q0
            obtain ⟨w, xs0, hw, hxs0⟩ := hw
            refine ⟨.ref w, hw, .inl ⟨rfl, _, SqL.of hxs0⟩, F, g, _, g2, r0, q2, fun vs F2 H2 hps2 r2 t2 m2 => ?_⟩
            obtain ⟨v1, v2, rfl, h1, h2⟩ := dpTwo hps2
            obtain ⟨o, ho, a, xs, eo, fa, hal, hps, ht⟩ := r2.get hg
            rw [hw] at ho; cases ho; cases eo
            have tr := r2.turn hg hw (dpApp (dpApp (dpTake kk.toNat hps) (.cons h2 .nil)) (dpDrop kk.toNat hps))
            exact ⟨w, xs, kk, v2, rfl, by rw [intOf h1], hal, by rw [dpLen hps]; exact Nat.lt_of_lt_of_le hl.1 million, hl.2.1, by omega, k .non F2 _ .non tr.rep (t2.two m2 tr.stp) (m2.trans (moSet hg))⟩
          · cases e
        · cases e
end Dl
set_option Elab.async false
set_option linter.all false
set_option maxRecDepth 100000
namespace Dl
open PySem PySem.Spec PyProof.Rows L2
variable {X : Cx}

/-! ### a def that calls itself: nothing is promised at depth nought -/
theorem FnG.none {P : Program} {w : World} {K : PySem.W.Frag} {mg : Str → Option Value} {base : Heap} {k : Nat} {f : Addr} {fd : FuncData} {ps : List Str} {n : Nat} (hn : ps.length = n) : FnG P w K mg base k f fd ps (spP K n fun _ => Option.none) :=
  ⟨fun vs H Q h => by rw [hn]; exact spP_len vs H Q h, fun A outer st H args us vs Q _ _ _ _ _ h => by
    obtain ⟨F, ds, x, _, _, _, e, _⟩ := h
    cases e⟩
/-- a def as the head tells it, its place named otherwise than the def -/
structure Dk (K : PySem.W.Frag) (mg : Str → Option Value) (y x : Str) (sd : Stmt) (ps : List Str) : Type where
  f : Addr
  fd : FuncData
  F : Fun K x x sd f fd
  g : mg y = some (.ref f)
  b : L2.Binds K fd ps []
  bA : ∀ (s : Shared) (us : List Value), us.length = ps.length → BindsTo s fd ⟨us, []⟩ (ps.zip us)
def Dk.mk' {K : PySem.W.Frag} {mg : Str → Option Value} {y x : Str} {sd : Stmt} {ps : List Str} {f : Addr} (fd : {fd : FuncData // FunD K x x (defArgs sd) (defBody sd) (defScope sd) [] [] f fd}) (g : mg y = some (.ref f))
    (h : ∀ (kV doc pm : Value) (an : Option Addr) (cdv ct : Value) (us : List Value), us.length = ps.length → bindArgs (PySem.W.fnOf x x (defArgs sd) (defBody sd) (defScope sd) .none kV doc pm an cdv ct) ⟨us, []⟩ = pure (ps.zip us)) : Dk K mg y x sd ps :=
  ⟨f, fd.1, fun_of fd.2, g, fd.2.bindsN h, fun s us e => fd.2.bindsA h s us e⟩

/-! ### a, b, c = e1, e2, e3 of data -/
def sPar3 (i j l : Nat) (f : Fa) : Fs := fun g => match f g with
  | some ([x, y, z], g') => some (.nx (((g'.set i (.v x)).set j (.v y)).set l (.v z)))
  | _ => none
theorem ds_par3 (i j l : Nat) {x y z : Str} {a b c : Expr} {f : Fa} {px py pz pt pos : Pos} {kt k2 pt2} (hc : X.calm = true) (hN : X.N.Nodup) (ha : DA X [a, b, c] f) (hi : X.N[i]? = some x := by rfl) (hj : X.N[j]? = some y := by rfl) (hl : X.N[l]? = some z := by rfl)
    (hij : i ≠ j := by decide) (hil : i ≠ l := by decide) (hjl : j ≠ l := by decide)
    (hx : X.env.scope.names.lookup x = some .local := by rfl) (hy : X.env.scope.names.lookup y = some .local := by rfl) (hz : X.env.scope.names.lookup z = some .local := by rfl)
    (hw : swappedStores [.Tuple [.Name x px, .Name y py, .Name z pz] kt pt] (.Tuple [a, b, c] k2 pt2) X.env = pure (some [x, y, z]) := by rfl)
    (hs : swapsWithSole [.Tuple [.Name x px, .Name y py, .Name z pz] kt pt] (.Tuple [a, b, c] k2 pt2) pos.line X.env = pure false := by rfl) :
    DS X (.Assign [.Tuple [.Name x px, .Name y py, .Name z pz] kt pt] (.Tuple [a, b, c] k2 pt2) pos) (sPar3 i j l f) := psMono (ps_par3 hc hN hi hj hl hij hil hjl hx hy hz ha hw hs) fun D0 s H ⟨F, g, o, r, e, k⟩ => by
  unfold sPar3 at e
  split at e
  · rename_i d1 d2 d3 g1 q
    cases e
    refine ⟨F, g, _, g1, r, q, fun vs F1 H1 p1 r1 t1 m1 => ?_⟩
    cases p1 with
    | cons h1 p2 =>
      obtain ⟨v2, v3, rfl, h2, h3⟩ := dpTwo p2
      refine ⟨_, _, _, rfl, ?_⟩
      have t := Tr.of r1 t1 m1
      have a1 := t.trans (t.rep.setV i h1)
      have a2 := a1.trans (a1.rep.setV j h2)
      have a3 := a2.trans (a2.rep.setV l h3)
      exact k F1 _ H1 a3
  · cases e

/-! ### is, is not of bools -/
def isBD : D → D → Option D
  | .bool a, .bool b => some (.bool (decide (a = b)))
  | _, _ => none
def notBD : D → D → Option D
  | .bool a, .bool b => some (.bool (!decide (a = b)))
  | _, _ => none
theorem ok_isB : BinOk X.K rIsB isBD := fun x y d1 d2 d F H Q fh p1 p2 e k => by
  unfold isBD at e
  split at e
  · cases e
    cases p1; cases p2
    exact ⟨_, _, rfl, rfl, fin0 fh (.bl _) k⟩
  · cases e
theorem ok_notB : BinOk X.K rNotB notBD := fun x y d1 d2 d F H Q fh p1 p2 e k => by
  unfold notBD at e
  split at e
  · cases e
    cases p1; cases p2
    exact ⟨_, _, rfl, rfl, fin0 fh (.bl _) k⟩
  · cases e
theorem isb_isB : IsBo isBD := fun d1 d2 d e => by
  unfold isBD at e
  split at e
  · cases e; exact ⟨_, rfl⟩
  · cases e
theorem isb_notB : IsBo notBD := fun d1 d2 d e => by
  unfold notBD at e
  split at e
  · cases e; exact ⟨_, rfl⟩
  · cases e
section
variable {a b : Expr} {pos : Pos} {fa fb : Fe}
theorem de_isBl (ha : DE X a fa) (hb : DE X b fb) : DE X (.Compare a [.Is] [b] pos) (eBin isBD fa fb) := de_cmp op_isBl ok_isB (nomark _) ha hb
theorem de_notBl (ha : DE X a fa) (hb : DE X b fb) : DE X (.Compare a [.IsNot] [b] pos) (eBin notBD fa fb) := de_cmp op_notBl ok_notB (nomark _) ha hb
theorem dt_isBl (ha : DE X a fa) (hb : DE X b fb) : DT X (.Compare a [.Is] [b] pos) (tOf (eBin isBD fa fb)) := dt_cmp op_isBl ok_isB isb_isB (nomark _) ha hb
theorem dt_notBl (ha : DE X a fa) (hb : DE X b fb) : DT X (.Compare a [.IsNot] [b] pos) (tOf (eBin notBD fa fb)) := dt_cmp op_notBl ok_notB isb_notB (nomark _) ha hb
end
end Dl
set_option Elab.async false
set_option linter.all false
set_option maxRecDepth 100000
namespace Dl
open PySem PySem.Spec PyProof.Rows L2

/-! ### the next pair of a zip whose last pair is still held -/
section
variable {prog : Program} {w : World} {A : Around} {E : Value → Shared → Prop} {s : Shared} {z TI TO T i1 i2 : Addr} {fp1 fp2 : List Addr} {n1 n2 i : Nat} {P1 P2 : Nat → Value → Prop} {St1 St2 : Nat → Heap → Prop} {f : Bool} {oT : Obj}
theorem held_item {Q : Value → Shared → Prop} (S : ZipSep2 z TI TO i1 i2 fp1 fp2) (D1 : Draws prog w A i1 fp1 n1 P1 St1) (D2 : Draws prog w A i2 fp2 n2 P2 St2) (hz : IsZipHeld s.heap z TI TO T f) (hT : s.heap.get? T = some oT) (hTI : IsTupOf2 s.heap TI (.ref i1) (.ref i2))
    (st1 : St1 i s.heap) (st2 : St2 i s.heap) (l1 : i < n1) (l2 : i < n2)
    (hQ : ∀ x y h' tk, P1 i x → P2 i y → IsZipHeld h' z TI TO T true → St1 (i + 1) h' → St2 (i + 1) h' → IsTupOf2 h' s.heap.objs.size x y → h'.objs.size = s.heap.objs.size + 1 → (∀ c o, c ≠ z → c ≠ i1 → c ≠ i2 → s.heap.get? c = some o → h'.get? c = some o) → Q (.ref s.heap.objs.size) { s with heap := h', toks := tk }) :
    wpAny (model prog w) A (Builtin.«zip.__next__» ⟨[.ref z], []⟩) (fun fin s' => ∃ v, fin = .done (.ret v) ∧ Q v s') E s := by
  obtain ⟨hp, gg, dd, tk0, os⟩ := s
  show wpAny _ _ (field (.ref z) 2 >>= _) _ _ _
  refine wpAny_bind (wpAny_field hz rfl (x := .bool false) rfl ?_)
  show wpAny _ _ (field (.ref z) 3 >>= _) _ _ _
  refine wpAny_bind (wpAny_field hz rfl (x := .ref TI) rfl ?_)
  refine wpAny_bind (wpAny_seqItems hTI rfl ?_)
  show wpAny _ _ (Builtin.SmallTypes.ownedTupleIsFree (.ref z) >>= _) _ _ _
  refine wpAny_bind (wpAny_tupleHeld_zip hz hT fun ha za sa => ?_)
  replace sa : Heap.SameBut z hp ha := sa
  simp only [Bool.false_eq_true, if_false]
  refine wpAny_bind ?_
  rw [← Array.forIn_toList]
  simp only [List.forIn_cons, List.forIn_nil]
  refine wpAny_bind (wpAny_bind (wpAny_holding ?_))
  show wpAny _ _ (Builtin.SmallTypes.nextOf (.ref i1) >>= _) _ _ _
  refine wpAny_bind (D1.item i _ _ _ l1 (D1.over st1 sa S.zf1) fun x hb tkb px sb1 sb => wpAny_pure ?_)
  replace sb : Heap.SameBut i1 ha hb := sb
  refine wpAny_pure ?_
  refine wpAny_bind (wpAny_bind (wpAny_holding ?_))
  show wpAny _ _ (Builtin.SmallTypes.nextOf (.ref i2) >>= _) _ _ _
  refine wpAny_bind (D2.item i _ _ _ l2 (D2.over (D2.over st2 sa S.zf2) sb S.sep1_2) fun y hc tkc py sc2 sc => wpAny_pure ?_)
  replace sc : Heap.SameBut i2 hb hc := sc
  refine wpAny_pure (wpAny_pure ?_)
  show wpAny _ _ (newTuple [x, y] >>= _) _ _ _
  refine wpAny_bind (wpAny_newTuple ?_)
  have size : hc.objs.size = hp.objs.size := by rw [sc.1, sb.1, sa.1]
  have zc : IsZipHeld hc z TI TO T true := sc.extBut _ _ S.zi2 (sb.extBut _ _ S.zi1 za)
  have keeps : ∀ c o, c ≠ z → c ≠ i1 → c ≠ i2 → hp.get? c = some o → hc.get? c = some o := fun c o a b d e => sc.extBut _ _ d (sb.extBut _ _ b (sa.extBut _ _ a e))
  have t1 : St1 (i + 1) hc := D1.over sb1 sc S.sep2_1
  refine wpAny_pure ⟨_, rfl, ?_⟩
  show Q (.ref hc.objs.size) _
  have pr : IsTupOf2 (hc.push { cls := .type "tuple", data := .seq #[x, y] }) hc.objs.size x y := Heap.get?_push_size _ rfl
  have sz : (hc.push { cls := .type "tuple", data := .seq #[x, y] }).objs.size = hc.objs.size + 1 := Heap.size_push ..
  rw [size] at pr sz ⊢
  exact hQ x y _ _ px py (Heap.get?_push_of_some _ zc) (D1.frame _ _ _ t1 fun b _ o e => Heap.get?_push_of_some _ e) (D2.frame _ _ _ sc2 fun b _ o e => Heap.get?_push_of_some _ e) pr sz fun c o a b d e => Heap.get?_push_of_some _ (keeps c o a b d e)
theorem held_end {Q : Fin → Shared → Prop} (S : ZipSep2 z TI TO i1 i2 fp1 fp2) (D1 : Draws prog w A i1 fp1 n1 P1 St1) (D2 : Draws prog w A i2 fp2 n2 P2 St2) (hz : IsZipHeld s.heap z TI TO T f) (hT : s.heap.get? T = some oT) (hTI : IsTupOf2 s.heap TI (.ref i1) (.ref i2))
    (st1 : St1 i s.heap) (st2 : St2 i s.heap) (l1 : i ≤ n1) (l2 : i ≤ n2) (hend : i = n1 ∨ i = n2)
    (hE : ∀ h' tk e, (∀ c o, c ≠ z → c ≠ i1 → c ≠ i2 → s.heap.get? c = some o → h'.get? c = some o) → (∃ o, h'.get? e = some o ∧ o.cls = .type "StopIteration") → E (.ref e) { s with heap := h', toks := tk }) :
    wpAny (model prog w) A (Builtin.«zip.__next__» ⟨[.ref z], []⟩) Q E s := by
  obtain ⟨hp, gg, dd, tk0, os⟩ := s
  show wpAny _ _ (field (.ref z) 2 >>= _) _ _ _
  refine wpAny_bind (wpAny_field hz rfl (x := .bool false) rfl ?_)
  show wpAny _ _ (field (.ref z) 3 >>= _) _ _ _
  refine wpAny_bind (wpAny_field hz rfl (x := .ref TI) rfl ?_)
  refine wpAny_bind (wpAny_seqItems hTI rfl ?_)
  show wpAny _ _ (Builtin.SmallTypes.ownedTupleIsFree (.ref z) >>= _) _ _ _
  refine wpAny_bind (wpAny_tupleHeld_zip hz hT fun ha za sa => ?_)
  replace sa : Heap.SameBut z hp ha := sa
  simp only [Bool.false_eq_true, if_false]
  refine wpAny_bind ?_
  rw [← Array.forIn_toList]
  simp only [List.forIn_cons, List.forIn_nil]
  refine wpAny_bind (wpAny_bind (wpAny_holding ?_))
  show wpAny _ _ (Builtin.SmallTypes.nextOf (.ref i1) >>= _) _ _ _
  by_cases e1 : i = n1
  · subst e1
    refine wpAny_bind (D1.done _ _ _ (D1.over st1 sa S.zf1) fun hb e sb he => ?_)
    exact hE hb tk0 e (fun c o a b _ x => sb _ _ b (sa.extBut _ _ a x)) he
  · have e2 : i = n2 := hend.resolve_left e1
    subst e2
    refine wpAny_bind (D1.item i _ _ _ (by omega) (D1.over st1 sa S.zf1) fun x hb tkb px sb1 sb => wpAny_pure ?_)
    replace sb : Heap.SameBut i1 ha hb := sb
    refine wpAny_pure ?_
    refine wpAny_bind (wpAny_bind (wpAny_holding ?_))
    show wpAny _ _ (Builtin.SmallTypes.nextOf (.ref i2) >>= _) _ _ _
    refine wpAny_bind (D2.done _ _ _ (D2.over (D2.over st2 sa S.zf2) sb S.sep1_2) fun hc e sc he => ?_)
    exact hE hc tkb e (fun c o a b d x => sc _ _ d (sb.extBut _ _ b (sa.extBut _ _ a x))) he
theorem held_next {Q : Option Value → Shared → Prop} (S : ZipSep2 z TI TO i1 i2 fp1 fp2) (D1 : Draws prog w A.in1 i1 fp1 n1 P1 St1) (D2 : Draws prog w A.in1 i2 fp2 n2 P2 St2) (hz : IsZipHeld s.heap z TI TO T f) (hT : s.heap.get? T = some oT) (hTI : IsTupOf2 s.heap TI (.ref i1) (.ref i2))
    (st1 : St1 i s.heap) (st2 : St2 i s.heap) (l1 : i < n1) (l2 : i < n2)
    (hQ : ∀ x y h' tk, P1 i x → P2 i y → IsZipHeld h' z TI TO T true → St1 (i + 1) h' → St2 (i + 1) h' → IsTupOf2 h' s.heap.objs.size x y → h'.objs.size = s.heap.objs.size + 1 → (∀ c o, c ≠ z → c ≠ i1 → c ≠ i2 → s.heap.get? c = some o → h'.get? c = some o) → Q (some (.ref s.heap.objs.size)) { s with heap := h', toks := tk }) :
    wpAny (model prog w) A (pyNext (.ref z)) Q E s := by
  have ty : s.TypeIs (.ref z) "zip" := ⟨_, hz, rfl⟩
  unfold pyNext
  exact wpAny_bind (wpAny_attempt (wpAny_callSpecial?_slot (name := Str.ofString "__next__") ty F.slot_zip_next (wpAny_call_entry F.slot_zip_next ty F.entry_zip_next
    (held_item S D1 D2 hz hT hTI st1 st2 l1 l2 fun x y h' tk a b c d e g k m => wpAny_pure (hQ x y h' tk a b c d e g k m)) (F.args_zip_next_1 _))))
theorem held_stop {Q : Option Value → Shared → Prop} (S : ZipSep2 z TI TO i1 i2 fp1 fp2) (D1 : Draws prog w A.in1 i1 fp1 n1 P1 St1) (D2 : Draws prog w A.in1 i2 fp2 n2 P2 St2) (hz : IsZipHeld s.heap z TI TO T f) (hT : s.heap.get? T = some oT) (hTI : IsTupOf2 s.heap TI (.ref i1) (.ref i2))
    (st1 : St1 i s.heap) (st2 : St2 i s.heap) (l1 : i ≤ n1) (l2 : i ≤ n2) (hend : i = n1 ∨ i = n2)
    (hQ : ∀ h' tk, (∀ c o, c ≠ z → c ≠ i1 → c ≠ i2 → s.heap.get? c = some o → h'.get? c = some o) → Q none { s with heap := h', toks := tk }) : wpAny (model prog w) A (pyNext (.ref z)) Q E s := by
  have ty : s.TypeIs (.ref z) "zip" := ⟨_, hz, rfl⟩
  unfold pyNext
  refine wpAny_bind (wpAny_attempt (wpAny_callSpecial?_slot (name := Str.ofString "__next__") ty F.slot_zip_next (wpAny_call_entry F.slot_zip_next ty F.entry_zip_next
    (held_end S D1 D2 hz hT hTI st1 st2 l1 l2 hend fun h' tk e hk he => ?_) (F.args_zip_next_1 _))))
  obtain ⟨o, ho, hc⟩ := he
  refine wpAny_bind (wpAny_isInstance (T := "StopIteration") (b := true) ⟨o, ho, hc⟩ isSubtype_stop ?_)
  exact wpAny_pure (hQ _ _ hk)
end
end Dl
set_option Elab.async false
set_option linter.all false
set_option maxRecDepth 100000
namespace Dl
open PySem PySem.Spec PyProof.Rows L2

/-! ### list(zip(a, b)) -/
theorem zip_no_len : typeLookup (.type "zip") "__len__" = pure none := am_miss_of_fast (by decide +kernel)
theorem zip_no_hint : typeLookup (.type "zip") "__length_hint__" = pure none := am_miss_of_fast (by decide +kernel)
section
variable {prog : Program} {w : World} {A : Around} {E : Value → Shared → Prop} {s : Shared} {r : Addr} {Q : Bool → Shared → Prop}
theorem hint_zip (hT : s.TypeIs (.ref r) "zip") (h : Q true s) : wpAny (model prog w) A (Builtin.List.listLengthHint (.ref r)) Q E s := by
  unfold Builtin.List.listLengthHint
  refine wpAny_bind (wpAny_specialOf hT zip_no_len ?_)
  simp only [Option.isSome_none, Bool.false_eq_true, if_false]
  exact wpAny_bind (wpAny_specialOf hT zip_no_hint (wpAny_pure h))
end
end Dl
set_option Elab.async false
set_option linter.all false
set_option maxRecDepth 100000
namespace Dl
open PySem PySem.Spec PyProof.Rows L2

/-! ### list.extend over a zip -/
structure LZ (t1 t2 : Bool) (a b z TI TO i1 i2 S : Addr) (its1 its2 : List Value) (N0 : Nat) (h0 : Heap) (h : Heap) (i : Nat) (Ts : List Addr) : Prop where
  z0 : i = 0 → IsZip h z TI TO .none ∧ ∃ x y, IsTupOf2 h TO x y
  zh : 0 < i → ∃ T f oT, IsZipHeld h z TI TO T f ∧ h.get? T = some oT ∧ N0 ≤ T
  ti : IsTupOf2 h TI (.ref i1) (.ref i2)
  p1 : IterAt t1 h i1 a i ∧ PlAt t1 h a its1.toArray
  p2 : IterAt t2 h i2 b i ∧ PlAt t2 h b its2.toArray
  ls : ∃ c, h.get? S = some { cls := .type "list", dict := none, data := .seq (Ts.map Value.ref).toArray c, slots := #[] }
  len : Ts.length = i
  ps : ∀ (j : Nat) (T : Addr), Ts[j]? = some T → N0 ≤ T ∧ T < h.objs.size ∧ ∃ x y, its1[j]? = some x ∧ its2[j]? = some y ∧ IsTupOf2 h T x y
  nd : Ts.Nodup
  kp : ∀ q o, q ≠ S → q ≠ z → q ≠ TO → q ≠ i1 → q ≠ i2 → h0.get? q = some o → h.get? q = some o
  sz : N0 ≤ h.objs.size
theorem PlAt.at {t : Bool} {h h' : Heap} {a : Addr} {its : Array Value} (x : PlAt t h a its) (kp : ∀ o, h.get? a = some o → h'.get? a = some o) : PlAt t h' a its := by
  cases t
  · exact (show h.IsList a its from x).at kp
  · exact (show h.IsTuple a its from x).at kp
section
variable {prog : Program} {w : World} {A : Around} {E : Value → Shared → Prop} {t1 t2 : Bool} {a b z TI TO i1 i2 S : Addr} {its1 its2 : List Value} {N0 : Nat} {h0 : Heap} (SP : ZipSep2 z TI TO i1 i2 [i1, a] [i2, b]) (hai : a ≠ i1) (hbi : b ≠ i2)
  (lS : S < N0) (lz : z < N0) (lTI : TI < N0) (lTO : TO < N0) (l1 : i1 < N0) (l2 : i2 < N0) (la : a < N0) (lb : b < N0) (hSz : S ≠ z) (hST : S ≠ TI) (hSO : S ≠ TO) (hS1 : S ≠ i1) (hS2 : S ≠ i2) (hSa : S ≠ a) (hSb : S ≠ b)
include SP hai hbi lS lz lTI lTO l1 l2 la lb
theorem lz_next {s : Shared} {i : Nat} {Ts : List Addr} {Q : Option Value → Shared → Prop} (hh : A.in1.handled = none) (L : LZ t1 t2 a b z TI TO i1 i2 S its1 its2 N0 h0 s.heap i Ts) (hi : i < min its1.length its2.length)
    (hQ : ∀ x y h' tk, its1[i]? = some x → its2[i]? = some y → (∃ T f oT, IsZipHeld h' z TI TO T f ∧ h'.get? T = some oT ∧ N0 ≤ T) → IterAt t1 h' i1 a (i + 1) ∧ PlAt t1 h' a its1.toArray → IterAt t2 h' i2 b (i + 1) ∧ PlAt t2 h' b its2.toArray →
      IsTupOf2 h' s.heap.objs.size x y → h'.objs.size = s.heap.objs.size + 1 → (∀ q o, q ≠ z → q ≠ TO → q ≠ i1 → q ≠ i2 → s.heap.get? q = some o → h'.get? q = some o) → Q (some (.ref s.heap.objs.size)) { s with heap := h', toks := tk }) :
    wpAny (model prog w) A (pyNext (.ref z)) Q E s := by
  have n1 : i < its1.toArray.size := by rw [List.size_toArray]; omega
  have n2 : i < its2.toArray.size := by rw [List.size_toArray]; omega
  have far : ∀ {T : Addr}, N0 ≤ T → T ≠ z ∧ T ≠ TO ∧ T ≠ i1 ∧ T ≠ i2 := fun hT => ⟨Nat.ne_of_gt (Nat.lt_of_lt_of_le lz hT), Nat.ne_of_gt (Nat.lt_of_lt_of_le lTO hT), Nat.ne_of_gt (Nat.lt_of_lt_of_le l1 hT), Nat.ne_of_gt (Nat.lt_of_lt_of_le l2 hT)⟩
  by_cases h : i = 0
  · obtain ⟨hz, x0, y0, hTO⟩ := L.z0 h
    refine wpAny_pyNext_zipD2_item SP (drawsX hh t1 i1 a hai its1.toArray) (drawsX hh t2 i2 b hbi its2.toArray) hz L.ti hTO L.p1 L.p2 n1 n2 fun x y h' tk e1 e2 z' TO' q1 q2 hT hsz hk => ?_
    exact hQ x y h' tk (by simpa using e1) (by simpa using e2) ⟨_, false, _, z', hT, L.sz⟩ q1 q2 hT hsz hk
  · obtain ⟨T, f, oT, hz, hT, hN⟩ := L.zh (Nat.pos_of_ne_zero h)
    obtain ⟨f1, f2, f3, f4⟩ := far hN
    refine held_next SP (drawsX hh t1 i1 a hai its1.toArray) (drawsX hh t2 i2 b hbi its2.toArray) hz hT L.ti L.p1 L.p2 n1 n2 fun x y h' tk e1 e2 z' q1 q2 hT' hsz hk => ?_
    exact hQ x y h' tk (by simpa using e1) (by simpa using e2) ⟨T, true, oT, z', hk _ _ f1 f3 f4 hT, hN⟩ q1 q2 hT' hsz fun q o a1 _ a3 a4 e => hk q o a1 a3 a4 e
theorem lz_stop {s : Shared} {i : Nat} {Ts : List Addr} {Q : Option Value → Shared → Prop} (hh : A.in1.handled = none) (L : LZ t1 t2 a b z TI TO i1 i2 S its1 its2 N0 h0 s.heap i Ts) (hi : i = min its1.length its2.length)
    (hQ : ∀ h' tk, (∀ q o, q ≠ z → q ≠ TO → q ≠ i1 → q ≠ i2 → s.heap.get? q = some o → h'.get? q = some o) → Q none { s with heap := h', toks := tk }) : wpAny (model prog w) A (pyNext (.ref z)) Q E s := by
  have m1 : i ≤ its1.toArray.size := by rw [List.size_toArray]; omega
  have m2 : i ≤ its2.toArray.size := by rw [List.size_toArray]; omega
  have m3 : i = its1.toArray.size ∨ i = its2.toArray.size := by rw [List.size_toArray, List.size_toArray]; omega
  by_cases h : i = 0
  · obtain ⟨hz, x0, y0, hTO⟩ := L.z0 h
    exact wpAny_pyNext_zipD2_end SP (drawsX hh t1 i1 a hai its1.toArray) (drawsX hh t2 i2 b hbi its2.toArray) hz L.ti hTO L.p1 L.p2 m1 m2 m3 hQ
  · obtain ⟨T, f, oT, hz, hT, hN⟩ := L.zh (Nat.pos_of_ne_zero h)
    exact held_stop SP (drawsX hh t1 i1 a hai its1.toArray) (drawsX hh t2 i2 b hbi its2.toArray) hz hT L.ti L.p1 L.p2 m1 m2 m3 fun h' tk hk => hQ h' tk fun q o a1 _ a3 a4 e => hk q o a1 a3 a4 e
include hSz hST hSO hS1 hS2 hSa hSb
theorem lz_loop {R : Result → Shared → Prop} (hh : A.handled = none) (res : Value) (hn : min its1.length its2.length ≤ sizeLine) (s0 : Shared)
    (hR : ∀ (h' : Heap) (tk : Nat) (Ts : List Addr) (c : Nat), Ts.length = min its1.length its2.length → Ts.Nodup → (∀ (j : Nat) (T : Addr), Ts[j]? = some T → N0 ≤ T ∧ T < h'.objs.size ∧ ∃ x y, its1[j]? = some x ∧ its2[j]? = some y ∧ IsTupOf2 h' T x y) →
      h'.get? S = some { cls := .type "list", dict := none, data := .seq (Ts.map Value.ref).toArray c, slots := #[] } → (∀ q o, q ≠ S → q ≠ z → q ≠ TO → q ≠ i1 → q ≠ i2 → h0.get? q = some o → h'.get? q = some o) → R (.ok (.ret res)) { s0 with heap := h', toks := tk }) :
    ∀ (k i : Nat) (h : Heap) (tk : Nat) (Ts : List Addr), min its1.length its2.length - i = k → i ≤ min its1.length its2.length → LZ t1 t2 a b z TI TO i1 i2 S its1 its2 N0 h0 h i Ts →
    codeAny (model prog w) A (.builtin "list.extend.loop" ⟨[.ref S, .ref z, res], []⟩) R { s0 with heap := h, toks := tk } := by
  intro k
  induction k with
  | zero =>
    intro i h tk Ts hk hi L
    obtain ⟨c, hls⟩ := L.ls
    have hin : i = min its1.length its2.length := by omega
    refine codeAny_builtin PySem.F.entry_extend_loop ?_
    rw [Around.under_plainId PySem.F.plain_extend_loop _]
    show wpAny _ A.in1 (pyNext (.ref z) >>= _) _ _ _
    refine wpAny_bind (lz_stop SP hai hbi lS lz lTI lTO l1 l2 la lb (A := A.in1) (s := { s0 with heap := h, toks := tk }) hh L hin fun h' tk' kp => ?_)
    have far : ∀ {T : Addr}, N0 ≤ T → T ≠ z ∧ T ≠ TO ∧ T ≠ i1 ∧ T ≠ i2 := fun hT => ⟨Nat.ne_of_gt (Nat.lt_of_lt_of_le lz hT), Nat.ne_of_gt (Nat.lt_of_lt_of_le lTO hT), Nat.ne_of_gt (Nat.lt_of_lt_of_le l1 hT), Nat.ne_of_gt (Nat.lt_of_lt_of_le l2 hT)⟩
    refine wpAny_pure (hR h' tk' Ts c (by rw [L.len, hin]) L.nd (fun j T e => ?_) (kp _ _ hSz hSO hS1 hS2 hls) fun q o e1 e2 e3 e4 e5 e => kp q o e2 e3 e4 e5 (L.kp q o e1 e2 e3 e4 e5 e))
    obtain ⟨g1, g2, x, y, g3, g4, g5⟩ := L.ps j T e
    obtain ⟨f1, f2, f3, f4⟩ := far g1
    have g6 := kp _ _ f1 f2 f3 f4 g5
    exact ⟨g1, Heap.lt_size g6, x, y, g3, g4, g6⟩
  | succ k ih =>
    intro i h tk Ts hk hi L
    obtain ⟨c, hls⟩ := L.ls
    have hlt : i < min its1.length its2.length := by omega
    refine codeAny_builtin PySem.F.entry_extend_loop ?_
    rw [Around.under_plainId PySem.F.plain_extend_loop _]
    show wpAny _ A.in1 (pyNext (.ref z) >>= _) _ _ _
    refine wpAny_bind (lz_next SP hai hbi lS lz lTI lTO l1 l2 la lb (A := A.in1) (s := { s0 with heap := h, toks := tk }) hh L hlt fun x y h' tk' e1 e2 zh q1 q2 hT hsz kp => ?_)
    have hT : IsTupOf2 h' h.objs.size x y := hT
    have hsz : h'.objs.size = h.objs.size + 1 := hsz
    have kp : ∀ q o, q ≠ z → q ≠ TO → q ≠ i1 → q ≠ i2 → h.get? q = some o → h'.get? q = some o := kp
    have ls' := kp _ _ hSz hSO hS1 hS2 hls
    have far : ∀ {T : Addr}, N0 ≤ T → T ≠ z ∧ T ≠ TO ∧ T ≠ i1 ∧ T ≠ i2 ∧ T ≠ S := fun hT => ⟨Nat.ne_of_gt (Nat.lt_of_lt_of_le lz hT), Nat.ne_of_gt (Nat.lt_of_lt_of_le lTO hT), Nat.ne_of_gt (Nat.lt_of_lt_of_le l1 hT), Nat.ne_of_gt (Nat.lt_of_lt_of_le l2 hT), Nat.ne_of_gt (Nat.lt_of_lt_of_le lS hT)⟩
    show wpAny _ A.in1 (updateSeq S (·.push (.ref h.objs.size)) >>= _) _ _ _
    refine wpAny_bind ?_
    have oth : ∀ {f : Obj → Obj} {q : Addr} {o : Obj}, q ≠ S → h'.get? q = some o → (h'.update S f).get? q = some o := fun hq e => (Heap.get?_update_other _ _ (Ne.symm hq)).trans e
    refine wpAny_updateSeq ls' rfl (wpAny_pure ⟨plainId_quiet PySem.F.plain_extend_loop _, ih (i + 1) _ tk' (Ts ++ [h.objs.size]) (by omega) hlt ⟨fun z => absurd z (Nat.succ_ne_zero i), fun _ => ?_, oth (Ne.symm hST) (kp _ _ SP.TIz SP.TITO SP.TIi1 SP.TIi2 L.ti), ⟨q1.1.at fun o e => oth (Ne.symm hS1) e, q1.2.at fun o e => oth (Ne.symm hSa) e⟩, ⟨q2.1.at fun o e => oth (Ne.symm hS2) e, q2.2.at fun o e => oth (Ne.symm hSb) e⟩, ?_, by simp [L.len], fun j T e => ?_, ?_, fun q o g1 g2 g3 g4 g5 e => oth g1 (kp q o g2 g3 g4 g5 (L.kp q o g1 g2 g3 g4 g5 e)), ?_⟩⟩) ?_ ?_
    · obtain ⟨T, f, oT, u1, u2, u3⟩ := zh
      exact ⟨T, f, oT, oth (Ne.symm hSz) u1, oth (far u3).2.2.2.2 u2, u3⟩
    · have e : ((Ts ++ [h.objs.size]).map Value.ref).toArray = (Ts.map Value.ref).toArray.push (.ref h.objs.size) := by simp
      rw [e]
      exact ⟨_, Heap.get?_update_self _ ls' rfl⟩
    · have hup : ∀ f : Obj → Obj, (h'.update S f).objs.size = h.objs.size + 1 := fun f => by simp [hsz]
      rcases Nat.lt_or_ge j Ts.length with hj | hj
      · rw [List.getElem?_append_left hj] at e
        obtain ⟨g1, g2, x', y', g3, g4, g5⟩ := L.ps j T e
        obtain ⟨f1, f2, f3, f4, f5⟩ := far g1
        exact ⟨g1, Nat.lt_of_lt_of_eq (Nat.lt_succ_of_lt g2) (hup _).symm, x', y', g3, g4, oth f5 (kp _ _ f1 f2 f3 f4 g5)⟩
      · rw [List.getElem?_append_right hj] at e
        have hj0 : j = Ts.length := by
          rcases Nat.eq_zero_or_pos (j - Ts.length) with h0 | h0
          · omega
          · rw [List.getElem?_eq_none (by simp; omega)] at e; cases e
        subst hj0
        rw [Nat.sub_self] at e
        have e' : h.objs.size = T := by simpa using e
        subst e'
        rw [L.len]
        exact ⟨L.sz, Nat.lt_of_lt_of_eq (Nat.lt_succ_self _) (hup _).symm, x, y, e1, e2, oth (far L.sz).2.2.2.2 hT⟩
    · refine List.nodup_append.mpr ⟨L.nd, by simp, fun p hp q hq => ?_⟩
      obtain ⟨j, hj⟩ := List.getElem?_of_mem hp
      have := (L.ps j p hj).2.1
      have hq' : q = h.objs.size := by simpa using hq
      exact Nat.ne_of_lt (Nat.lt_of_lt_of_eq this hq'.symm)
    · have hup : ∀ f : Obj → Obj, (h'.update S f).objs.size = h.objs.size + 1 := fun f => by simp [hsz]
      exact Nat.le_trans (Nat.le_succ_of_le L.sz) (Nat.le_of_eq (hup _).symm)
    · have e : (Ts.map Value.ref).toArray.size = i := by simp [L.len]
      rw [e]; first | omega | (show i + 1 ≤ sizeLine + 1; omega)
    · have e : ((Ts.map Value.ref).toArray.push (.ref h.objs.size)).size = i + 1 := by simp [L.len]
      rw [e]; first | omega | (show i + 1 ≤ sizeLine + 1; omega)
end
end Dl
set_option Elab.async false
set_option linter.all false
set_option maxRecDepth 100000
namespace Dl
open PySem PySem.Spec PyProof.Rows L2

theorem lz_ar {N S a b : Nat} (la : a < N) (lb : b < N) (h : N + 5 ≤ S) : N + 4 < S + 1 ∧ N + 2 < S + 1 ∧ N + 3 < S + 1 ∧ N < S + 1 ∧ N + 1 < S + 1 ∧ a < S + 1 ∧ b < S + 1 ∧ S ≠ N + 4 ∧ S ≠ N + 2 ∧ S ≠ N + 3 ∧ S ≠ N ∧ S ≠ N + 1 ∧ S ≠ a ∧ S ≠ b := by omega
/-! ### the call list(z) of a fresh zip z -/
structure ZCells (t1 t2 : Bool) (a b N : Addr) (its1 its2 : List Value) (h : Heap) : Prop where
  z : IsZip h (N + 4) (N + 2) (N + 3) .none
  ti : IsTupOf2 h (N + 2) (.ref N) (.ref (N + 1))
  to : ∃ x y, IsTupOf2 h (N + 3) x y
  p1 : IterAt t1 h N a 0 ∧ PlAt t1 h a its1.toArray
  p2 : IterAt t2 h (N + 1) b 0 ∧ PlAt t2 h b its2.toArray
theorem ZCells.at {t1 t2 : Bool} {a b N : Addr} {its1 its2 : List Value} {h h' : Heap} (x : ZCells t1 t2 a b N its1 its2 h) (la : a < N) (lb : b < N) (kp : ∀ q o, q < N + 5 → h.get? q = some o → h'.get? q = some o) : ZCells t1 t2 a b N its1 its2 h' := by
  obtain ⟨z, ti, ⟨u, v, to⟩, p1, p2⟩ := x
  have l : ∀ {q : Nat}, q < N → q < N + 5 := fun h => Nat.lt_of_lt_of_le h (Nat.le_add_right _ _)
  exact ⟨kp _ _ (Nat.lt_succ_self (N + 4)) z, kp _ _ (Nat.add_lt_add_left (by decide) N) ti, ⟨u, v, kp _ _ (Nat.add_lt_add_left (by decide) N) to⟩, ⟨p1.1.at fun o e => kp _ _ (Nat.lt_add_of_pos_right (by decide)) e, p1.2.at fun o e => kp _ _ (l la) e⟩,
    ⟨p2.1.at fun o e => kp _ _ (Nat.add_lt_add_left (by decide) N) e, p2.2.at fun o e => kp _ _ (l lb) e⟩⟩
section
variable {prog : Program} {w : World} {A : Around} {E : Value → Shared → Prop} {t1 t2 : Bool} {a b N : Addr} {its1 its2 : List Value}
theorem lz_start {h : Heap} {S : Addr} {c : Nat} (x : ZCells t1 t2 a b N its1 its2 h) (hS : h.get? S = some { cls := .type "list", data := .seq #[] c }) : LZ t1 t2 a b (N + 4) (N + 2) (N + 3) N (N + 1) S its1 its2 (S + 1) h h 0 [] :=
  ⟨fun _ => ⟨x.z, x.to⟩, fun z => absurd z (Nat.lt_irrefl 0), x.ti, x.p1, x.p2, ⟨c, hS⟩, rfl, fun j T e => by simp at e, List.nodup_nil, fun q o _ _ _ _ _ e => e, Nat.succ_le_of_lt (Heap.lt_size hS)⟩
theorem lz_run {R : Result → Shared → Prop} (hh : A.handled = none) (res : Value) (hn : min its1.length its2.length ≤ sizeLine) (la : a < N) (lb : b < N) {S : Addr} (lS : N + 5 ≤ S) {h0 : Heap} {tk c : Nat} (s0 : Shared) (x : ZCells t1 t2 a b N its1 its2 h0)
    (hS : h0.get? S = some { cls := .type "list", data := .seq #[] c })
    (hR : ∀ (h' : Heap) (tk : Nat) (Ts : List Addr) (c : Nat), Ts.length = min its1.length its2.length → Ts.Nodup → (∀ (j : Nat) (T : Addr), Ts[j]? = some T → S + 1 ≤ T ∧ T < h'.objs.size ∧ ∃ x y, its1[j]? = some x ∧ its2[j]? = some y ∧ IsTupOf2 h' T x y) →
      h'.get? S = some { cls := .type "list", dict := none, data := .seq (Ts.map Value.ref).toArray c, slots := #[] } → (∀ q o, q ≠ S → q ≠ N + 4 → q ≠ N + 3 → q ≠ N → q ≠ N + 1 → h0.get? q = some o → h'.get? q = some o) → R (.ok (.ret res)) { s0 with heap := h', toks := tk }) :
    codeAny (model prog w) A (.builtin "list.extend.loop" ⟨[.ref S, .ref (N + 4), res], []⟩) R { s0 with heap := h0, toks := tk } := by
  obtain ⟨g1, g2, g3, g4, g5, g6, g7, n1, n2, n3, n4, n5, n6, n7⟩ := lz_ar la lb lS
  exact lz_loop (zip_sep2 (N := N) (fp1 := [a]) (fp2 := [b]) (by simpa using la) (by simpa using lb)) (Nat.ne_of_lt la) (Nat.ne_of_lt (Nat.lt_succ_of_lt lb))
    (Nat.lt_succ_self S) g1 g2 g3 g4 g5 g6 g7 n1 n2 n3 n4 n5 n6 n7
    hh res hn s0 hR _ 0 h0 tk [] rfl (Nat.zero_le _) (lz_start x hS)
end
end Dl
set_option Elab.async false
set_option linter.all false
set_option maxRecDepth 100000
namespace Dl
open PySem PySem.Spec PyProof.Rows L2

/-! ### the call list(z) of a fresh zip z, from the call on -/
abbrev ZOut (N S : Addr) (its1 its2 : List Value) (h0 h' : Heap) (Ts : List Addr) (c : Nat) : Prop :=
  Ts.length = min its1.length its2.length ∧ Ts.Nodup ∧ (∀ (j : Nat) (T : Addr), Ts[j]? = some T → S + 1 ≤ T ∧ T < h'.objs.size ∧ ∃ x y, its1[j]? = some x ∧ its2[j]? = some y ∧ IsTupOf2 h' T x y) ∧
  h'.get? S = some { cls := .type "list", dict := none, data := .seq (Ts.map Value.ref).toArray c, slots := #[] } ∧ ∀ q o, q ≠ S → q ≠ N + 4 → q ≠ N + 3 → q ≠ N → q ≠ N + 1 → h0.get? q = some o → h'.get? q = some o
section
variable {prog : Program} {w : World} {A : Around} {E : Value → Shared → Prop} {s : Shared} {t1 t2 : Bool} {a b N : Addr} {its1 its2 : List Value}
theorem lz_extend {R : Result → Shared → Prop} (hh : A.handled = none) (res : Value) (hn : min its1.length its2.length ≤ sizeLine) (la : a < N) (lb : b < N) {S : Addr} (lS : N + 5 ≤ S) {c₀ : Nat} (x : ZCells t1 t2 a b N its1 its2 s.heap)
    (hS : s.heap.get? S = some { cls := .type "list", data := .seq #[] c₀ }) (hR : ∀ h' tk Ts c, ZOut N S its1 its2 s.heap h' Ts c → R (.ok (.ret res)) { s with heap := h', toks := tk }) :
    wpAny (model prog w) A.in1 (Builtin.List.listExtendWith (.ref S) (.ref (N + 4)) res)
      (fun fin s' => match fin with | .done f => R (.ok f) s' | .again c' => c'.quiet = true ∧ codeAny (model prog w) A c' R s') (fun e s' => R (.error e) s') s := by
  obtain ⟨g1, g2, g3, g4, g5, g6, g7, n1, n2, n3, n4, n5, n6, n7⟩ := lz_ar la lb lS
  have key : ∀ (h : Heap) (c₁ tk : Nat), (∀ q o, q ≠ S → s.heap.get? q = some o → h.get? q = some o) → h.get? S = some { cls := .type "list", data := .seq #[] c₁ } →
      codeAny (model prog w) A (.builtin "list.extend.loop" ⟨[.ref S, .ref (N + 4), res], []⟩) R { s with heap := h, toks := tk } := by
    intro h c₁ tk hk hS₁
    refine lz_run hh res hn la lb lS s (x.at la lb fun q o hq e => hk q o (Nat.ne_of_lt (Nat.lt_of_lt_of_le hq lS)) e) hS₁ fun h' tk' Ts c o1 o2 o3 o4 o5 => ?_
    exact hR h' tk' Ts c ⟨o1, o2, o3, o4, fun q o e1 e2 e3 e4 e5 e => o5 q o e1 e2 e3 e4 e5 (hk q o e1 e)⟩
  have hT : s.TypeIs (.ref (N + 4)) "zip" := ⟨_, x.z, rfl⟩
  unfold Builtin.List.listExtendWith
  refine wpAny_bind (wpAny_typeOf (T := "zip") hT ?_)
  have h1 : Builtin.List.listSameRef (.ref S) (.ref (N + 4)) = false := by simp [Builtin.List.listSameRef, n1]
  have z1 : (Value.type "zip" == Value.type "list") = false := by decide
  have z2 : (Value.type "zip" == Value.type "tuple") = false := by decide
  simp only [h1, z1, z2, Bool.or_false, Bool.false_eq_true, if_false]
  refine wpAny_bind (wpAny_pyIter_zip x.z ?_)
  refine wpAny_bind (wpAny_holding (hint_zip hT ?_))
  refine wpAny_ite_split (fun _ => ?_) (fun _ => wpAny_pure ⟨plainId_quiet PySem.F.plain_extend_loop _, key _ c₀ _ (fun b o _ e => e) hS⟩)
  refine wpAny_bind (wpAny_rule ?_)
  refine wpAny_bind ?_
  show wpAny _ _ (updateSeq S (·.push .none) >>= fun _ => updateSeq S (·.pop)) _ _ _
  refine wpAny_bind (wpAny_updateSeq hS rfl ?_)
  have hS₂ := Heap.get?_update_self (Obj.mapSeq (·.push Value.none)) hS rfl
  refine wpAny_updateSeq (hz := by seq_fits) hS₂ rfl ?_
  have hS₃ := Heap.get?_update_self (Obj.mapSeq (·.pop)) hS₂ rfl
  refine wpAny_pure ⟨plainId_quiet PySem.F.plain_extend_loop _, key _ _ _ (fun b o hb e => ?_) hS₃⟩
  exact (Heap.get?_update_other _ _ (Ne.symm hb)).trans ((Heap.get?_update_other _ _ (Ne.symm hb)).trans e)
theorem lz_init {R : Result → Shared → Prop} (hh : A.handled = none) (hn : min its1.length its2.length ≤ sizeLine) (la : a < N) (lb : b < N) {S : Addr} (lS : N + 5 ≤ S) (x : ZCells t1 t2 a b N its1 its2 s.heap)
    (hS : s.heap.get? S = some { cls := .type "list", data := .seq #[] }) (hR : ∀ h' tk Ts c, ZOut N S its1 its2 s.heap h' Ts c → R (.ok (.ret .none)) { s with heap := h', toks := tk }) :
    wpAny (model prog w) A.in1 (Builtin.«list.__init__» ⟨[.ref S, .ref (N + 4)], []⟩)
      (fun fin s' => match fin with | .done f => R (.ok f) s' | .again c' => c'.quiet = true ∧ codeAny (model prog w) A c' R s') (fun e s' => R (.error e) s') s := by
  show wpAny _ _ (do let old ← Builtin.List.listItems (.ref S); Builtin.List.listUpdate (.ref S) (fun _ => #[]); letGo old.toList.reverse; Builtin.List.listExtendWith (.ref S) (.ref (N + 4)) .none) _ _ s
  refine wpAny_bind ?_
  unfold Builtin.List.listItems
  refine wpAny_bind (wpAny_seqItems hS rfl (wpAny_pure ?_))
  show wpAny _ _ (updateSeq S (fun _ => #[]) >>= fun _ => letGo (#[] : Array Value).toList.reverse >>= fun _ => Builtin.List.listExtendWith (.ref S) (.ref (N + 4)) .none) _ _ s
  refine wpAny_bind (wpAny_updateSeq hS rfl ?_)
  have hS₂ := Heap.get?_update_self (Obj.mapSeq (fun _ => (#[] : Array Value))) hS rfl
  have oth : ∀ b o, b ≠ S → s.heap.get? b = some o → (s.heap.update S (Obj.mapSeq (fun _ => (#[] : Array Value)))).get? b = some o :=
    fun b o hb e => (Heap.get?_update_other _ _ (Ne.symm hb)).trans e
  refine wpAny_bind (wpAny_letGo ?_)
  refine lz_extend hh .none hn la lb lS (x.at la lb fun q o hq e => oth q o (Nat.ne_of_lt (Nat.lt_of_lt_of_le hq lS)) e) hS₂ fun h' tk Ts c o => ?_
  exact hR h' tk Ts c ⟨o.1, o.2.1, o.2.2.1, o.2.2.2.1, fun q u e1 e2 e3 e4 e5 e => o.2.2.2.2 q u e1 e2 e3 e4 e5 (oth q u e1 e)⟩
theorem lz_call {Q : Value → Shared → Prop} (hh : A.handled = none) (hn : min its1.length its2.length ≤ sizeLine) (la : a < N) (lb : b < N) (lS : N + 5 ≤ s.heap.objs.size) (x : ZCells t1 t2 a b N its1 its2 s.heap)
    (hQ : ∀ h' tk Ts c, ZOut N s.heap.objs.size its1 its2 s.heap h' Ts c → Q (.ref s.heap.objs.size) { s with heap := h', toks := tk }) :
    wpAny (model prog w) A (call (.type "list") [.ref (N + 4)]) Q E s := by
  refine callType_codes (Q₁ := fun obj s₁ => obj = .ref s.heap.objs.size ∧ s₁ = { s with heap := s.heap.push { cls := .type "list", data := .seq #[] } }) PySem.F.called_list (PySem.F.typeCall_list_1 _) PySem.F.entry_list_init
    (code_list_new _ ⟨rfl, rfl⟩) fun obj s₁ h₁ => ?_
  obtain ⟨rfl, rfl⟩ := h₁
  have hS : (s.heap.push { cls := .type "list", data := .seq #[] }).get? s.heap.objs.size = some { cls := .type "list", data := .seq #[] } := Heap.get?_push_size _ rfl
  refine ⟨⟨_, hS, rfl⟩, PySem.F.args_list_init_2 _ _, lz_init (A := A.in1) hh hn la lb lS (x.at la lb fun q o _ e => Heap.get?_push_of_some _ e) hS fun h' tk Ts c o => ?_⟩
  exact ⟨rfl, hQ h' tk Ts c ⟨o.1, o.2.1, o.2.2.1, o.2.2.2.1, fun q u e1 e2 e3 e4 e5 e => o.2.2.2.2 q u e1 e2 e3 e4 e5 (Heap.get?_push_of_some _ e)⟩⟩
end
end Dl
set_option Elab.async false
set_option linter.all false
set_option maxRecDepth 100000
namespace Dl
open PySem PySem.Spec PyProof.Rows L2

/-! ### several new cells of any kind laid at once -/
def layH (H : Hp) : List (Addr × HO) → Hp
  | [] => H
  | (a, o) :: r => upd (layH H r) a o
theorem layH_cases (H : Hp) : ∀ (cs : List (Addr × HO)) (b : Addr), ((∀ p ∈ cs, p.1 ≠ b) ∧ layH H cs b = H b) ∨ ∃ o, (b, o) ∈ cs ∧ layH H cs b = some o
  | [], b => .inl ⟨fun p hp => (by cases hp), rfl⟩
  | (a, φ) :: r, b => by
    by_cases e : b = a
    · subst e
      exact .inr ⟨φ, List.mem_cons_self .., by rw [layH, upd_same]⟩
    · rw [layH, upd_ne e]
      rcases layH_cases H r b with ⟨h1, h2⟩ | ⟨ψ, h1, h2⟩
      · exact .inl ⟨fun p hp => by
          rcases List.mem_cons.mp hp with rfl | hp
          · exact fun z => e z.symm
          · exact h1 p hp, h2⟩
      · exact .inr ⟨ψ, List.mem_cons_of_mem _ h1, h2⟩
theorem layH_none {H : Hp} {cs : List (Addr × HO)} {b : Addr} (h : H b = none) (n : ∀ p ∈ cs, p.1 ≠ b) : layH H cs b = none := by
  rcases layH_cases H cs b with ⟨_, h2⟩ | ⟨o, h1, _⟩
  · rw [h2, h]
  · exact absurd rfl (n _ h1)
section
variable {X : Cx} {pins : List (Addr × Obj)} {σ : L2.St} {H : Hp} {s : Shared}
theorem inv_layH {h' : Heap} {t' : Nat} {cs : List (Addr × HO)} (I : Inv X pins σ H s) (k : ∀ b u, s.heap.get? b = some u → h'.get? b = some u) (hp : ∀ p ∈ cs, s.heap.objs.size ≤ p.1)
    (ok : ∀ p ∈ cs, ObjOk X.prog X.w (layH H cs) h' p.1 p.2) : Inv X pins σ (layH H cs) { s with heap := h', toks := t' } := by
  have old : ∀ b o, H b = some o → layH H cs b = some o := fun b o e => by
    rcases layH_cases H cs b with ⟨_, h2⟩ | ⟨φ, h1, _⟩
    · rw [h2, e]
    · have := I.hok.fresh (hp _ h1)
      rw [this] at e; cases e
  refine I.un ⟨fun b u q _ _ _ => k b u q, fun b u q _ _ _ => ⟨u.slots, k b u q⟩, fun b u q n _ => ?_, fun b u q _ => ⟨u, k b u q⟩, fun b xs q => old _ _ q, fun b u xs q => old _ _ q, fun b ps q => ⟨#[], by rw [old _ _ q]; simp⟩⟩ fun b u e => ?_
  · rcases layH_cases H cs b with ⟨_, h2⟩ | ⟨φ, h1, _⟩
    · rw [h2, n]
    · exact absurd (Nat.lt_of_lt_of_le (Heap.lt_size q) (hp _ h1)) (Nat.lt_irrefl _)
  · rcases layH_cases H cs b with ⟨_, h2⟩ | ⟨φ, h1, h2⟩
    · rw [h2] at e
      exact (I.hok b u e).stay (fun c v _ q => k c v q) (fun c q => old _ _ q) fun c xs q => old _ _ q
    · rw [h2] at e
      cases e
      exact ok _ h1
end
/-- many new tuples -/
def tupsOf (cs : List (Addr × List V)) : List (Addr × HO) := cs.map fun p => (p.1, .tup p.2)
inductive DpRows (K : PySem.W.Frag) (F : Hp) : List (Addr × List V) → List (List D) → Prop
  | nil : DpRows K F [] []
  | cons {p : Addr × List V} {ds : List D} {cs : List (Addr × List V)} {dss : List (List D)} : DpAll K F p.2 ds → DpRows K F cs dss → DpRows K F (p :: cs) (ds :: dss)
theorem newTups {K : PySem.W.Frag} {R : Prop} : ∀ (cs : List (Addr × List V)) (dss : List (List D)) {F H : Hp}, Same F H → DpRows K F cs dss → (cs.map (·.1)).Nodup → (∀ p ∈ cs, H p.1 = none) →
    (∀ F', DpAll K F' (cs.map fun p => .ref p.1) (dss.map .tuple) → Same F' (layH H (tupsOf cs)) → Stp Non F H F' (layH H (tupsOf cs)) → R) → R
  | _, _, F, H, fh, .nil, _, _, k => k F .nil fh Stp.refl
  | (a, vs) :: cs, ds :: dss, F, H, fh, .cons h r, nd, hn, k => by
    rw [List.map_cons, List.nodup_cons] at nd
    refine newTups cs dss fh r nd.2 (fun p hp => hn p (List.mem_cons_of_mem _ hp)) fun F' h1 h2 h3 => ?_
    have na : layH H (tupsOf cs) a = none := layH_none (hn _ (List.mem_cons_self ..)) fun p hp e => by
      obtain ⟨q, hq, rfl⟩ := List.mem_map.mp hp
      exact nd.1 (List.mem_map.mpr ⟨q, hq, e⟩)
    refine newTup (Q := fun v H' => v = .ref a ∧ H' = layH H (tupsOf ((a, vs) :: cs)) → R) h2 (dpMonos h3.fs _ _ h) (fun v F2 H2 g1 g2 g3 ⟨e1, e2⟩ => ?_) a na ⟨rfl, rfl⟩
    subst e1
    subst e2
    exact k F2 (.cons g1 (dpMonos g3.fs _ _ h1)) g2 (h3.andN g3)
end Dl
set_option Elab.async false
set_option linter.all false
set_option maxRecDepth 100000
namespace Dl
open PySem PySem.Spec PyProof.Rows L2

/-! ### list(zip(a, b)) -/
def pairC : List Addr → List V → List V → List (Addr × List V)
  | T :: Ts, x :: xs, y :: ys => (T, [x, y]) :: pairC Ts xs ys
  | _, _, _ => []
def pairD : List D → List D → List (List D)
  | x :: xs, y :: ys => [x, y] :: pairD xs ys
  | _, _ => []
theorem pairD_zip : ∀ (xs ys : List D), (pairD xs ys).map .tuple = zipL xs ys
  | [], _ => by simp [pairD, zipL]
  | _ :: _, [] => by simp [pairD, zipL]
  | x :: xs, y :: ys => by simp [pairD, zipL, pairD_zip xs ys]
theorem pairC_fst : ∀ (Ts : List Addr) (xs ys : List V), Ts.length = min xs.length ys.length → (pairC Ts xs ys).map (·.1) = Ts
  | [], _, _, _ => by simp [pairC]
  | T :: Ts, [], ys, h => by simp at h
  | T :: Ts, x :: xs, [], h => by simp at h
  | T :: Ts, x :: xs, y :: ys, h => by
    have h' : Ts.length = min xs.length ys.length := by simp only [List.length_cons] at h; omega
    simp [pairC, pairC_fst Ts xs ys h']
theorem pairC_mem : ∀ {Ts : List Addr} {xs ys : List V} {p : Addr × List V}, p ∈ pairC Ts xs ys → ∃ (j : Nat) (x y : V), Ts[j]? = some p.1 ∧ xs[j]? = some x ∧ ys[j]? = some y ∧ p.2 = [x, y]
  | [], _, _, _, h => by simp [pairC] at h
  | T :: Ts, [], ys, _, h => by simp [pairC] at h
  | T :: Ts, x :: xs, [], _, h => by simp [pairC] at h
  | T :: Ts, x :: xs, y :: ys, p, h => by
    rw [pairC] at h
    rcases List.mem_cons.mp h with rfl | h
    · exact ⟨0, x, y, rfl, rfl, rfl, rfl⟩
    · obtain ⟨j, u, v, a, b, c, d⟩ := pairC_mem h
      exact ⟨j + 1, u, v, a, b, c, d⟩
theorem pairRows {K : PySem.W.Frag} {F : Hp} : ∀ {Ts : List Addr} {xs ys : List V} {ds es : List D}, Ts.length = min xs.length ys.length → DpAll K F xs ds → DpAll K F ys es → DpRows K F (pairC Ts xs ys) (pairD ds es)
  | [], _, _, _, _, h, .nil, _ => by simp [pairC, pairD]; exact .nil
  | [], _, _, _, _, h, .cons a b, .nil => by simp [pairC, pairD]; exact .nil
  | [], _, _, _, _, h, .cons a b, .cons c d => by simp at h
  | T :: Ts, _, _, _, _, h, .nil, _ => by simp at h
  | T :: Ts, _, _, _, _, h, .cons a b, .nil => by simp at h
  | T :: Ts, x :: xs, y :: ys, _, _, h, .cons a b, .cons c d => by
    have h' : Ts.length = min xs.length ys.length := by simp only [List.length_cons] at h; omega
    rw [pairC, pairD]
    exact .cons (.cons a (.cons c .nil)) (pairRows h' b d)
theorem relRefs : ∀ (Ts : List Addr), Vals (Ts.map V.ref) (Ts.map Value.ref)
  | [] => .nil
  | T :: Ts => .cons rfl (relRefs Ts)
theorem invSqZ {X : Cx} {pins : List (Addr × Obj)} {σ : L2.St} {H : Hp} {s : Shared} (I : Inv X pins σ H s) {t : Bool} {a : Addr} {xs : List V} (h : Sq t X.K H a xs) : ∃ its : List Value, Vals xs its ∧ PlAt t s.heap a its.toArray ∧ a < s.heap.objs.size ∧ xs.length ≤ sizeLine := by
  cases t
  · obtain ⟨its, r, p, z⟩ := I.list (show SqL X.K H a xs from h)
    exact ⟨its, r, p.isList, p.lt, z⟩
  · obtain ⟨its, r, p, z⟩ := I.tuple (show SqT X.K H a xs from h)
    have p' := p
    obtain ⟨o, ho, _⟩ := p'
    exact ⟨its, r, p, Heap.lt_size ho, z⟩
def tLZ (K : PySem.W.Frag) (ta : TA) : TE := fun σ H Q => ta σ H fun vs H1 => ∃ (t1 t2 : Bool) (a b : Addr) (xs ys : List V), vs = [.ref a, .ref b] ∧ Sq t1 K H1 a xs ∧ Sq t2 K H1 b ys ∧
  ∀ (S : Addr) (Ts : List Addr), Ts.length = min xs.length ys.length → Ts.Nodup → (∀ T ∈ Ts, S ≠ T ∧ H1 T = none) → H1 S = none → Q (.ref S) (upd (layH H1 (tupsOf (pairC Ts xs ys))) S (.lst (Ts.map V.ref)))
theorem pe_listZip {X : Cx} {e e2 : Expr} {ta : TA} {p pos p2 pos2 : Pos} (hc : X.calm = true) (hgl : Gl X "list") (hml : X.mg "list" = none) (hg : Gl X "zip") (hm : X.mg "zip" = none) (ha : PA X [e, e2] ta)
    (hs : starEach [e, e2] X.env = (false, eval e X.env) :: starEach [e2] X.env := by rfl) (hpl : (backTo pos2 (starEach [e2] X.env)).any (·.1) = false := by rfl) :
    PE X (.Call (.Name "list" p) [.Call (.Name "zip" p2) [e, e2] [] pos2] [] pos) (tLZ X.K ta) := by
  refine ⟨fun pins s σ H Q I h => ?_⟩
  have hh : X.A.handled = none := I.ok.hd hc
  refine Call_ (ld_blt I hgl hml PyProof.Rows.boot_list (PyProof.Rows.callWith_type1 ?_))
  show wpAny _ _ (spliced [(false, eval (.Call (.Name "zip" p2) [e, e2] [] pos2) X.env)]) _ _ s
  refine Calls.spliced_cons ?_
  refine Call_ (ld_blt I hg hm PyProof.Rows.boot_zip (PyProof.Rows.callWith_type1 (thn (ha.run pos2 pins s σ H _ I h) fun us s1 ⟨vs, H1, I1, r1, q1⟩ => ?_) hs hpl))
  obtain ⟨t1, t2, a, b, xs, ys, ex, hqx, hqy, q⟩ := q1
  subst ex
  cases r1 with
  | cons r rr =>
    cases rr with
    | cons r' rr =>
      cases rr
      cases r
      cases r'
      obtain ⟨its, rv, p1, la, zx⟩ := invSqZ I1 hqx
      obtain ⟨its2, rv2, p2, lb, zy⟩ := invSqZ I1 hqy
      have e1 := rv.length
      have e2 := rv2.length
      refine zip_begins2 (beginsX t1 a its.toArray) (beginsX t2 b its2.toArray) p1 p2 fun h' hz hTI hTO h1 h2 hsz hk => ?_
      refine Calls.spliced_nil ?_
      refine lz_call (s := { s1 with heap := h' }) hh (by rw [← e1, ← e2]; omega) la lb (Nat.le_of_eq hsz.symm) ⟨hz, hTI, ⟨_, _, hTO⟩, ⟨IterAt.new h1, p1.at fun o e => hk _ _ e⟩, ⟨IterAt.new h2, p2.at fun o e => hk _ _ e⟩⟩ fun h'' tk Ts c o => ?_
      obtain ⟨o1, o2, o3, o4, o5⟩ := o
      rw [← e1, ← e2] at o1
      have hS : s1.heap.objs.size ≤ h'.objs.size := by rw [hsz]; exact Nat.le_add_right _ _
      have big : ∀ T ∈ Ts, h'.objs.size + 1 ≤ T := fun T hT => by
        obtain ⟨j, hj⟩ := List.getElem?_of_mem hT
        exact (o3 j T hj).1
      have keep : ∀ q u, s1.heap.get? q = some u → h''.get? q = some u := fun q u e => by
        have l := Heap.lt_size e
        exact o5 q u (Nat.ne_of_lt (Nat.lt_of_lt_of_le l hS)) (Nat.ne_of_lt (Nat.lt_of_lt_of_le l (Nat.le_add_right _ _))) (Nat.ne_of_lt (Nat.lt_of_lt_of_le l (Nat.le_add_right _ _))) (Nat.ne_of_lt l) (Nat.ne_of_lt (Nat.lt_succ_of_lt l)) (hk q u e)
      refine ⟨.ref h'.objs.size, _, inv_layH (s := s1) (t' := tk) (cs := (h'.objs.size, .lst (Ts.map V.ref)) :: tupsOf (pairC Ts xs ys)) I1 keep (fun p hp => ?_) (fun p hp => ?_), rfl, q _ Ts o1 o2 (fun T hT => ⟨Nat.ne_of_lt (big T hT), I1.hok.fresh (Nat.le_trans hS (Nat.le_of_succ_le (big T hT)))⟩) (I1.hok.fresh hS)⟩
      · rcases List.mem_cons.mp hp with rfl | hp
        · exact hS
        · obtain ⟨r, hr, rfl⟩ := List.mem_map.mp hp
          obtain ⟨j, x, y, g1, _⟩ := pairC_mem hr
          exact Nat.le_trans hS (Nat.le_of_succ_le (o3 j _ g1).1)
      · rcases List.mem_cons.mp hp with rfl | hp
        · exact ⟨by rw [List.length_map, o1]; omega, _, _, relRefs Ts, o4⟩
        · obtain ⟨r, hr, rfl⟩ := List.mem_map.mp hp
          obtain ⟨j, x, y, g1, g2, g3, g4⟩ := pairC_mem hr
          obtain ⟨_, _, u, v, k1, k2, k3⟩ := o3 j _ g1
          obtain ⟨u', k1', ru⟩ := rv.get g2
          obtain ⟨v', k2', rv'⟩ := rv2.get g3
          rw [k1] at k1'; cases k1'
          rw [k2] at k2'; cases k2'
          show ObjOk _ _ _ _ r.1 (.tup r.2)
          rw [g4]
          exact ⟨by rw [sizeLine_eq]; simp, [u, v], .cons ru (.cons rv' .nil), ⟨_, k3, rfl, _, rfl⟩⟩
/-- list(zip(a, b)) as a list of the frame's own -/
def vZip (f : Fa) : Fv := fun g => (iZipU f g).map fun p => (.own none p.1, p.2)
theorem dv_listZip {X : Cx} {a b : Expr} {p pos p2 pos2 : Pos} {f : Fa} (hc : X.calm = true) (hgl : Gl X "list") (hml : X.mg "list" = none) (hg : Gl X "zip") (hm : X.mg "zip" = none) (ha : DA X [a, b] f)
    (hs : starEach [a, b] X.env = (false, eval a X.env) :: starEach [b] X.env := by rfl) (hpl : (backTo pos2 (starEach [b] X.env)).any (·.1) = false := by rfl) :
    DV X (.Call (.Name "list" p) [.Call (.Name "zip" p2) [a, b] [] pos2] [] pos) (vZip f) := peMono (pe_listZip hc hgl hml hg hm ha hs hpl) fun s H Q ⟨F, g, x, g', r, e, k⟩ => by
  unfold vZip iZipU at e
  split at e
  · rename_i d1 d2 g1 q
    cases q1 : seqD d1 with
    | none => rw [q1] at e; cases e
    | some xs =>
      rw [q1] at e
      cases q2 : seqD d2 with
      | none =>
        have e : Option.map _ ((seqD d2).map _) = some (x, g') := e
        rw [q2] at e; cases e
      | some ys =>
        have e : Option.map _ ((seqD d2).map _) = some (x, g') := e
        rw [q2] at e; cases e
        refine ⟨F, g, _, _, r, q, fun vs F1 H1 p1 r1 t1 m1 => ?_⟩
        obtain ⟨v, w, rfl, h1, h2⟩ := dpTwo p1
        obtain ⟨ta, pa, us, rfl, sa, da⟩ := sqOf h1 r1.fh q1
        obtain ⟨tb, pb, ws, rfl, sb, db⟩ := sqOf h2 r1.fh q2
        refine ⟨ta, tb, pa, pb, us, ws, rfl, sa _ r1.fh, sb _ r1.fh, fun S Ts hl nd hT hS => ?_⟩
        have fst := pairC_fst Ts us ws hl
        refine newTups (K := X.K) (pairC Ts us ws) (pairD xs ys) r1.fh (pairRows hl da db) (by rw [fst]; exact nd) (fun p hp => ?_) fun F2 g1 g2 g3 => ?_
        · exact (hT p.1 (by rw [← fst]; exact List.mem_map.mpr ⟨p, hp, rfl⟩)).2
        · rw [pairD_zip] at g1
          have e3 : (pairC Ts us ws).map (fun p => V.ref p.1) = Ts.map V.ref := by rw [← fst, List.map_map]; rw [fst]; rfl
          rw [e3] at g1
          refine newLst (r1.stepN g3 g2) g1 (t1.andN g3) m1 k S (layH_none hS fun p hp e => ?_)
          obtain ⟨q, hq, rfl⟩ := List.mem_map.mp hp
          exact (hT q.1 (by rw [← fst]; exact List.mem_map.mpr ⟨q, hq, rfl⟩)).1 e.symm
  · cases e
end Dl
set_option Elab.async false
set_option linter.all false
set_option maxRecDepth 100000
namespace Dl
open PySem PySem.Spec PyProof.Rows L2

/-! ### the next pair of a zip, whatever became of the pair ahead of it -/
abbrev ZAny (h : Heap) (z TI TO : Addr) (u : Value) (f : Bool) : Prop :=
  h.get? z = some { cls := .type "zip", dict := none, data := .fields #[u, .bool f, .bool false, .ref TI, .ref TO], slots := #[] }
/-- a zip's word for the pair that it handed out -/
def ZWord (u : Value) : Prop := u = .none ∨ ∃ T : Addr, u = rawInt T
section
variable {prog : Program} {w : World} {A : Around} {E : Value → Shared → Prop} {s : Shared} {z TI TO i1 i2 : Addr} {fp1 fp2 : List Addr} {n1 n2 i : Nat} {P1 P2 : Nat → Value → Prop} {St1 St2 : Nat → Heap → Prop} {u a1 a2 : Value} {f : Bool}
theorem gone_load {T : Addr} {Q : Option Obj → Shared → Prop} (hT : s.heap.get? T = none) (k : Q none s) : wpAny (model prog w) A (loadIfAlive T) Q E s := by
  have q : Q (s.heap.get? T) s := by rw [hT]; exact k
  exact fun _ _ _ => q
/-- whether a zip's own pair is free: yes, or no with its mark set -/
theorem word_free {Q : Bool → Shared → Prop} (hz : ZAny s.heap z TI TO u f) (hu : ZWord u) (k1 : Q true s) (k2 : ∀ (T : Addr) oT, u = rawInt T → s.heap.get? T = some oT → wpAny (model prog w) A (Builtin.SmallTypes.ownedTupleIsFree (.ref z)) Q E s) :
    wpAny (model prog w) A (Builtin.SmallTypes.ownedTupleIsFree (.ref z)) Q E s := by
  rcases hu with e | ⟨T, e⟩
  · unfold Builtin.SmallTypes.ownedTupleIsFree
    refine wpAny_bind (wpAny_field (x := u) hz rfl rfl ?_)
    subst e
    exact wpAny_pure k1
  · cases q : s.heap.get? T with
    | some oT => exact k2 T oT e q
    | none =>
      unfold Builtin.SmallTypes.ownedTupleIsFree
      refine wpAny_bind (wpAny_field (x := u) hz rfl rfl ?_)
      subst e
      show wpAny _ _ (loadIfAlive ((T : Int).toNat) >>= _) _ _ _
      rw [Int.toNat_natCast]
      exact wpAny_bind (gone_load q (wpAny_pure k1))
/-- the pair is free: the zip's own one is filled anew -/
theorem freed_item {Q : Value → Shared → Prop} (S : ZipSep2 z TI TO i1 i2 fp1 fp2) (D1 : Draws prog w A i1 fp1 n1 P1 St1) (D2 : Draws prog w A i2 fp2 n2 P2 St2) (hz : ZAny s.heap z TI TO u f)
    (hF : ∀ Q' : Bool → Shared → Prop, Q' true s → wpAny (model prog w) A (Builtin.SmallTypes.ownedTupleIsFree (.ref z)) Q' E s) (hTI : IsTupOf2 s.heap TI (.ref i1) (.ref i2)) (hTO : IsTupOf2 s.heap TO a1 a2)
    (st1 : St1 i s.heap) (st2 : St2 i s.heap) (l1 : i < n1) (l2 : i < n2)
    (hQ : ∀ x y h' tk, P1 i x → P2 i y → ZAny h' z TI TO (rawInt s.heap.objs.size) false → IsTupOf2 h' TO x y → St1 (i + 1) h' → St2 (i + 1) h' → IsTupOf2 h' s.heap.objs.size x y → h'.objs.size = s.heap.objs.size + 1 →
      (∀ c o, c ≠ z → c ≠ TO → c ≠ i1 → c ≠ i2 → s.heap.get? c = some o → h'.get? c = some o) → Q (.ref s.heap.objs.size) { s with heap := h', toks := tk }) :
    wpAny (model prog w) A (Builtin.«zip.__next__» ⟨[.ref z], []⟩) (fun fin s' => ∃ v, fin = .done (.ret v) ∧ Q v s') E s := by
  obtain ⟨m0, gg, dd, t0, os⟩ := s
  show wpAny _ _ (field (Value.ref z) 2 >>= _) _ _ _
  refine wpAny_bind (wpAny_field (x := .bool false) hz rfl rfl ?_)
  show wpAny _ _ (field (Value.ref z) 3 >>= _) _ _ _
  refine wpAny_bind (wpAny_field (x := .ref TI) hz rfl rfl (wpAny_bind (wpAny_seqItems hTI rfl ?_)))
  show wpAny _ _ (Builtin.SmallTypes.ownedTupleIsFree (Value.ref z) >>= _) _ _ _
  refine wpAny_bind (hF _ ?_)
  rw [if_pos rfl]
  refine wpAny_bind (wpAny_rule (wpAny_bind (wpAny_field (x := .ref TO) hz rfl rfl (wpAny_bind (wpAny_setField_rec hz (by simp) fun m1 y1 k1 => ?_)))))
  replace y1 : ZAny m1 z TI TO .ellipsis f := y1
  replace k1 : Heap.SameBut z m0 m1 := k1
  simp only [List.zipIdx_cons, List.zipIdx_nil, List.forIn_cons, List.forIn_nil]
  refine wpAny_bind (wpAny_bind (wpAny_bind (wpAny_onRaise ?_)))
  show wpAny _ _ (Builtin.SmallTypes.nextOf (Value.ref i1) >>= _) _ _ ⟨m1, gg, dd, t0, os⟩
  refine wpAny_bind (D1.item i _ _ _ l1 (D1.over st1 k1 S.zf1) fun x m2 t2 px sx k2 => wpAny_pure ?_)
  replace k2 : Heap.SameBut i1 m1 m2 := k2
  have U1 : IsTupOf2 m2 TO a1 a2 := k2.extBut _ _ S.Ti1 (k1.extBut _ _ S.TOz hTO)
  refine wpAny_bind (wpAny_seqItems (s := ⟨m2, gg, dd, t2, os⟩) U1 rfl (wpAny_bind (updateSeq_IsTupOf2 (s := ⟨m2, gg, dd, t2, os⟩) U1 fun m3 U2 k3 => ?_)))
  replace U2 : IsTupOf2 m3 TO x a2 := U2
  replace k3 : Heap.SameBut TO m2 m3 := k3
  refine wpAny_bind (wpAny_letGo (wpAny_pure (wpAny_bind (wpAny_bind (wpAny_onRaise ?_)))))
  show wpAny _ _ (Builtin.SmallTypes.nextOf (Value.ref i2) >>= _) _ _ ⟨m3, gg, dd, t2, os⟩
  refine wpAny_bind (D2.item i _ _ _ l2 (D2.over (D2.over (D2.over st2 k1 S.zf2) k2 S.sep1_2) k3 S.Tf2) fun y m4 t4 py sy k4 => wpAny_pure ?_)
  replace k4 : Heap.SameBut i2 m3 m4 := k4
  have U3 : IsTupOf2 m4 TO x a2 := k4.extBut _ _ S.Ti2 U2
  refine wpAny_bind (wpAny_seqItems (s := ⟨m4, gg, dd, t4, os⟩) U3 rfl (wpAny_bind (updateSeq_IsTupOf2 (s := ⟨m4, gg, dd, t4, os⟩) U3 fun m5 U4 k5 => ?_)))
  replace U4 : IsTupOf2 m5 TO x y := U4
  replace k5 : Heap.SameBut TO m4 m5 := k5
  refine wpAny_bind (wpAny_letGo (wpAny_pure (wpAny_pure ?_)))
  refine wpAny_bind (wpAny_seqItems (s := ⟨m5, gg, dd, t4, os⟩) U4 rfl (wpAny_bind (wpAny_newTuple ?_)))
  have sz : m5.objs.size = m0.objs.size := by rw [k5.1, k4.1, k3.1, k2.1, k1.1]
  have y5 : ZAny m5 z TI TO .ellipsis f := k5.extBut _ _ S.TOz.symm (k4.extBut _ _ S.zi2 (k3.extBut _ _ S.TOz.symm (k2.extBut _ _ S.zi1 y1)))
  have kk : ∀ c o, c ≠ z → c ≠ TO → c ≠ i1 → c ≠ i2 → m0.get? c = some o → m5.get? c = some o := fun c o e1 e2 e3 e4 e =>
    k5.extBut _ _ e2 (k4.extBut _ _ e4 (k3.extBut _ _ e2 (k2.extBut _ _ e3 (k1.extBut _ _ e1 e))))
  have j1 : St1 (i + 1) m5 := D1.over (D1.over (D1.over sx k3 S.Tf1) k4 S.sep2_1) k5 S.Tf1
  have j2 : St2 (i + 1) m5 := D2.over sy k5 S.Tf2
  have zl : z < m5.objs.size := Heap.lt_size y5
  show wpAny _ _ (Builtin.SmallTypes.ownedTupleHandOut (Value.ref z) (.ref m5.objs.size) >>= _) _ _ ⟨m5.push { cls := .type "tuple", data := .seq #[x, y] }, gg, dd, t4, os⟩
  unfold Builtin.SmallTypes.ownedTupleHandOut
  have y6 : ZAny (m5.push { cls := .type "tuple", data := .seq #[x, y] }) z TI TO .ellipsis f := Heap.get?_push_of_some _ y5
  refine wpAny_bind (wpAny_bind (wpAny_setField_rec y6 (by simp) fun m7 y7 k7 => ?_))
  replace y7 : ZAny m7 z TI TO (rawInt m5.objs.size) f := y7
  replace k7 : Heap.SameBut z (m5.push { cls := .type "tuple", data := .seq #[x, y] }) m7 := k7
  refine wpAny_setField_rec y7 (by simp) fun m8 y8 k8 => ?_
  replace y8 : ZAny m8 z TI TO (rawInt m5.objs.size) false := y8
  replace k8 : Heap.SameBut z m7 m8 := k8
  have up : ∀ c o, c ≠ z → m5.get? c = some o → m8.get? c = some o := fun c o e1 e => k8.extBut _ _ e1 (k7.extBut _ _ e1 (Heap.get?_push_of_some _ e))
  have T8 : IsTupOf2 m8 m5.objs.size x y := k8.extBut _ _ (Nat.ne_of_gt zl) (k7.extBut _ _ (Nat.ne_of_gt zl) (Heap.get?_push_size _ rfl))
  have z8 : m8.objs.size = m5.objs.size + 1 := by rw [k8.1, k7.1, Heap.size_push]
  rw [sz] at y8 T8 z8
  refine wpAny_pure ⟨_, rfl, ?_⟩
  show Q (.ref m5.objs.size) ⟨m8, gg, dd, t4, os⟩
  rw [sz]
  exact hQ x y m8 t4 px py y8 (up _ _ S.TOz U4) (D1.frame _ _ _ j1 fun b hb o e => up b o (fun q => S.zf1 (q ▸ hb)) e) (D2.frame _ _ _ j2 fun b hb o e => up b o (fun q => S.zf2 (q ▸ hb)) e) T8 z8 fun c o e1 e2 e3 e4 e => up c o e1 (kk c o e1 e2 e3 e4 e)
theorem any_item {Q : Value → Shared → Prop} (S : ZipSep2 z TI TO i1 i2 fp1 fp2) (D1 : Draws prog w A i1 fp1 n1 P1 St1) (D2 : Draws prog w A i2 fp2 n2 P2 St2) (hz : ZAny s.heap z TI TO u f) (hu : ZWord u)
    (hTI : IsTupOf2 s.heap TI (.ref i1) (.ref i2)) (hTO : IsTupOf2 s.heap TO a1 a2) (st1 : St1 i s.heap) (st2 : St2 i s.heap) (l1 : i < n1) (l2 : i < n2)
    (hQ : ∀ x y h' tk u' f', P1 i x → P2 i y → ZAny h' z TI TO u' f' → ZWord u' → (∃ b1 b2, IsTupOf2 h' TO b1 b2) → St1 (i + 1) h' → St2 (i + 1) h' → IsTupOf2 h' s.heap.objs.size x y → h'.objs.size = s.heap.objs.size + 1 →
      (∀ c o, c ≠ z → c ≠ TO → c ≠ i1 → c ≠ i2 → s.heap.get? c = some o → h'.get? c = some o) → Q (.ref s.heap.objs.size) { s with heap := h', toks := tk }) :
    wpAny (model prog w) A (Builtin.«zip.__next__» ⟨[.ref z], []⟩) (fun fin s' => ∃ v, fin = .done (.ret v) ∧ Q v s') E s := by
  by_cases c : ∃ (T : Addr) (oT : Obj), u = rawInt T ∧ s.heap.get? T = some oT
  · obtain ⟨T, oT, e, hT⟩ := c
    subst e
    exact held_item S D1 D2 hz hT hTI st1 st2 l1 l2 fun x y h' tk px py z' q1 q2 hp sz kp => hQ x y h' tk _ true px py z' (.inr ⟨T, rfl⟩) ⟨a1, a2, kp _ _ S.TOz S.Ti1 S.Ti2 hTO⟩ q1 q2 hp sz fun c o e1 _ e3 e4 e => kp c o e1 e3 e4 e
  · refine freed_item S D1 D2 hz (fun Q' k => word_free hz hu k fun T oT e hT => absurd ⟨T, oT, e, hT⟩ c) hTI hTO st1 st2 l1 l2 fun x y h' tk px py z' o' q1 q2 hp sz kp => ?_
    exact hQ x y h' tk _ false px py z' (.inr ⟨_, rfl⟩) ⟨x, y, o'⟩ q1 q2 hp sz kp
/-- the pair is free: no more -/
theorem freed_end {Q : Fin → Shared → Prop} (S : ZipSep2 z TI TO i1 i2 fp1 fp2) (D1 : Draws prog w A i1 fp1 n1 P1 St1) (D2 : Draws prog w A i2 fp2 n2 P2 St2) (hz : ZAny s.heap z TI TO u f)
    (hF : ∀ Q' : Bool → Shared → Prop, Q' true s → wpAny (model prog w) A (Builtin.SmallTypes.ownedTupleIsFree (.ref z)) Q' E s) (hTI : IsTupOf2 s.heap TI (.ref i1) (.ref i2)) (hTO : IsTupOf2 s.heap TO a1 a2)
    (st1 : St1 i s.heap) (st2 : St2 i s.heap) (l1 : i ≤ n1) (l2 : i ≤ n2) (hend : i = n1 ∨ i = n2)
    (hE : ∀ h' tk e, (∀ c o, c ≠ z → c ≠ TO → c ≠ i1 → c ≠ i2 → s.heap.get? c = some o → h'.get? c = some o) → (∃ o, h'.get? e = some o ∧ o.cls = .type "StopIteration") → E (.ref e) { s with heap := h', toks := tk }) :
    wpAny (model prog w) A (Builtin.«zip.__next__» ⟨[.ref z], []⟩) Q E s := by
  obtain ⟨m0, gg, dd, t0, os⟩ := s
  show wpAny _ _ (field (Value.ref z) 2 >>= _) _ _ _
  refine wpAny_bind (wpAny_field (x := .bool false) hz rfl rfl ?_)
  show wpAny _ _ (field (Value.ref z) 3 >>= _) _ _ _
  refine wpAny_bind (wpAny_field (x := .ref TI) hz rfl rfl (wpAny_bind (wpAny_seqItems hTI rfl ?_)))
  show wpAny _ _ (Builtin.SmallTypes.ownedTupleIsFree (Value.ref z) >>= _) _ _ _
  refine wpAny_bind (hF _ ?_)
  rw [if_pos rfl]
  refine wpAny_bind (wpAny_rule (wpAny_bind (wpAny_field (x := .ref TO) hz rfl rfl (wpAny_bind (wpAny_setField_rec hz (by simp) fun m1 y1 k1 => ?_)))))
  replace y1 : ZAny m1 z TI TO .ellipsis f := y1
  replace k1 : Heap.SameBut z m0 m1 := k1
  simp only [List.zipIdx_cons, List.zipIdx_nil, List.forIn_cons, List.forIn_nil]
  refine wpAny_bind (wpAny_bind (wpAny_bind (wpAny_onRaise ?_)))
  show wpAny _ _ (Builtin.SmallTypes.nextOf (Value.ref i1) >>= _) _ _ ⟨m1, gg, dd, t0, os⟩
  by_cases c1 : i = n1
  · refine wpAny_bind (D1.done ⟨m1, gg, dd, t0, os⟩ _ _ (by rw [← c1]; exact D1.over st1 k1 S.zf1) fun m2 e k2 he => ?_)
    replace k2 : Heap.ExtBut i1 m1 m2 := k2
    obtain ⟨oe, ge, ce⟩ := he
    replace ge : m2.get? e = some oe := ge
    have y2 : ZAny m2 z TI TO .ellipsis f := k2 _ _ S.zi1 y1
    have ne : e ≠ z := fun q => by subst q; rw [y2] at ge; cases ge; simp at ce
    refine wpAny_setField_rec (s := ⟨m2, gg, dd, t0, os⟩) y2 (by simp) fun m3 _ k3 => ?_
    replace k3 : Heap.SameBut z m2 m3 := k3
    exact hE m3 t0 e (fun c o e1 e2 e3 e4 q => k3.extBut _ _ e1 (k2 _ _ e3 (k1.extBut _ _ e1 q))) ⟨oe, k3.extBut _ _ ne ge, ce⟩
  · have c2 : i = n2 := hend.resolve_left c1
    refine wpAny_bind (D1.item i _ _ _ (by omega) (D1.over st1 k1 S.zf1) fun x m2 t2 px sx k2 => wpAny_pure ?_)
    replace k2 : Heap.SameBut i1 m1 m2 := k2
    have U1 : IsTupOf2 m2 TO a1 a2 := k2.extBut _ _ S.Ti1 (k1.extBut _ _ S.TOz hTO)
    refine wpAny_bind (wpAny_seqItems (s := ⟨m2, gg, dd, t2, os⟩) U1 rfl (wpAny_bind (updateSeq_IsTupOf2 (s := ⟨m2, gg, dd, t2, os⟩) U1 fun m3 U2 k3 => ?_)))
    replace k3 : Heap.SameBut TO m2 m3 := k3
    refine wpAny_bind (wpAny_letGo (wpAny_pure (wpAny_bind (wpAny_bind (wpAny_onRaise ?_)))))
    show wpAny _ _ (Builtin.SmallTypes.nextOf (Value.ref i2) >>= _) _ _ ⟨m3, gg, dd, t2, os⟩
    refine wpAny_bind (D2.done ⟨m3, gg, dd, t2, os⟩ _ _ (by rw [← c2]; exact D2.over (D2.over (D2.over st2 k1 S.zf2) k2 S.sep1_2) k3 S.Tf2) fun m4 e k4 he => ?_)
    replace k4 : Heap.ExtBut i2 m3 m4 := k4
    obtain ⟨oe, ge, ce⟩ := he
    replace ge : m4.get? e = some oe := ge
    have y4 : ZAny m4 z TI TO .ellipsis f := k4 _ _ S.zi2 (k3.extBut _ _ S.TOz.symm (k2.extBut _ _ S.zi1 y1))
    have ne : e ≠ z := fun q => by subst q; rw [y4] at ge; cases ge; simp at ce
    refine wpAny_setField_rec (s := ⟨m4, gg, dd, t2, os⟩) y4 (by simp) fun m5 _ k5 => ?_
    replace k5 : Heap.SameBut z m4 m5 := k5
    exact hE m5 t2 e (fun c o e1 e2 e3 e4 q => k5.extBut _ _ e1 (k4 _ _ e4 (k3.extBut _ _ e2 (k2.extBut _ _ e3 (k1.extBut _ _ e1 q))))) ⟨oe, k5.extBut _ _ ne ge, ce⟩
theorem any_end {Q : Fin → Shared → Prop} (S : ZipSep2 z TI TO i1 i2 fp1 fp2) (D1 : Draws prog w A i1 fp1 n1 P1 St1) (D2 : Draws prog w A i2 fp2 n2 P2 St2) (hz : ZAny s.heap z TI TO u f) (hu : ZWord u)
    (hTI : IsTupOf2 s.heap TI (.ref i1) (.ref i2)) (hTO : IsTupOf2 s.heap TO a1 a2) (st1 : St1 i s.heap) (st2 : St2 i s.heap) (l1 : i ≤ n1) (l2 : i ≤ n2) (hend : i = n1 ∨ i = n2)
    (hE : ∀ h' tk e, (∀ c o, c ≠ z → c ≠ TO → c ≠ i1 → c ≠ i2 → s.heap.get? c = some o → h'.get? c = some o) → (∃ o, h'.get? e = some o ∧ o.cls = .type "StopIteration") → E (.ref e) { s with heap := h', toks := tk }) :
    wpAny (model prog w) A (Builtin.«zip.__next__» ⟨[.ref z], []⟩) Q E s := by
  by_cases c : ∃ (T : Addr) (oT : Obj), u = rawInt T ∧ s.heap.get? T = some oT
  · obtain ⟨T, oT, e, hT⟩ := c
    subst e
    exact held_end S D1 D2 hz hT hTI st1 st2 l1 l2 hend fun h' tk e kp he => hE h' tk e (fun c o e1 _ e3 e4 q => kp c o e1 e3 e4 q) he
  · exact freed_end S D1 D2 hz (fun Q' k => word_free hz hu k fun T oT e hT => absurd ⟨T, oT, e, hT⟩ c) hTI hTO st1 st2 l1 l2 hend hE
/-- the step as enumerate takes it -/
theorem any_nextOf {Q : Value → Shared → Prop} (S : ZipSep2 z TI TO i1 i2 fp1 fp2) (D1 : Draws prog w A.in1 i1 fp1 n1 P1 St1) (D2 : Draws prog w A.in1 i2 fp2 n2 P2 St2) (hz : ZAny s.heap z TI TO u f) (hu : ZWord u)
    (hTI : IsTupOf2 s.heap TI (.ref i1) (.ref i2)) (hTO : IsTupOf2 s.heap TO a1 a2) (st1 : St1 i s.heap) (st2 : St2 i s.heap) (l1 : i < n1) (l2 : i < n2)
    (hQ : ∀ x y h' tk u' f', P1 i x → P2 i y → ZAny h' z TI TO u' f' → ZWord u' → (∃ b1 b2, IsTupOf2 h' TO b1 b2) → St1 (i + 1) h' → St2 (i + 1) h' → IsTupOf2 h' s.heap.objs.size x y → h'.objs.size = s.heap.objs.size + 1 →
      (∀ c o, c ≠ z → c ≠ TO → c ≠ i1 → c ≠ i2 → s.heap.get? c = some o → h'.get? c = some o) → Q (.ref s.heap.objs.size) { s with heap := h', toks := tk }) :
    wpAny (model prog w) A (Builtin.SmallTypes.nextOf (.ref z)) Q E s := by
  have ty : s.TypeIs (.ref z) "zip" := ⟨_, hz, rfl⟩
  unfold Builtin.SmallTypes.nextOf
  exact wpAny_bind (wpAny_callSpecial?_slot (name := Str.ofString "__next__") ty F.slot_zip_next (wpAny_call_entry F.slot_zip_next ty F.entry_zip_next
    (any_item S D1 D2 hz hu hTI hTO st1 st2 l1 l2 fun x y h' tk u' f' p1 p2 q1 q2 q3 q4 q5 q6 q7 q8 => wpAny_pure ((hQ x y h' tk u' f' p1 p2 q1 q2 q3 q4 q5 q6 q7 q8))) (F.args_zip_next_1 _)))
theorem any_nextEnd {Q : Value → Shared → Prop} (S : ZipSep2 z TI TO i1 i2 fp1 fp2) (D1 : Draws prog w A.in1 i1 fp1 n1 P1 St1) (D2 : Draws prog w A.in1 i2 fp2 n2 P2 St2) (hz : ZAny s.heap z TI TO u f) (hu : ZWord u)
    (hTI : IsTupOf2 s.heap TI (.ref i1) (.ref i2)) (hTO : IsTupOf2 s.heap TO a1 a2) (st1 : St1 i s.heap) (st2 : St2 i s.heap) (l1 : i ≤ n1) (l2 : i ≤ n2) (hend : i = n1 ∨ i = n2)
    (hE : ∀ h' tk e, (∀ c o, c ≠ z → c ≠ TO → c ≠ i1 → c ≠ i2 → s.heap.get? c = some o → h'.get? c = some o) → (∃ o, h'.get? e = some o ∧ o.cls = .type "StopIteration") → E (.ref e) { s with heap := h', toks := tk }) :
    wpAny (model prog w) A (Builtin.SmallTypes.nextOf (.ref z)) Q E s := by
  have ty : s.TypeIs (.ref z) "zip" := ⟨_, hz, rfl⟩
  unfold Builtin.SmallTypes.nextOf
  exact wpAny_bind (wpAny_callSpecial?_slot (name := Str.ofString "__next__") ty F.slot_zip_next (wpAny_call_entry F.slot_zip_next ty F.entry_zip_next
    (any_end S D1 D2 hz hu hTI hTO st1 st2 l1 l2 hend hE) (F.args_zip_next_1 _)))
end
end Dl
set_option Elab.async false
set_option linter.all false
set_option maxRecDepth 100000
namespace Dl
open PySem PySem.Spec PyProof.Rows L2

/-! ### enumerate over an iterator that makes new things -/
section
variable {prog : Program} {w : World} {A : Around} {E : Value → Shared → Prop} {s : Shared}
theorem enum_over {e it : Addr} {c : Int} {old : Value} {Q : Value → Shared → Prop} (R : Value → Heap → Prop) (he : IsEnum s.heap e it c old)
    (hI : ∀ Q' : Value → Shared → Prop, (∀ x h1 tk, R x h1 → IsEnum h1 e it c old → Q' x { s with heap := h1, toks := tk }) → wpAny (model prog w) A (Builtin.SmallTypes.nextOf (.ref it)) Q' E s)
    (hQ : ∀ x h1 h' tk, R x h1 → IsEnumOut h' e it (c + 1) x h1.objs.size → h'.get? h1.objs.size = some { cls := .type "tuple", data := .seq #[.int c tk, x] } → h'.objs.size = h1.objs.size + 1 →
      (∀ b o, b ≠ e → h1.get? b = some o → h'.get? b = some o) → Q (.ref h1.objs.size) { s with heap := h', toks := tk + 1 }) :
    wpAny (model prog w) A (Builtin.«enumerate.__next__» ⟨[.ref e], []⟩) (fun fin s' => ∃ v, fin = .done (.ret v) ∧ Q v s') E s := by
  obtain ⟨m0, gg, dd, t0, os⟩ := s
  show wpAny _ _ (field (Value.ref e) 2 >>= _) _ _ _
  refine wpAny_bind (wpAny_field (x := .ref it) he rfl rfl (wpAny_bind (hI _ fun x m1 tk px y1 => ?_)))
  replace y1 : IsEnum m1 e it c old := y1
  show wpAny _ _ (field (Value.ref e) 3 >>= _) _ _ ⟨m1, gg, dd, tk, os⟩
  refine wpAny_bind (wpAny_field (x := rawInt c) y1 rfl rfl ?_)
  show wpAny _ _ (field (Value.ref e) 4 >>= _) _ _ ⟨m1, gg, dd, tk, os⟩
  refine wpAny_bind (wpAny_field (x := .none) y1 rfl rfl ?_)
  show wpAny _ _ (mkInt c >>= _) _ _ ⟨m1, gg, dd, tk, os⟩
  refine wpAny_bind (wpAny_mkInt ?_)
  show wpAny _ _ (setField (Value.ref e) 3 (rawInt (c + 1)) >>= _) _ _ ⟨m1, gg, dd, tk + 1, os⟩
  refine wpAny_bind (wpAny_setField_rec y1 (by simp) fun m2 y2 k2 => ?_)
  replace k2 : Heap.SameBut e m1 m2 := k2
  replace y2 : IsEnum m2 e it (c + 1) old := y2
  show wpAny _ _ (setField (Value.ref e) 4 .none >>= _) _ _ ⟨m2, gg, dd, tk + 1, os⟩
  refine wpAny_bind (wpAny_setField_rec y2 (by simp) fun m3 y3 k3 => ?_)
  replace k3 : Heap.SameBut e m2 m3 := k3
  replace y3 : IsEnum m3 e it (c + 1) old := y3
  show wpAny _ _ (newTuple [.int c tk, x] >>= _) _ _ ⟨m3, gg, dd, tk + 1, os⟩
  refine wpAny_bind (wpAny_newTuple ?_)
  have y4 : IsEnum (m3.push { cls := .type "tuple", data := .seq #[.int c tk, x] }) e it (c + 1) old := Heap.get?_push_of_some _ y3
  generalize g4 : m3.push { cls := .type "tuple", data := .seq #[.int c tk, x] } = m4 at y4
  have sz : m3.objs.size = m1.objs.size := by rw [k3.1, k2.1]
  have el : e < m1.objs.size := Heap.lt_size y1
  have T4 : m4.get? m1.objs.size = some { cls := .type "tuple", data := .seq #[.int c tk, x] } := by rw [← g4, ← sz]; exact Heap.get?_push_size _ rfl
  have z4 : m4.objs.size = m1.objs.size + 1 := by rw [← g4, Heap.size_push, sz]
  have kk : ∀ b o, b ≠ e → m1.get? b = some o → m4.get? b = some o := fun b o ne q => by
    rw [← g4]; exact Heap.get?_push_of_some _ (k3.extBut b o ne (k2.extBut b o ne q))
  show wpAny _ _ (Builtin.SmallTypes.ownedTupleIsFree (Value.ref e) >>= _) _ _ ⟨m4, gg, dd, tk + 1, os⟩
  rw [sz]
  clear g4 y3 k3 y2 k2 sz m3 m2
  unfold Builtin.SmallTypes.ownedTupleIsFree
  refine wpAny_bind (wpAny_bind (wpAny_field (x := .none) y4 rfl rfl (wpAny_pure ?_)))
  rw [if_pos rfl]
  refine wpAny_bind (wpAny_rule (wpAny_bind (wpAny_field (x := old) y4 rfl rfl (wpAny_bind (wpAny_setField_rec y4 (by simp) fun m5 y5 k5 => ?_)))))
  replace k5 : Heap.SameBut e m4 m5 := k5
  replace y5 : IsEnum m5 e it (c + 1) x := y5
  show wpAny _ _ (Builtin.SmallTypes.ownedTupleHandOut (Value.ref e) (.ref m1.objs.size) >>= _) _ _ ⟨m5, gg, dd, tk + 1, os⟩
  unfold Builtin.SmallTypes.ownedTupleHandOut
  refine wpAny_bind (wpAny_bind (wpAny_setField_rec y5 (by simp) fun m6 y6 k6 => ?_))
  replace k6 : Heap.SameBut e m5 m6 := k6
  replace y6 : IsEnumOut m6 e it (c + 1) x m1.objs.size := y6
  refine wpAny_setField_rec y6 (by simp) fun m7 y7 k7 => ?_
  replace k7 : Heap.SameBut e m6 m7 := k7
  replace y7 : IsEnumOut m7 e it (c + 1) x m1.objs.size := y7
  refine wpAny_bind (wpAny_letGo (wpAny_pure ⟨_, rfl, hQ x m1 m7 tk px y7 ?_ ?_ ?_⟩))
  · exact k7.extBut _ _ (Nat.ne_of_gt el) (k6.extBut _ _ (Nat.ne_of_gt el) (k5.extBut _ _ (Nat.ne_of_gt el) T4))
  · rw [k7.1, k6.1, k5.1, z4]
  · exact fun b o ne q => k7.extBut b o ne (k6.extBut b o ne (k5.extBut b o ne (kk b o ne q)))
theorem enum_pyNext {e it : Addr} {c : Int} {old : Value} {Q : Option Value → Shared → Prop} (R : Value → Heap → Prop) (he : IsEnum s.heap e it c old)
    (hI : ∀ Q' : Value → Shared → Prop, (∀ x h1 tk, R x h1 → IsEnum h1 e it c old → Q' x { s with heap := h1, toks := tk }) → wpAny (model prog w) A.in1 (Builtin.SmallTypes.nextOf (.ref it)) Q' (fun _ _ => False) s)
    (hQ : ∀ x h1 h' tk, R x h1 → IsEnumOut h' e it (c + 1) x h1.objs.size → h'.get? h1.objs.size = some { cls := .type "tuple", data := .seq #[.int c tk, x] } → h'.objs.size = h1.objs.size + 1 →
      (∀ b o, b ≠ e → h1.get? b = some o → h'.get? b = some o) → Q (some (.ref h1.objs.size)) { s with heap := h', toks := tk + 1 }) :
    wpAny (model prog w) A (pyNext (.ref e)) Q E s := by
  have ty : s.TypeIs (.ref e) "enumerate" := ⟨_, he, rfl⟩
  unfold pyNext
  refine wpAny_bind (wpAny_attempt (wpAny_callSpecial?_slot (name := Str.ofString "__next__") ty F.slot_enumerate_next (wpAny_call_entry F.slot_enumerate_next ty F.entry_enumerate_next ?_ (F.args_enumerate_next_1 _))))
  exact enum_over R he (fun Q' k => wpAny_mono (hI Q' k) (fun _ _ q => q) fun _ _ q => q.elim) fun x h1 h' tk a b d g k => wpAny_pure (hQ x h1 h' tk a b d g k)
theorem enum_pyStop {e it : Addr} {c : Int} {old : Value} {Q : Option Value → Shared → Prop} (he : IsEnum s.heap e it c old)
    (hI : ∀ E' : Value → Shared → Prop, (∀ x h' tk, (∃ o, h'.get? x = some o ∧ o.cls = .type "StopIteration") → Q none { s with heap := h', toks := tk } → E' (.ref x) { s with heap := h', toks := tk }) → ∀ Q', wpAny (model prog w) A.in1 (Builtin.SmallTypes.nextOf (.ref it)) Q' E' s) :
    wpAny (model prog w) A (pyNext (.ref e)) Q E s := by
  have ty : s.TypeIs (.ref e) "enumerate" := ⟨_, he, rfl⟩
  unfold pyNext
  refine wpAny_bind (wpAny_attempt (wpAny_callSpecial?_slot (name := Str.ofString "__next__") ty F.slot_enumerate_next (wpAny_call_entry F.slot_enumerate_next ty F.entry_enumerate_next ?_ (F.args_enumerate_next_1 _))))
  show wpAny _ _ (field (Value.ref e) 2 >>= _) _ _ _
  refine wpAny_bind (wpAny_field (x := .ref it) he rfl rfl (wpAny_bind (hI _ (fun x h' tk hx q => ?_) _)))
  obtain ⟨o, ho, hc⟩ := hx
  exact wpAny_bind (wpAny_isInstance (T := "StopIteration") (b := true) ⟨o, ho, hc⟩ isSubtype_stop (wpAny_pure q))
end
end Dl
set_option Elab.async false
set_option linter.all false
set_option maxRecDepth 100000
namespace Dl
open PySem PySem.Spec PyProof.Rows L2

/-! ### enumerate(zip(a, b)) -/
def ItEZ (K : PySem.W.Frag) (t1 t2 : Bool) (a b : Addr) : It :=
  ⟨fun i H => ∃ (xs ys : List V) (x y : V), Sq t1 K H a xs ∧ Sq t2 K H b ys ∧ xs[i]? = some x ∧ ys[i]? = some y,
    fun i H v H' => ∃ T U x y, v = .ref U ∧ H T = none ∧ H U = none ∧ T ≠ U ∧ H' = upd (upd H T (.tup [x, y])) U (.tup [.int (i : Nat), .ref T]) ∧ (∀ xs, Sq t1 K H a xs → xs[i]? = some x) ∧ ∀ ys, Sq t2 K H b ys → ys[i]? = some y,
    fun i H => ∃ xs ys : List V, Sq t1 K H a xs ∧ Sq t2 K H b ys ∧ i = min xs.length ys.length⟩
def EZ (t1 t2 : Bool) (a b e z TI TO i1 i2 : Addr) (i : Nat) (h : Heap) : Prop :=
  (∃ old, IsEnum h e z ((0 : Int) + ((i : Nat) : Int)) old) ∧ (∃ u f, ZAny h z TI TO u f ∧ ZWord u) ∧ IsTupOf2 h TI (.ref i1) (.ref i2) ∧ (∃ x y, IsTupOf2 h TO x y) ∧ IterAt t1 h i1 a i ∧ IterAt t2 h i2 b i
theorem turnEZ {P : Program} {w : World} {K : PySem.W.Frag} {elts : List Expr} {kk : Nat} {tpos : Pos} {t1 t2 : Bool} {a b e z TI TO i1 i2 : Addr} (S : ZipSep2 z TI TO i1 i2 [i1, a] [i2, b]) (hai : a ≠ i1) (hbi : b ≠ i2)
    (ez : e ≠ z) (eTI : e ≠ TI) (eTO : e ≠ TO) (e1 : e ≠ i1) (e2 : e ≠ i2) (ea : e ≠ a) (eb : e ≠ b) :
    Turn P w K (.Tuple elts kk tpos) (ItEZ K t1 t2 a b) [e, z, TI, TO, i1, i2] e (EZ t1 t2 a b e z TI TO i1 i2) where
  mem := by simp
  obj := fun i h st c hc => by
    obtain ⟨⟨old, he⟩, ⟨u, f, hz, _⟩, hTI, ⟨x, y, hTO⟩, h1, h2⟩ := st
    have e' : c = e ∨ c = z ∨ c = TI ∨ c = TO ∨ c = i1 ∨ c = i2 := by simpa using hc
    rcases e' with q | q | q | q | q | q
    · rw [q]; exact ⟨_, he, fun v q => nomatch q⟩
    · rw [q]; exact ⟨_, hz, fun v q => nomatch q⟩
    · rw [q]; exact ⟨_, hTI, fun v q => nomatch q⟩
    · rw [q]; exact ⟨_, hTO, fun v q => nomatch q⟩
    · rw [q]; exact h1.obj
    · rw [q]; exact h2.obj
  keep := fun i h h' st k => by
    obtain ⟨⟨old, he⟩, ⟨u, f, hz, hu⟩, hTI, ⟨x, y, hTO⟩, h1, h2⟩ := st
    exact ⟨⟨old, k e (by simp) _ he⟩, ⟨u, f, k z (by simp) _ hz, hu⟩, k TI (by simp) _ hTI, ⟨x, y, k TO (by simp) _ hTO⟩, h1.at fun o q => k i1 (by simp) o q, h2.at fun o q => k i2 (by simp) o q⟩
  item := by
    intro X hP hw hK hc i pins s σ H E I hf st hg
    subst hP hw hK
    obtain ⟨⟨old, he⟩, ⟨u, f, hz, hu⟩, hTI, ⟨x0, y0, hTO⟩, h1, h2⟩ := st
    obtain ⟨xs, ys, x, y, hqx, hqy, hx, hy⟩ := hg
    obtain ⟨its, rv, p, _⟩ := invSq I hqx
    obtain ⟨its2, rv2, p2, _⟩ := invSq I hqy
    obtain ⟨v1, hu1, ru⟩ := rv.get hx
    obtain ⟨v2, hu2, ru2⟩ := rv2.get hy
    have hzl : z < s.heap.objs.size := Heap.lt_size hz
    have hel : e < s.heap.objs.size := Heap.lt_size he
    have l1 : i < its.toArray.size := by
      have := (List.getElem?_eq_some_iff.mp hu1).1
      simpa using this
    have l2 : i < its2.toArray.size := by
      have := (List.getElem?_eq_some_iff.mp hu2).1
      simpa using this
    have hh : X.A.in1.in1.handled = none := I.ok.hd hc
    refine enum_pyNext (fun q h' => q = .ref s.heap.objs.size ∧ (∃ u f, ZAny h' z TI TO u f ∧ ZWord u) ∧ (∃ b1 b2, IsTupOf2 h' TO b1 b2) ∧ IterAt t1 h' i1 a (i + 1) ∧ IterAt t2 h' i2 b (i + 1) ∧ IsTupOf2 h' s.heap.objs.size v1 v2 ∧ h'.objs.size = s.heap.objs.size + 1 ∧
      ∀ c o, c ≠ z → c ≠ TO → c ≠ i1 → c ≠ i2 → s.heap.get? c = some o → h'.get? c = some o) he (fun Q' k => ?_) fun q m1 m2 tk R ho hT hsz hk => ?_
    · refine any_nextOf S (drawsX hh t1 i1 a hai its.toArray) (drawsX hh t2 i2 b hbi its2.toArray) hz hu hTI hTO ⟨h1, p⟩ ⟨h2, p2⟩ l1 l2 fun w1 w2 h' tk u' f' c1 c2 z' wz TO' n1 n2 hT hsz hk => ?_
      have d1 : w1 = v1 := by
        have : its[i]? = some w1 := by simpa using c1
        rw [hu1] at this; exact (Option.some.inj this).symm
      have d2 : w2 = v2 := by
        have : its2[i]? = some w2 := by simpa using c2
        rw [hu2] at this; exact (Option.some.inj this).symm
      subst d1 d2
      exact k _ h' tk ⟨rfl, ⟨u', f', z', wz⟩, TO', n1.1, n2.1, hT, hsz, hk⟩ (hk e _ ez eTO e1 e2 he)
    · obtain ⟨rfl, ⟨u', f', z', wz⟩, ⟨b1, b2, TO'⟩, n1, n2, hT1, sz1, hk1⟩ := R
      have new : ObjOk X.prog X.w (upd H s.heap.objs.size (.tup [x, y])) m1 s.heap.objs.size (.tup [x, y]) :=
        ⟨by show 2 ≤ sizeLine; decide, [v1, v2], .cons ru (.cons ru2 .nil), ⟨_, hT1, rfl, _, rfl⟩⟩
      have hf1 : ∀ c ∈ [z, TI, TO, i1, i2], FpOk X pins H c := fun c hc => hf c (List.mem_cons_of_mem _ hc)
      have J1 : Inv X pins σ (upd H s.heap.objs.size (.tup [x, y])) { s with heap := m1, toks := tk } :=
        I.turnedNew (t' := tk) (ch := [z, TI, TO, i1, i2]) (fun c o hb q => hk1 c o (fun q' => hb (by simp [q'])) (fun q' => hb (by simp [q'])) (fun q' => hb (by simp [q'])) (fun q' => hb (by simp [q'])) q) hf1 (Nat.le_refl _) new
      refine ⟨_, rfl, wpAny_letOwnedTupleGo_enum (s := { s with heap := m2, toks := tk + 1 }) ho fun m3 en3 sb => ?_⟩
      have lN : ∀ {c : Addr}, c < s.heap.objs.size → c ≠ m1.objs.size ∧ c ≠ s.heap.objs.size := fun h => ⟨Nat.ne_of_lt (by rw [sz1]; exact Nat.lt_succ_of_lt h), Nat.ne_of_lt h⟩
      have keep3 : ∀ c o, c ≠ e → m1.get? c = some o → m3.get? c = some o := fun c o ne q => (sb.2 _ ne).trans (hk c o ne q)
      have eN : m1.objs.size ≠ e := Ne.symm (lN hel).1
      have hT3 : m3.get? m1.objs.size = some { cls := .type "tuple", data := .seq #[.int (0 + (i : Int)) tk, .ref s.heap.objs.size] } := (sb.2 _ eN).trans hT
      have i0 : (0 : Int) + (i : Int) = (i : Int) := by omega
      have new2 : ObjOk X.prog X.w (upd (upd H s.heap.objs.size (.tup [x, y])) m1.objs.size (.tup [.int (i : Nat), .ref s.heap.objs.size])) m3 m1.objs.size (.tup [.int (i : Nat), .ref s.heap.objs.size]) :=
        ⟨by show 2 ≤ sizeLine; decide, [.int (0 + (i : Int)) tk, .ref s.heap.objs.size], .cons ⟨tk, by rw [i0]⟩ (.cons rfl .nil), ⟨_, hT3, rfl, _, rfl⟩⟩
      have J2 := J1.turnedNew (t' := tk + 1) (h' := m3) (ch := [e]) (fun c o hb q => keep3 c o (fun q' => hb (by simp [q'])) q) (fun c hc => by
        rw [List.mem_singleton.mp hc]
        obtain ⟨f0, f1, f2, f3, f4, f5⟩ := hf e (by simp)
        exact ⟨by rw [upd_ne (lN hel).2]; exact f0, f1, f2, f3, f4, f5⟩) (Nat.le_refl _) new2
      refine ⟨.ref m1.objs.size, _, J2, rfl, ⟨s.heap.objs.size, m1.objs.size, x, y, rfl, I.hok.fresh (Nat.le_refl _), I.hok.fresh (by rw [sz1]; exact Nat.le_succ _), Nat.ne_of_lt (by rw [sz1]; exact Nat.lt_succ_self _), rfl,
        fun l hl => by rw [sqInj I hl hqx]; exact hx, fun l hl => by rw [sqInj I hl hqy]; exact hy⟩, ⟨⟨.ref s.heap.objs.size, ?_⟩, ⟨u', f', keep3 _ _ (Ne.symm ez) z', wz⟩, keep3 _ _ (Ne.symm eTI) (hk1 _ _ S.TIz S.TITO S.TIi1 S.TIi2 hTI), ⟨b1, b2, keep3 _ _ (Ne.symm eTO) TO'⟩, n1.at fun o q => keep3 _ o (Ne.symm e1) q, n2.at fun o q => keep3 _ o (Ne.symm e2) q⟩, fun c hcm => ?_⟩
      · have c1 : (0 : Int) + ((i + 1 : Nat) : Int) = 0 + (i : Int) + 1 := by omega
        rw [c1]; exact en3
      · have hlt : c < s.heap.objs.size := by
          have e' : c = e ∨ c = z ∨ c = TI ∨ c = TO ∨ c = i1 ∨ c = i2 := by simpa using hcm
          rcases e' with q | q | q | q | q | q
          · rw [q]; exact hel
          · rw [q]; exact hzl
          · rw [q]; exact Heap.lt_size hTI
          · rw [q]; exact Heap.lt_size hTO
          · rw [q]; obtain ⟨_, e1, _⟩ := h1.obj; exact Heap.lt_size e1
          · rw [q]; obtain ⟨_, e2, _⟩ := h2.obj; exact Heap.lt_size e2
        rw [upd_ne (lN hlt).1, upd_ne (lN hlt).2]
        exact (hf c hcm).1
  done := by
    intro X hP hw hK hc i pins s σ H E I hf st hg
    subst hP hw hK
    obtain ⟨⟨old, he⟩, ⟨u, f, hz, hu⟩, hTI, ⟨x0, y0, hTO⟩, h1, h2⟩ := st
    obtain ⟨xs, ys, hqx, hqy, hend⟩ := hg
    obtain ⟨its, rv, p, _⟩ := invSq I hqx
    obtain ⟨its2, rv2, p2, _⟩ := invSq I hqy
    have l1 := rv.length
    have l2 := rv2.length
    have hh : X.A.in1.in1.handled = none := I.ok.hd hc
    refine enum_pyStop he fun E' k Q' => any_nextEnd S (drawsX hh t1 i1 a hai its.toArray) (drawsX hh t2 i2 b hbi its2.toArray) hz hu hTI hTO ⟨h1, p⟩ ⟨h2, p2⟩ (by simp; omega) (by simp; omega) (by simp; omega) fun h' tk x hk hx => ?_
    exact k x h' tk hx ⟨rfl, I.turnedL (t' := tk) (ch := [e, z, TI, TO, i1, i2]) (fun c o hb q => hk c o (fun q' => hb (by simp [q'])) (fun q' => hb (by simp [q'])) (fun q' => hb (by simp [q'])) (fun q' => hb (by simp [q'])) q) hf⟩
  self := fun A i s Q E st h => by
    obtain ⟨⟨old, he⟩, _⟩ := st
    exact wpAny_pyIter_enum he h
end Dl
set_option Elab.async false
set_option linter.all false
set_option maxRecDepth 100000
namespace Dl
open PySem PySem.Spec PyProof.Rows L2

section
open Sem (wp)
/-- enumerate of what is its own iterator -/
theorem newEnum0 {a : Addr} {C : Heap → Prop} (B : ∀ (P : Program) (w : World) (A : Around) (E : Value → Shared → Prop) (Q : Value → Shared → Prop) (st : Shared), C st.heap → Q (.ref a) st → wpAny (model P w) A (pyIter (.ref a)) Q E st) :
    Meets (Builtin.«enumerate.__new__» ⟨[.type "enumerate", .ref a], []⟩) (fun _ R st => C st.heap ∧
    R (.ok (.ret (.ref st.heap.objs.size))) { st with heap := st.heap.push { cls := .type "enumerate", data := .fields #[.none, .bool false, .ref a, rawInt 0, .none, .none] } }) :=
  .of_wp fun P w A R st hyp => by
    obtain ⟨hp, gg, dd, tk, os⟩ := st
    obtain ⟨c0, hyp⟩ := hyp
    have hsub := sub_enumerate
    have q1 : ∀ {A' : Around} {E : Value → Shared → Prop} {Q : Value → Shared → Prop}, Q (.ref a) ⟨hp, gg, dd, tk, os⟩ → wpAny (model P w) A' (pyIter (.ref a)) Q E ⟨hp, gg, dd, tk, os⟩ := fun q => B P w _ _ _ ⟨hp, gg, dd, tk, os⟩ c0 q
    wp_walk using q1
    refine wpAny_stack_any fun stk => wpAny_pure ?_
    split
    · rename_i cc _ _ _ _ _
      cases (cc == Value.type "enumerate")
      all_goals
        wp_walk using q1
        exact ⟨_, rfl, hyp⟩
    · wp_walk using q1
      exact ⟨_, rfl, hyp⟩
theorem callEnum0 {P : Program} {w : World} {A : Around} {E : Value → Shared → Prop} {st : Shared} {a : Addr} {C : Heap → Prop} {Q : Value → Shared → Prop}
    (B : ∀ (P : Program) (w : World) (A : Around) (E : Value → Shared → Prop) (Q : Value → Shared → Prop) (st : Shared), C st.heap → Q (.ref a) st → wpAny (model P w) A (pyIter (.ref a)) Q E st) (c0 : C st.heap)
    (k : ∀ h', IsEnum h' st.heap.objs.size a 0 .none → (∀ b o, st.heap.get? b = some o → h'.get? b = some o) → Q (.ref st.heap.objs.size) { st with heap := h' }) :
    wpAny (model P w) A (call (.type "enumerate") [.ref a]) Q E st := by
  refine callType_new F.called_enumerate (by decide) (F.typeCall_enumerate_1 _) (F.newCall_enumerate_1 _) (fun obj => F.args_object_init_2 obj _) F.entry_enumerate_new (newEnum0 B) ⟨c0, ?_⟩
  have en := Heap.get?_push_size st.heap (o := { cls := .type "enumerate", data := .fields #[.none, .bool false, .ref a, rawInt 0, .none, .none] }) rfl
  show _ ∧ _
  exact ⟨⟨_, en, rfl⟩, k _ en fun b o x => Heap.get?_push_of_some _ x⟩
end
def iEZ (K : PySem.W.Frag) (ta : TA) : TI := fun σ H R => ta σ H fun vs H1 => ∃ (t1 t2 : Bool) (a b : Addr) (xs ys : List V), vs = [.ref a, .ref b] ∧ Sq t1 K H1 a xs ∧ Sq t2 K H1 b ys ∧ R (ItEZ K t1 t2 a b) H1
theorem pi_enumZip {X : Cx} {e e2 : Expr} {ta : TA} {p pos p2 pos2 tpos : Pos} {elts : List Expr} {kk : Nat} (hge : Gl X "enumerate") (hme : X.mg "enumerate" = none) (hg : Gl X "zip") (hm : X.mg "zip" = none) (ha : PA X [e, e2] ta)
    (hs : starEach [e, e2] X.env = (false, eval e X.env) :: starEach [e2] X.env := by rfl) (hpl : (backTo pos2 (starEach [e2] X.env)).any (·.1) = false := by rfl) :
    PI X (.Tuple elts kk tpos) (.Call (.Name "enumerate" p) [.Call (.Name "zip" p2) [e, e2] [] pos2] [] pos) (iEZ X.K ta) := by
  refine ⟨fun pins s σ H R I h => ?_⟩
  refine Call_ (ld_blt I hge hme boot_enumerate (PyProof.Rows.callWith_type1 ?_))
  show wpAny _ _ (spliced [(false, eval (.Call (.Name "zip" p2) [e, e2] [] pos2) X.env)]) _ _ s
  refine Calls.spliced_cons ?_
  refine Call_ (ld_blt I hg hm PyProof.Rows.boot_zip (PyProof.Rows.callWith_type1 (thn (ha.run pos2 pins s σ H _ I h) fun us s1 ⟨vs, H1, I1, r1, q1⟩ => ?_) hs hpl))
  obtain ⟨t1, t2, a, b, xs, ys, ex, hqx, hqy, q⟩ := q1
  subst ex
  cases r1 with
  | cons r rr =>
    cases rr with
    | cons r' rr =>
      cases rr
      cases r
      cases r'
      obtain ⟨its, rv, p1, la, zx⟩ := invSqZ I1 hqx
      obtain ⟨its2, rv2, p2, lb, zy⟩ := invSqZ I1 hqy
      refine zip_begins2 (beginsX t1 a its.toArray) (beginsX t2 b its2.toArray) p1 p2 fun h' hz hTI hTO h1 h2 hsz hk => ?_
      refine Calls.spliced_nil ?_
      refine callEnum0 (st := { s1 with heap := h' }) (a := s1.heap.objs.size + 4) (C := fun h => IsZip h (s1.heap.objs.size + 4) (s1.heap.objs.size + 2) (s1.heap.objs.size + 3) .none) (fun P w A E Q st c k => wpAny_pyIter_zip c k) hz fun h'' en kp => ?_
      refine wpAny_pyIter_enum en ?_
      have I2 : Inv X pins σ H1 { s1 with heap := h'' } := I1.kept (t' := s1.toks) fun c o e => kp c o (hk c o e)
      have big : ∀ c, c ∈ [h'.objs.size, s1.heap.objs.size + 4, s1.heap.objs.size + 2, s1.heap.objs.size + 3, s1.heap.objs.size, s1.heap.objs.size + 1] → s1.heap.objs.size ≤ c := fun c hcm => by
        have e' : c = h'.objs.size ∨ c = s1.heap.objs.size + 4 ∨ c = s1.heap.objs.size + 2 ∨ c = s1.heap.objs.size + 3 ∨ c = s1.heap.objs.size ∨ c = s1.heap.objs.size + 1 := by simpa using hcm
        rcases e' with z | z | z | z | z | z
        · rw [z, hsz]; exact Nat.le_add_right _ _
        · rw [z]; exact Nat.le_add_right _ _
        · rw [z]; exact Nat.le_add_right _ _
        · rw [z]; exact Nat.le_add_right _ _
        · rw [z]; exact Nat.le_refl _
        · rw [z]; exact Nat.le_add_right _ _
      have up : ∀ k, k ≤ 4 → h'.objs.size ≠ s1.heap.objs.size + k := fun k hk => by rw [hsz]; exact fun z => by have := Nat.add_left_cancel z; omega
      have far : ∀ c, c < s1.heap.objs.size → h'.objs.size ≠ c := fun c hc => by rw [hsz]; exact Nat.ne_of_gt (Nat.lt_of_lt_of_le hc (Nat.le_add_right _ _))
      exact ⟨h'.objs.size, [h'.objs.size, s1.heap.objs.size + 4, s1.heap.objs.size + 2, s1.heap.objs.size + 3, s1.heap.objs.size, s1.heap.objs.size + 1], _, _, H1, rfl, I2,
        turnEZ (t1 := t1) (t2 := t2) (zip_sep2 (N := s1.heap.objs.size) (fp1 := [a]) (fp2 := [b]) (by simpa using la) (by simpa using lb)) (Nat.ne_of_lt la) (Nat.ne_of_lt (Nat.lt_succ_of_lt lb)) (up 4 (by decide)) (up 2 (by decide)) (up 3 (by decide)) (up 0 (by decide)) (up 1 (by decide)) (far _ la) (far _ lb),
        ⟨⟨.none, en⟩, ⟨.none, false, kp _ _ hz, .inl rfl⟩, kp _ _ hTI, ⟨_, _, kp _ _ hTO⟩, (IterAt.new h1).at fun o q => kp _ o q, (IterAt.new h2).at fun o q => kp _ o q⟩, fun c hc => I1.fpOk (big c hc) (I1.hok.fresh (big c hc)), q⟩
variable {X : Cx}
theorem walkEZ {K : PySem.W.Frag} {F0 : Hp} {t1 t2 : Bool} {a b : Addr} {xs ys : List V} {ds es : List D} (hp : DpAll K F0 xs ds) (hq : DpAll K F0 ys es) (sa : ∀ H, Same F0 H → Sq t1 K H a xs) (sb : ∀ H, Same F0 H → Sq t2 K H b ys) : Itd K F0 (ItEZ K t1 t2 a b) (pairL 0 (zipL ds es)) := by
  have hl : (pairL 0 (zipL ds es)).length = min xs.length ys.length := by rw [pairL_len, zipL_len, dpLen hp, dpLen hq]
  refine ⟨fun i H h hi => ?_, fun H h => ⟨xs, ys, sa H h, sb H h, hl⟩, fun i F H x H' h1 h2 hi y => ?_⟩
  · rw [hl] at hi
    have e1 : i < xs.length := by omega
    have e2 : i < ys.length := by omega
    exact ⟨xs, ys, xs[i], ys[i], sa H h, sb H h, by simp [e1], by simp [e2]⟩
  · obtain ⟨T, U, u, v, rfl, nT, nU, ne, rfl, e4, e5⟩ := y
    obtain ⟨d, hd, q1⟩ := dpAtV hp (e4 _ (sa H (h1.trans h2)))
    obtain ⟨e, he, q2⟩ := dpAtV hq (e5 _ (sb H (h1.trans h2)))
    obtain ⟨F1, a1, a2, a3⟩ := newPair h2 nT (dpMono h1 _ _ q1) (dpMono h1 _ _ q2)
    obtain ⟨F2, b1, b2, b3⟩ := newPair a2 (T := U) (by rw [upd_ne (Ne.symm ne)]; exact nU) (Dp.int (i : Nat)) a1
    refine ⟨F2, _, pairL_at 0 _ i _ (zipL_at ds es i d e hd he), ?_, b2, a3.trans b3 (fun _ h => .inl h)⟩
    rw [Nat.zero_add]
    exact b1
def iEnumZip (f : Fa) : Fa := fun g => (iZipU f g).map fun p => (pairL 0 p.1, p.2)
theorem di_enumZip {a b : Expr} {p pos p2 pos2 tp : Pos} {es : List Expr} {kk : Nat} {f : Fa} (hge : Gl X "enumerate") (hme : X.mg "enumerate" = none) (hg : Gl X "zip") (hm : X.mg "zip" = none) (ha : DA X [a, b] f)
    (hs : starEach [a, b] X.env = (false, eval a X.env) :: starEach [b] X.env := by rfl) (hpl : (backTo pos2 (starEach [b] X.env)).any (·.1) = false := by rfl) :
    DI X (.Tuple es kk tp) (.Call (.Name "enumerate" p) [.Call (.Name "zip" p2) [a, b] [] pos2] [] pos) (iEnumZip f) := piMono (pi_enumZip hge hme hg hm ha hs hpl) fun s H R ⟨F, g, ds, g', r, e, k⟩ => by
  unfold iEnumZip iZipU at e
  split at e
  · rename_i d1 d2 g1 q
    cases q1 : seqD d1 with
    | none => rw [q1] at e; cases e
    | some xs =>
      rw [q1] at e
      cases q2 : seqD d2 with
      | none =>
        have e : Option.map _ ((seqD d2).map _) = some (ds, g') := e
        rw [q2] at e; cases e
      | some ys =>
        have e : Option.map _ ((seqD d2).map _) = some (ds, g') := e
        rw [q2] at e; cases e
        refine ⟨F, g, _, _, r, q, fun vs F1 H1 p1 r1 t1 m1 => ?_⟩
        obtain ⟨v, w, rfl, h1, h2⟩ := dpTwo p1
        obtain ⟨ta, pa, us, rfl, sa, da⟩ := sqOf h1 r1.fh q1
        obtain ⟨tb, pb, ws, rfl, sb, db⟩ := sqOf h2 r1.fh q2
        exact ⟨ta, tb, pa, pb, us, ws, rfl, sa _ r1.fh, sb _ r1.fh, k _ F1 H1 r1 t1 m1 (walkEZ da db sa sb)⟩
  · cases e
end Dl
set_option Elab.async false
set_option linter.all false
set_option maxRecDepth 100000
namespace Dl
open PySem PySem.Spec PyProof.Rows L2

/-! ### a def without arguments -/
section
variable {X : Cx} {k : Nat} {f : Addr} {fd : FuncData} {ps : List Str}
theorem dv_call0 {x : Str} {p pos : Pos} {m : List D → Option Sl} (F : FnG X.prog X.w X.K X.mg X.base k f fd ps (spP X.K 0 m)) (room : Room k X.A) (gd : X.A.guards = some []) (hg : Gl X x) (hm : X.mg x = some (.ref f)) (hk : PySem.W.keepIn X.K (.ref f) = true) (hb : Binds X.K fd ps [])
    (hdb : (x == ("__debug__" : Str)) = false := by decide) : DV X (.Call (.Name x p) [] [] pos) (eCall m aNil) :=
  peMono (t := fun s H Q => spP X.K 0 m [] H Q) ⟨fun pins st s H Q I h => wpAny_Call_Name_kw (ld_glob I hg hm (PySem.W.callWith_K0 I.kIn hk (by
    have hl : (([] : List Value) ++ ([] : List Value)).length = ps.length := F.len _ _ _ h
    have bt := hb st [] I.kIn hl
    rw [List.append_nil] at bt
    refine wpAny_call (codeAny_mono (F.run X.A X.stack st H ⟨[], []⟩ [] [] Q room gd I.env0 bt .nil h) fun res st2 hq => ?_)
    cases res with
    | error e => exact (show False from hq).elim
    | ok fl =>
      cases fl with
      | ret u => exact I.after hq
      | next => exact (show False from hq).elim
      | brk => exact (show False from hq).elim
      | cont => exact (show False from hq).elim)) hdb)⟩ fun s H Q ⟨F, g, y, g', r, e, k⟩ => by
  have e : (m []).map (fun x => (x, g)) = some (y, g') := e
  cases q2 : m [] with
  | none => rw [q2] at e; cases e
  | some z =>
    rw [q2] at e; cases e
    refine ⟨F, [], _, r.fh, .nil, rfl, q2, fun v F2 H2 hv hz ho fh t2 => ?_⟩
    exact k v F2 H2 hv (fun tg es ez => by
      obtain ⟨e1, b, e2, e3⟩ := ho tg es ez
      exact ⟨e1, b, e2, e3⟩) (r.stepN t2 fh) (Stp.refl.andN t2) Mo.refl
end
end Dl
set_option Elab.async false
set_option linter.all false
set_option maxRecDepth 100000
namespace Dl
open PySem PySem.Spec PyProof.Rows L2

/-! ### comprehensions over a list of the frame's own, which is not frozen by them -/
open Classical in
/-- as long as the slot holds just this -/
noncomputable def tOw (sl : Nat) (x : Sl) (t : Fg) : Fg := fun d g => if g[sl]? = some x then t d g else none
theorem tOw_inv {sl : Nat} {x : Sl} {t : Fg} {d : D} {g g' : G} (h : tOw sl x t d g = some g') : g[sl]? = some x ∧ t d g = some g' := by
  unfold tOw at h
  split at h
  · rename_i e
    exact ⟨e, h⟩
  · cases h
theorem tOw_of {sl : Nat} {x : Sl} {t : Fg} {d : D} {g g' : G} (e : g[sl]? = some x) (h : t d g = some g') : tOw sl x t d g = some g' := by
  unfold tOw
  rw [if_pos e, h]
open Classical in
noncomputable def vLcO (sl : Nat) (tg : Option Addr) (ds : List D) (t : Fg) (c : Ft) (f : Fe) (vs : List Nat) : Fv := fun g => if okW g vs = true then (lcGo (tOw sl (.own tg ds) t) c f vs ds (wipeG g vs)).bind fun q => if q.2[sl]? = some (.own tg ds) ∧ q.1.length ≤ 1000000 then some (.own none q.1, backG g q.2 vs) else none else none
theorem dpAtD {K : PySem.W.Frag} {F : Hp} : ∀ {vs : List V} {ds : List D} {i : Nat} {d : D}, DpAll K F vs ds → ds[i]? = some d → ∃ v, vs[i]? = some v ∧ Dp K F v d
  | _, _, i, d, .nil, h => by simp at h
  | _, _, 0, d, .cons a b, h => by
    simp at h
    subst h
    exact ⟨_, rfl, a⟩
  | _, _, i + 1, d, .cons a b, h => by
    obtain ⟨v, e, q⟩ := dpAtD b (by simpa using h)
    exact ⟨v, by simpa using e, q⟩
theorem tLc_ofO {K : PySem.W.Frag} {sl : Nat} {tg : Option Addr} {t : Fg} {ws : List Nat} {c : Ft} {f : Fe} {vs : List Nat} (hw : ∀ i ∈ ws, i ∈ vs) {s : Sg} {F H : Hp} {g g' : G} {ds : List D} {x : Sl} {Q : VK} (hg : g[sl]? = some (.own tg ds)) (hv : sl ∉ vs)
    (r : Rep K F g s H) (e : vLcO sl tg ds t c f vs g = some (x, g'))
    (k : ∀ v F' H', RepS K F' H' x (some v) → (∀ t ds, x = .own t ds → t = none ∧ ∃ a, v = .ref a ∧ H a = none) → Rep K F' g' s H' → Stp (OwnAt g s) F H F' H' → Mo g g' → Q v H') : tLc (iList K fun σ H Q => ∃ v, σ[sl]? = some (some v) ∧ Q v H) (tG K t ws) (tT K c) (tD K f) vs s H Q := by
  obtain ⟨o0, ho0, a0, xs0, eo, fa0, ha0, hp0, ht0⟩ := r.get hg
  subst eo
  unfold vLcO at e
  split at e
  · rename_i ok
    cases q2 : lcGo (tOw sl (.own tg ds) t) c f vs ds (wipeG g vs) with
    | none => rw [q2] at e; cases e
    | some p2 =>
      obtain ⟨ys, gE⟩ := p2
      rw [q2] at e
      simp only [Option.bind_some] at e
      split at e
      · rename_i hlen
        obtain ⟨hend, hlen⟩ := hlen
        cases e
        refine ⟨.ref a0, ho0, a0, rfl, ⟨xs0, .inl (.inl ha0)⟩, fun A nA => ?_⟩
        have h0A : H A = none := nA
        have at0 : ∀ {F2 H2 : Hp} {g2 : G}, Rep K F2 g2 (L2.wipe s vs) H2 → g2[sl]? = some (.own tg ds) → ∃ xs2, H2 a0 = some (.lst xs2) ∧ DpAll K F2 xs2 ds := fun {F2 H2 g2} r2 e2 => by
          obtain ⟨o2, ho2, a2, xs2, eo2, fa2, ha2, hp2, ht2⟩ := r2.get e2
          rw [wipe_out hv, ho0] at ho2
          cases ho2
          cases eo2
          exact ⟨xs2, ha2, hp2⟩
        have nOwn : ¬ OwnAt g s A := fun z => by
          obtain ⟨xs, hx, _⟩ := r.ownSome z
          rw [nA] at hx; cases hx
        -- what is true at each turn
        refine ⟨fun i m H2 => m = ds.length - i ∧ i ≤ ds.length ∧ ∃ F2 g2 acc accV rest, Rep K F2 g2 (L2.wipe s vs) H2 ∧ Same F F2 ∧ F2 A = none ∧ H2 A = some (.lst accV) ∧ DpAll K F2 accV acc ∧ Stp (OwnAt g s) F H F2 H2 ∧ Mo (wipeG g vs) g2 ∧ lcGo (tOw sl (.own tg ds) t) c f vs (ds.drop i) g2 = some (rest, gE) ∧ acc ++ rest = ys,
          ⟨ds.length, by simp, Nat.zero_le _, F, wipeG g vs, [], [], ys, (r.wipe vs).stepN (Stp.made nA) (sameMade r.fh nA), .refl _, nF r.fh nA, upd_same, .nil, Stp.made nA, Mo.refl, by rw [List.drop_zero]; exact q2, rfl⟩, ?_⟩
        rintro i m H2 ⟨rfl, hle, F2, g2, acc, accV, rest, r2, sm2, fA, hA, hac, st2, mo2, w, hsum⟩
        have nOwn2 : ∀ {g3 : G} {s3 : Sg}, (∀ b, OwnAt g3 s3 b → OwnAt g2 (L2.wipe s vs) b ∨ H2 b = none) → ¬ OwnAt g3 s3 A := fun {g3 s3} hh z => by
          rcases hh A z with z | z
          · obtain ⟨j, tg, es, e1, e2⟩ := z
            obtain ⟨es', e3⟩ := mo2 j tg es e1
            exact nOwn (ownWipe ⟨j, tg, es', e3, e2⟩)
          · rw [hA] at z; cases z
        by_cases hlt : i < ds.length
        · obtain ⟨d, hd⟩ : ∃ d, ds[i]? = some d := ⟨ds[i], List.getElem?_eq_getElem hlt⟩
          rw [dropCons hd] at w
          unfold lcGo at w
          cases q3t : tOw sl (.own tg ds) t d g2 with
          | none => rw [q3t] at w; cases w
          | some g3 =>
            rw [q3t] at w
            obtain ⟨hsl, q3⟩ := tOw_inv q3t
            obtain ⟨xs2, hx2, hp2⟩ := at0 r2 hsl
            obtain ⟨xv, hxv, hxd⟩ := dpAtD hp2 hd
            have w : (c g3).bind _ = some (rest, gE) := w
            cases q4 : c g3 with
            | none => rw [q4] at w; cases w
            | some p4 =>
              obtain ⟨cb, g4⟩ := p4
              rw [q4] at w
              refine .inr ⟨⟨xs2, xv, .inl (.inl hx2), hxv⟩, fun H5 => ∃ F2 g2 acc accV rest, Rep K F2 g2 (L2.wipe s vs) H5 ∧ Same F F2 ∧ F2 A = none ∧ H5 A = some (.lst accV) ∧ DpAll K F2 accV acc ∧ Stp (OwnAt g s) F H F2 H5 ∧ Mo (wipeG g vs) g2 ∧ lcGo (tOw sl (.own tg ds) t) c f vs (ds.drop (i + 1)) g2 = some (rest, gE) ∧ acc ++ rest = ys, fun H5 hN => ⟨ds.length - (i + 1), by omega, rfl, hlt, hN⟩, fun x H' y => ?_⟩
              obtain ⟨eH, ey⟩ := y
              replace eH := eH.symm
              subst eH
              have exv : x = xv := by
                have := ey xs2 (.inl (.inl hx2))
                rw [hxv] at this
                exact (Option.some.inj this).symm
              subst exv
              have hx := hxd
              have st : Stp Non F2 H2 F2 H2 := Stp.refl
              have r' := r2
              refine ⟨F2, g2, d, g3, r', hx, q3, fun F3 s3 H3 t3 m3 c3 => ⟨chgWipe c3 hw, F3, g3, cb, g4, t3.rep, q4, fun F4 H4 r4 st4 m4 => ?_⟩⟩
              have tr : Tr K F2 g2 (L2.wipe s vs) H2 F4 g4 s3 H4 := (Tr.trans ⟨r', st.weak fun _ z => z.elim, fun _ z => .inl z⟩ t3).trans (Tr.of r4 st4 m4)
              have moT : Mo (wipeG g vs) g4 := (mo2.trans m3).trans m4
              have keepA : ∀ {F9 H9 : Hp} {g9 : G}, Tr K F2 g2 (L2.wipe s vs) H2 F9 g9 s3 H9 → H9 A = some (.lst accV) ∧ F9 A = none := fun {F9 H9 g9} t9 => by
                have n2 : ¬ OwnAt g2 (L2.wipe s vs) A := nOwn2 fun _ z => .inl z
                refine ⟨t9.stp.keep A _ hA n2, ?_⟩
                cases z : F9 A with
                | none => rfl
                | some u =>
                  rcases t9.stp.fresh A fA (by rw [z]; simp) with z2 | z2
                  · rw [hA] at z2; cases z2
                  · exact absurd z2 n2
              have stAll : ∀ {F9 H9 : Hp} {g9 : G}, Tr K F2 g2 (L2.wipe s vs) H2 F9 g9 s3 H9 → Stp (OwnAt g s) F H F9 H9 := fun {F9 H9 g9} t9 => st2.trans t9.stp fun b z => by
                obtain ⟨j, tg, es, e1, e2⟩ := z
                obtain ⟨es', e3⟩ := mo2 j tg es e1
                exact .inl (ownWipe ⟨j, tg, es', e3, e2⟩)
              have wp : ∀ {F9 H9 : Hp} {g9 : G}, Rep K F9 g9 s3 H9 → Rep K F9 (wipeG g9 vs) (L2.wipe s vs) H9 := fun {F9 H9 g9} r9 => by
                have := r9.wipe vs
                rwa [chgWipe c3 hw] at this
              cases cb with
              | true =>
                refine iteT ?_
                have w : (f g4).bind _ = some (rest, gE) := w
                cases q5 : f g4 with
                | none => rw [q5] at w; cases w
                | some p5 =>
                  obtain ⟨yd, g5⟩ := p5
                  rw [q5] at w
                  have w : (lcGo (tOw sl (.own tg ds) t) c f vs (ds.drop (i + 1)) (wipeG g5 vs)).map _ = some (rest, gE) := w
                  cases q6 : lcGo (tOw sl (.own tg ds) t) c f vs (ds.drop (i + 1)) (wipeG g5 vs) with
                  | none => rw [q6] at w; cases w
                  | some p6 =>
                    obtain ⟨rs, g6⟩ := p6
                    rw [q6] at w
                    cases w
                    refine ⟨F4, g4, yd, g5, r4, q5, fun yv F5 H5 hy r5 st5 m5 => ?_⟩
                    have tr5 := tr.trans (Tr.of r5 st5 m5)
                    obtain ⟨hA5, fA5⟩ := keepA tr5
                    refine ⟨accV, hA5, ?_, ?_⟩
                    · rw [dpLen hac]
                      have : acc.length < ys.length := by rw [← hsum]; simp
                      exact Nat.lt_of_lt_of_le this (Nat.le_trans hlen million)
                    · obtain ⟨ra, sa⟩ := appNew (y := yv) r5 fA5 (nOwn2 tr5.own) hA5
                      refine ⟨F5, wipeG g5 vs, acc ++ [yd], accV ++ [yv], rs, wp ra, sm2.trans tr5.stp.fs, fA5, upd_same, dpApp (dpMonos tr5.stp.fs _ _ hac) (.cons hy .nil), ?_, (moT.trans m5).trans (wipeMo g5 vs), q6, by rw [← hsum]; simp⟩
                      exact (stAll tr5).trans sa fun b z => .inr (by rw [z]; exact nA)
              | false =>
                refine iteF ?_
                have w : lcGo (tOw sl (.own tg ds) t) c f vs (ds.drop (i + 1)) (wipeG g4 vs) = some (rest, gE) := w
                obtain ⟨hA5, fA5⟩ := keepA tr
                exact ⟨F4, wipeG g4 vs, acc, accV, rest, wp r4, sm2.trans tr.stp.fs, fA5, hA5, dpMonos tr.stp.fs _ _ hac, stAll tr, moT.trans (wipeMo g4 vs), w, hsum⟩
        · have hi : i = ds.length := by omega
          subst hi
          rw [List.drop_length] at w
          cases w
          obtain ⟨xs2, hx2, hp2⟩ := at0 r2 hend
          rw [List.append_nil] at hsum
          subst hsum
          refine .inl ⟨⟨xs2, .inl (.inl hx2), by rw [dpLen hp2]; exact Nat.le_refl _⟩, k (.ref A) F2 H2 ⟨A, accV, rfl, fA, hA, hac, fun b e => nomatch e⟩ (fun tg es z => ?_) (r.back r2 sm2 ok) st2 (backMo ok mo2)⟩
          cases z
          exact ⟨rfl, A, rfl, h0A⟩
      · cases e
  · cases e
end Dl
set_option Elab.async false
set_option linter.all false
set_option maxRecDepth 100000
namespace Dl
open PySem PySem.Spec PyProof.Rows L2

noncomputable def vLcN (i : Nat) (t : Fg) (c : Ft) (f : Fe) (vs : List Nat) : Fv := fun g => match g[i]? with
  | some (.own tg ds) => vLcO i tg ds t c f vs g
  | _ => vLc (iSeq (eVar i)) t c f vs g
section
variable {X : Cx}
theorem tLc_ofN {K : PySem.W.Frag} {i : Nat} {t : Fg} {ws : List Nat} {c : Ft} {f : Fe} {vs : List Nat} (hw : ∀ i ∈ ws, i ∈ vs) (hv : i ∉ vs) {s : Sg} {H : Hp} {Q : VK} (h : tV K (vLcN i t c f vs) s H Q) :
    tLc (fun s H R => iList K (fun σ H Q => ∃ v, σ[i]? = some (some v) ∧ Q v H) s H R ∨ tI K (iSeq (eVar i)) s H R) (tG K t ws) (tT K c) (tD K f) vs s H Q := by
  obtain ⟨F, g, x, g', r, e, k⟩ := h
  unfold vLcN at e
  split at e
  · rename_i tg ds hg
    exact .inl (tLc_ofO hw hg hv r e k)
  · exact .inr (tLc_of hw ⟨F, g, x, g', r, e, k⟩)
theorem dv_lcN (i : Nat) {elt tg : Expr} {x : Str} {px : Pos} {ifs : List Expr} {scope : Scope} (own : List (Str × Nat)) {pos : Pos} {t : Fg} {ws : List Nat} {c : Ft} {f : Fe} (hc : X.calm = true) (hN : X.N.Nodup) (ok : blkC X.N X.env.scope scope own = true)
    (hg : ∀ st H C cl fp, DG (Blk X scope st H C cl fp) tg t ws) (ht : ∀ st H C cl fp, DCs (Blk X scope st H C cl fp) ifs c)
    (he : ∀ st H C cl fp, DE (Blk X scope st H C cl fp) elt f) (hi : X.N[i]? = some x := by rfl) (hv : Vis X.env.scope x := by first | exact Or.inl rfl | exact Or.inr (Or.inl rfl) | exact Or.inr (Or.inr rfl)) (hd : (x == ("__debug__" : Str)) = false := by decide)
    (hcd : (x == ("__classdict__" : Str)) = false := by decide) (hn : i ∉ own.map (·.2) := by decide) (hw : ∀ i ∈ ws, i ∈ own.map (·.2) := by decide) (hs : ∀ y, foldedSetIterable (.Name x px) X.env y = pure y := by intro _; rfl) :
    DV X (.ListComp elt [⟨tg, .Name x px, ifs, 0⟩] scope pos) (vLcN i t c f (own.map (·.2))) := peMono (pe_lc (g := tG X.K t ws) (tt := tT X.K c) (te := tD X.K f) hc hN (piOr (pi_list (pe_var hi hv hd hcd)) (di_seq (de_var i hi hv hd hcd))) (blkOk_by ok) hg ht he hs) fun _ _ _ h => tLc_ofN hw hn h
/-- name = [..] on one row -/
theorem ds_setLcN (j i : Nat) {y : Str} {py : Pos} {elt tg : Expr} {x : Str} {px : Pos} {ifs : List Expr} {scope : Scope} (own : List (Str × Nat)) {pos spos : Pos} {t : Fg} {ws : List Nat} {c : Ft} {f : Fe} (hc : X.calm = true) (hN : X.N.Nodup) (ok : blkC X.N X.env.scope scope own = true)
    (hg : ∀ st H C cl fp, DG (Blk X scope st H C cl fp) tg t ws) (ht : ∀ st H C cl fp, DCs (Blk X scope st H C cl fp) ifs c)
    (he : ∀ st H C cl fp, DE (Blk X scope st H C cl fp) elt f) (hsw : swapsWith (.ListComp elt [⟨tg, .Name x px, ifs, 0⟩] scope pos) (some (.Name y py)) spos.line X.env = pure true) (hi : X.N[i]? = some x := by rfl) (hv : Vis X.env.scope x := by first | exact Or.inl rfl | exact Or.inr (Or.inl rfl) | exact Or.inr (Or.inr rfl)) (hd : (x == ("__debug__" : Str)) = false := by decide)
    (hcd : (x == ("__classdict__" : Str)) = false := by decide) (hn : i ∉ own.map (·.2) := by decide) (hy : X.N[j]? = some y := by rfl) (hyl : X.env.scope.names.lookup y = some .local := by rfl)
    (hw : ∀ i ∈ ws, i ∈ own.map (·.2) := by decide) (hs : ∀ y, foldedSetIterable (.Name x px) X.env y = pure y := by intro _; rfl) :
    DS X (.Assign [.Name y py] (.ListComp elt [⟨tg, .Name x px, ifs, 0⟩] scope pos) spos) (sSet j (vLcN i t c f (own.map (·.2)))) := psMono (ps_setLc (g := tG X.K t ws) (tt := tT X.K c) (te := tD X.K f) hc hN hy hyl hsw (piOr (pi_list (pe_var hi hv hd hcd)) (di_seq (de_var i hi hv hd hcd))) (blkOk_by ok) hg ht he hs) fun D s H ⟨F, g, o, r, e, k⟩ => by
  unfold sSet at e
  cases q : vLcN i t c f (own.map (·.2)) g with
  | none => rw [q] at e; cases e
  | some p =>
    obtain ⟨z, g1⟩ := p
    rw [q] at e
    exact tLc_ofN hw hn ⟨F, g, z, g1, r, q, fun v F1 H1 hv hn r1 t1 m1 => set_end r r1 t1 m1 hv hn e k⟩
/-- how it goes -/
theorem vLcN_own {i : Nat} {t : Fg} {c : Ft} {f : Fe} {vs : List Nat} {g g' : G} {tg : Option Addr} {ds ds' : List D} (hg : g[i]? = some (.own tg ds)) (ok : okW g vs = true) (h : lcGo (tOw i (.own tg ds) t) c f vs ds (wipeG g vs) = some (ds', g')) (he : g'[i]? = some (.own tg ds)) (hl : ds'.length ≤ 1000000) :
    vLcN i t c f vs g = some (.own none ds', backG g g' vs) := by
  unfold vLcN
  rw [hg]
  show vLcO i tg ds t c f vs g = _
  unfold vLcO
  rw [if_pos ok, h]
  simp only [Option.bind_some]
  rw [if_pos ⟨he, hl⟩]
end
end Dl
set_option Elab.async false
set_option linter.all false
set_option maxRecDepth 100000
namespace Dl
open PySem PySem.Spec PyProof.Rows L2

/-! ### a slot frozen ahead of an expression -/
def fz (i : Nat) (g : G) : G := match g[i]? with
  | some (.own none ds) => g.set i (.v (.list ds))
  | _ => g
def vFz (i : Nat) (f : Fv) : Fv := fun g => f (fz i g)
theorem dv_fz {X : Cx} (i : Nat) {a : Expr} {f : Fv} (h : DV X a f) : DV X a (vFz i f) := peMono h fun s H Q ⟨F, g, x, g', r, e, k⟩ => by
  unfold vFz fz at e
  split at e
  · rename_i ds hg
    obtain ⟨b, F', ho, dp, r2, st, mo⟩ := r.freeze hg
    refine ⟨F', _, x, g', r2, e, fun v F1 H1 hv hn r1 t1 m1 => k v F1 H1 hv (fun t es q => ?_) r1 (st.two mo t1) (mo.trans m1)⟩
    exact hn t es q
  · exact ⟨F, g, x, g', r, e, k⟩
end Dl
set_option Elab.async false
set_option linter.all false
set_option maxRecDepth 100000
namespace Dl
open PySem PySem.Spec PyProof.Rows L2
variable {X : Cx}
/-- {} -/
theorem de_dict0 {pos : Pos} : DE X (.Dict [] [] pos) (eC (.dict [])) := peMono pe_dnewT fun s H Q ⟨F, g, d, g', rp, e, k⟩ => by
  cases e
  intro p np
  exact k (.ref p) (upd F p (.dT [])) _ (.dct upd_same) (rp.stepN (Stp.laid np rp.fh) (sameLaid rp.fh np)) (Stp.andN Stp.refl (Stp.laid np rp.fh)) Mo.refl
end Dl
set_option Elab.async false
set_option linter.all false
set_option maxRecDepth 100000
set_option maxHeartbeats 4000000
namespace Dl
open PySem PySem.Spec PyProof.Rows L2
variable {X : Cx}
/-! ### a tuple so many times -/
theorem tuple_mulW1 (l : Addr) (items : Array Value) (n : Nat) (dd : Option Addr) (sl : Array (Option Value)) (u : Tok) :
    Meets (Builtin.«tuple.__mul__» ⟨[.ref l, .int 1 u], []⟩) (fun _ R s => s.heap.get? l = some { cls := .type "tuple", dict := dd, data := .seq items n, slots := sl } ∧ R (.ok (.ret (Value.ref l))) s) :=
  .of_wp fun prog w A R s h => by
    obtain ⟨hp, g, d, tk, os⟩ := s
    obtain ⟨hl, h⟩ := h
    have f1 := AutoSeq1.idx_int
    have c0 : (decide ((1 : Int) < -(2 ^ 63)) || decide ((1 : Int) ≥ 2 ^ 63)) = false := by decide
    have c1 : (items.isEmpty || (1 : Int) == 1) = true := by simp
    wp_walk using wpAny_loadPart' hl
    repeat (first
      | (refine wpAny_ite_false (decide_eq_false (by rw [c0]; exact Bool.false_ne_true)) ?_; wp_walk using wpAny_loadPart' hl)
      | (refine wpAny_ite_true (decide_eq_true c1) ?_; wp_walk using wpAny_loadPart' hl))
    exact ⟨_, rfl, h⟩
def rRep1 (K : PySem.W.Frag) : R2 := fun x y H Q => ∃ l xs, x = .ref l ∧ y = .int 1 ∧ SqT K H l xs ∧ Q (.ref l) H
theorem op_rep1 : OpR X (binaryOp .Mult) (rRep1 X.K) := by
  intro pins s σ H x y v u Q I rx ry h
  obtain ⟨l, xs, rfl, rfl, hT, q⟩ := h
  cases rx
  obtain ⟨t, rfl⟩ := ry
  obtain ⟨its, r, ⟨⟨cls, dd, data, sl⟩, ho, hc, n, hd⟩, hs⟩ := I.tuple hT
  simp only at hc hd
  subst hc hd
  exact wpAny_binaryOp_repeat_ref (T := "tuple") (U := "int") (by decide) ⟨_, ho, rfl⟩ (fun s' => typeIs_int s' 1 t) noFill_tuple_mul F.fills_int_mul F.slot_int_rmul repeat_tuple F.slot_int_index.lookup
    (call_meets F.slot_int_rmul (typeIs_int s 1 t) F.entry_int_rmul (F.args_int_rmul_2 _ _) (int_rmul_tuple 1 t l its.toArray n dd sl)
      ⟨ho, rfl, ⟨_, ho, rfl⟩, call_meets F.slot_tuple_mul ⟨_, ho, rfl⟩ F.entry_tuple_mul (F.args_tuple_mul_2 _ _) (tuple_mulW1 l its.toArray n dd sl t) ⟨ho, ⟨.ref l, H, I, rfl, q⟩⟩⟩)
def repTD : D → D → Option D
  | .tuple ds, .int k => if k = 1 then some (.tuple ds) else if ds ≠ [] ∧ 2 ≤ k ∧ k ≤ 1000 ∧ ds.length ≤ 1000 then some (.tuple (List.replicate k.toNat ds).flatten) else none
  | _, _ => none
theorem ok_repT : BinOk X.K (fun x y H Q => rRep1 X.K x y H Q ∨ rRepT X.K x y H Q) repTD := fun x y d1 d2 d F H Q fh p1 p2 e k => by
  unfold repTD at e
  split at e
  · rename_i ds i
    split at e
    · rename_i h1
      cases e
      subst h1
      cases p1 with
      | tup hs ha =>
        cases p2
        exact .inl ⟨_, _, rfl, rfl, Same.tupS fh hs, k _ F H (.tup hs ha) fh Stp.refl⟩
    split at e
    · rename_i hz
      cases e
      cases p1 with
      | tup hs ha =>
        cases p2
        exact .inr ⟨_, _, _, rfl, rfl, Same.tupS fh hs, fun z => hz.1 (dpNil ha z), hz.2.1, hz.2.2.1, by rw [dpLen ha]; exact hz.2.2.2, newTup fh (dpRep ha _) k⟩
    · cases e
  · cases e
theorem de_repT {a b : Expr} {pos : Pos} {fa fb : Fe} (ha : DE X a fa) (hb : DE X b fb) : DE X (.BinOp a .Mult b pos) (eBin repTD fa fb) := de_op (op_rep1.or op_repT) ok_repT ha hb
/-! ### [::-1] -/
theorem fmCongr {α β : Type} {f g : α → Option β} : ∀ (l : List α), (∀ x, x ∈ l → f x = g x) → l.filterMap f = l.filterMap g
  | [], _ => rfl
  | a :: l, h => by
    rw [List.filterMap_cons, List.filterMap_cons, h a (by simp), fmCongr l fun x hx => h x (by simp [hx])]
section
variable {prog : Program} {w : World} {A : Around} {E : Value → Shared → Prop} {s : Shared}
theorem places_rev (n : Nat) : Builtin.Slice.slicePlaces ((n : Int) - 1) (-1) (-1) = n := by
  unfold Builtin.Slice.slicePlaces
  have h1 : ¬ ((-1 : Int) > 0) := by omega
  simp only [h1, if_false]
  split
  · have : (n : Int) - 1 - -1 - 1 = n - 1 := by omega
    rw [this, show (-(-1) : Int) = 1 from rfl, Int.ediv_one]
    omega
  · omega
theorem filt_rev {α : Type} : ∀ (xs : List α), (List.range xs.length).filterMap (fun k => xs[xs.length - 1 - k]?) = xs.reverse
  | [] => rfl
  | x :: xs => by
    rw [List.length_cons, List.range_succ, List.filterMap_append, List.reverse_cons]
    congr 1
    · rw [← filt_rev xs]
      refine fmCongr _ ?_
      intro k hk
      have := List.mem_range.mp hk
      rw [show xs.length + 1 - 1 - k = (xs.length - 1 - k) + 1 from by omega]
      rfl
    · simp
theorem pick_rev (its : List Value) : ((List.range its.length).filterMap fun (m : Nat) => its.toArray[(((its.length : Int) - 1) + (m : Int) * (-1)).toNat]?).toArray = its.reverse.toArray := by
  rw [← filt_rev its]
  congr 1
  refine fmCongr _ ?_
  intro k hk
  have := List.mem_range.mp hk
  rw [show (((its.length : Int) - 1) + (k : Int) * (-1)).toNat = its.length - 1 - k from by omega]
  simp
theorem getItem_tuple_rev {t sl : Addr} {its : List Value} {tk : Tok} {Q : Value → Shared → Prop} (ht : IsTup s.heap t its.toArray) (hs : s.heap.IsSliceOf sl .none .none (.int (-1) tk))
    (h : Q (.ref s.heap.objs.size) { s with heap := s.heap.push { cls := .type "tuple", data := .seq its.reverse.toArray } })
    (hsz : its.length ≤ sizeLine) : wpAny (model prog w) A (getItem (.ref t) (.ref sl)) Q E s := by
  have htake : sizeOk (.seq its.reverse.toArray) := by
    show its.reverse.toArray.size ≤ sizeLine
    rw [List.size_toArray, List.length_reverse]
    exact hsz
  obtain ⟨os, hos, hcs, hds⟩ := id hs
  have hTs : s.TypeIs (.ref sl) "slice" := ⟨os, hos, hcs⟩
  unfold getItem
  try with_reducible refine wpAny_holding ?_
  first | refine wpAny_bind (wpAny_pure ?_) | skip
  refine wpAny_bind (wpAny_sequenceKey ht.typeIs (by decide) ?_)
  refine wpAny_bind (wpAny_callSpecial?_slot (name := Str.ofString "__getitem__") ht.typeIs PyProof.Rows.slot_tuple_getitem
    (wpAny_call_entry PyProof.Rows.slot_tuple_getitem ht.typeIs entry_tuple_getitem ?_ (args_tuple_getitem _ _)))
  show wpAny _ _ (Builtin.Tuple.tupleItemsOf (.ref t) >>= _) _ _ s
  refine wpAny_bind (tupleItemsOf_ ht ?_)
  refine wpAny_bind (wpAny_typeOf hTs ?_)
  rw [if_pos (by decide)]
  have sa : ∀ (A : Around) (Q' : Int × Int × Nat → Shared → Prop), Q' ((its.toArray.size : Int) - 1, (-1 : Int), its.length) s → wpAny (model prog w) A (Builtin.Slice.sliceApplied (.ref sl) (pure (its.toArray.size : Int))) Q' E s := fun A Q' h => by
    unfold Builtin.Slice.sliceApplied Builtin.Slice.sliceFields
    refine wpAny_bind (wpAny_bind (wpAny_field hos hds (x := .none) rfl (wpAny_bind (wpAny_field hos hds (x := .none) rfl (wpAny_bind (wpAny_field hos hds (x := .int (-1) tk) rfl (wpAny_pure ?_)))))))
    refine wpAny_bind (slicePart_int ?_)
    show wpAny _ _ (if ((-1 : Int) == 0) = true then _ else _) _ _ s
    rw [if_neg (by decide)]
    refine wpAny_bind (slicePart_none (wpAny_bind (slicePart_none (wpAny_bind (wpAny_pure ?_)))))
    show wpAny _ _ (pure (((its.toArray.size : Int) - 1 : Int), (-1 : Int), Builtin.Slice.slicePlaces ((its.toArray.size : Int) - 1) (-1) (-1))) _ _ s
    rw [places_rev, List.size_toArray]
    rw [List.size_toArray] at h
    exact wpAny_pure h
  refine wpAny_bind (sa _ _ ?_)
  have hno : ¬ ((((its.toArray.size : Int) - 1) == 0 && (-1 : Int) == 1 && its.length == its.toArray.size) = true) := by simp
  show wpAny _ _ (if (((its.toArray.size : Int) - 1) == 0 && (-1 : Int) == 1 && its.length == its.toArray.size) = true then _ else _) _ _ s
  rw [if_neg hno, List.size_toArray, pick_rev]
  first
    | exact wpAny_bind (m := Builtin.Tuple.tupleExact _) (wpAny_newObj_type (wpAny_pure ⟨_, rfl, wpAny_pure h⟩) htake)
    | exact wpAny_bind (m := Builtin.Tuple.tupleExact _) (wpAny_newObj_type (wpAny_bind (wpAny_pure (wpAny_pure ⟨_, rfl, wpAny_pure h⟩))) htake)
    | exact wpAny_bind (wpAny_bind (m := Builtin.Tuple.tupleExact _) (wpAny_newObj_type (wpAny_pure (wpAny_pure ⟨_, rfl, wpAny_pure h⟩)) htake))
    | exact wpAny_bind (wpAny_bind (m := Builtin.Tuple.tupleExact _) (wpAny_newObj_type (wpAny_pure ⟨_, rfl, wpAny_pure h⟩) htake))
end
end Dl
set_option Elab.async false
set_option linter.all false
set_option maxRecDepth 100000
set_option maxHeartbeats 4000000
namespace Dl
open PySem PySem.Spec PyProof.Rows L2
variable {X : Cx}
/-- e[::k], any e -/
def SlRv (X : Cx) (r : V → Hp → VK → Prop) : Prop :=
  ∀ (pins : List (Addr × Obj)) (s : Shared) (σ : L2.St) (H : Hp) (x : V) (v : Value) (tk : Tok) (sl : Addr) (Q : VK), Inv X pins σ H s → RelV x v → s.heap.IsSliceOf sl .none .none (.int (-1) tk) → r x H Q →
    ∃ T id, typeLookup (.type T) "__getitem__" = pure (some (.builtin id)) ∧ s.TypeIs v T ∧ wpAny (model X.prog X.w) X.A (getItem v (.ref sl)) (EP X pins σ Q) X.xe s
def tRv (r : V → Hp → VK → Prop) (te ts : TE) : TE := fun σ H Q => te σ H fun x H1 => ts σ H1 fun y H2 => y = .int (-1) ∧ r x H2 Q
theorem pe_rev {r : V → Hp → VK → Prop} {e st : Expr} {te ts : TE} {p2 pos : Pos} (hr : SlRv X r) (he : PE X e te) (hs : PE X st ts) : PE X (.Subscript e (.Slice none none (some st) p2) pos) (tRv r te ts) := by
  refine ⟨fun pins s σ H Q I h => ?_⟩
  refine Subscript_ (thn (he.run pins s σ H _ I h) fun v s1 ⟨x, H1, I1, r1, q1⟩ => ?_)
  refine wpAny_Slice ?_
  rw [evalPart_none]
  refine wpAny_pure ?_
  refine wpAny_pure ?_
  rw [evalPart_some]
  refine thn (hs.run pins s1 σ H1 _ I1 q1) fun vs s3 ⟨y, H3, I3, ry, q3⟩ => ?_
  obtain ⟨rfl, q3⟩ := q3
  obtain ⟨tk, rfl⟩ := ry
  have I4 : Inv X pins σ H3 { s3 with heap := s3.heap.push { cls := .type "slice", data := .fields #[.none, .none, .int (-1) tk] } } := I3.kept (t' := s3.toks) fun b ob q => Heap.get?_push_of_some _ q
  obtain ⟨T, id, hT, ht, hg⟩ := hr pins { s3 with heap := s3.heap.push { cls := .type "slice", data := .fields #[.none, .none, .int (-1) tk] } } σ H3 x v tk s3.heap.objs.size Q I4 r1 (Heap.IsSliceOf.new ..) q3
  show wpAny (model X.prog X.w) X.A (subscriptTail e (.Slice none none (some st) p2) v (.ref s3.heap.objs.size)) (EP X pins σ Q) X.xe { s3 with heap := s3.heap.push { cls := .type "slice", data := .fields #[.none, .none, .int (-1) tk] } }
  exact tail_any (ops := [v, .ref s3.heap.objs.size]) ht hT hg (by with_unfolding_all rfl)
def rRvT (K : PySem.W.Frag) : V → Hp → VK → Prop := fun x H Q => ∃ a xs, x = .ref a ∧ SqT K H a xs ∧ ∀ p, H p = none → Q (.ref p) (upd H p (.tup xs.reverse))
theorem rv_tup : SlRv X (rRvT X.K) := by
  intro pins s σ H x v tk sl Q I rx hs h
  obtain ⟨a, xs, rfl, hx, q⟩ := h
  cases rx
  obtain ⟨its, r, ht, hz⟩ := I.tuple hx
  have hlen := r.length
  refine ⟨"tuple", _, PyProof.Rows.slot_tuple_getitem.lookup, ht.typeIs, ?_⟩
  refine getItem_tuple_rev ht hs ?_ (by omega)
  refine ⟨.ref s.heap.objs.size, _, I.laid (t' := s.toks) (o := .tup xs.reverse) (fun b ob q => Heap.get?_push_of_some _ q) (Nat.le_refl _) ?_, rfl, q _ (I.hok.fresh (Nat.le_refl _))⟩
  exact ⟨by rw [List.length_reverse]; exact hz, _, r.reverse, IsTup.new _ _⟩
theorem pick_revL (its : List Value) : slicePick its.toArray none none (some (-1)) = its.reverse.toArray := by
  unfold slicePick
  rw [← filt_rev its]
  congr 1
  simp only [sliceBounds, sliceRange, List.size_toArray]
  have h1 : ¬ ((-1 : Int) > 0) := by omega
  simp only [h1, if_false, Option.getD_some]
  rw [List.filterMap_map]
  have hc : (if ((its.length : Int) - 1) > -1 then ((its.length : Int) - 1 - -1 - -1 - 1) / (-(-1)) else 0).toNat = its.length := by
    rw [show (-(-1) : Int) = 1 from rfl, Int.ediv_one]
    split <;> omega
  rw [hc]
  refine fmCongr _ ?_
  intro k hk
  have := List.mem_range.mp hk
  show its.toArray[((its.length : Int) - 1 + -1 * (k : Int)).toNat]? = _
  rw [show ((its.length : Int) - 1 + -1 * (k : Int)).toNat = its.length - 1 - k from by omega]
  simp
def rRvL (K : PySem.W.Frag) : V → Hp → VK → Prop := fun x H Q => ∃ a xs, x = .ref a ∧ SqL K H a xs ∧ ∀ p, H p = none → Q (.ref p) (upd H p (.lst xs.reverse))
theorem rv_lst : SlRv X (rRvL X.K) := by
  intro pins s σ H x v tk sl Q I rx hs h
  obtain ⟨a, xs, rfl, hx, q⟩ := h
  cases rx
  obtain ⟨its, r, ht, hz⟩ := I.list hx
  have hlen := r.length
  refine ⟨"list", _, slot_list_getitem.lookup, ht.isList.typeIs, ?_⟩
  refine wpAny_getItem_list_slice ht.isList hs .none .none (.int (-1) tk) (by simp) ?_ (by rw [List.size_toArray] <;> omega)
  rw [pick_revL]
  refine ⟨.ref s.heap.objs.size, _, I.laid (t' := s.toks) (o := .lst xs.reverse) (fun b ob q => Heap.get?_push_of_some _ q) (Nat.le_refl _) ?_, rfl, q _ (I.hok.fresh (Nat.le_refl _))⟩
  exact ⟨by rw [List.length_reverse]; exact hz, _, 0, r.reverse, Heap.get?_push_size _ rfl⟩
theorem SlRv.or {r r' : V → Hp → VK → Prop} (h : SlRv X r) (h' : SlRv X r') : SlRv X (fun x H Q => r x H Q ∨ r' x H Q) := by
  intro pins s σ H x v tk sl Q I rx hs q
  rcases q with q | q
  · exact h pins s σ H x v tk sl Q I rx hs q
  · exact h' pins s σ H x v tk sl Q I rx hs q
def revD : D → Option D
  | .tuple ds => some (.tuple ds.reverse)
  | .list ds => some (.list ds.reverse)
  | _ => none
theorem dpRevL {K : PySem.W.Frag} {F : Hp} {xs : List V} {ds : List D} (h : DpAll K F xs ds) : DpAll K F xs.reverse ds.reverse := by
  induction xs generalizing ds with
  | nil => cases h; exact .nil
  | cons x xs ih =>
    cases h with
    | cons h1 h2 =>
      rw [List.reverse_cons, List.reverse_cons]
      exact dpApp (ih h2) (.cons h1 .nil)
theorem de_rev {a : Expr} {p1 p2 p3 p4 : Pos} {j : Nat} {fa : Fe} (ha : DE X a fa) : DE X (.Subscript a (.Slice none none (some (.UnaryOp .USub (.Constant (.int 1) j p1) p2)) p3) p4) (eUn revD fa) := peMono (pe_rev (rv_tup.or rv_lst) ha (de_neg de_int)) fun s H Q ⟨F, g, d, g', rp, e, k⟩ => by
  obtain ⟨d1, e1, e2⟩ := eUn_inv e
  refine ⟨F, g, d1, g', rp, e1, fun v1 F1 H1 p1 r1 t1 m1 => ⟨F1, g', .int (-1), g', r1, rfl, fun v2 F2 H2 p2 r2 t2 m2 => ?_⟩⟩
  have p3 := dpMono t2.fs _ _ p1
  have tt := t1.two m1 t2
  cases p2
  refine ⟨rfl, ?_⟩
  unfold revD at e2
  split at e2
  · cases e2
    cases p3 with
    | tup hs hp => exact .inl ⟨_, _, rfl, Same.tupS r2.fh hs, newTup r2.fh (dpRevL hp) fun v F' H' hv fh st => k v F' H' hv (r2.stepN st fh) (tt.andN st) m1⟩
  · cases e2
    cases p3 with
    | lst hs hp => exact .inr ⟨_, _, rfl, r2.fh.seq hs, newLstF r2.fh (dpRevL hp) fun v F' H' hv fh st => k v F' H' hv (r2.stepN st fh) (tt.andN st) m1⟩
  · cases e2
end Dl
set_option Elab.async false
set_option linter.all false
set_option maxRecDepth 100000
set_option maxHeartbeats 4000000
namespace Dl
open PySem PySem.Spec PyProof.Rows L2
variable {X : Cx}
/-! ### list + list, of any lists that are data: a new list -/
def rCatL (K : PySem.W.Frag) : R2 := fun x y H Q => ∃ l b xs zs, x = .ref l ∧ y = .ref b ∧ SqL K H l xs ∧ SqL K H b zs ∧ xs.length + zs.length ≤ sizeLine ∧ ∀ p, H p = none → Q (.ref p) (upd H p (.lst (xs ++ zs)))
theorem op_catL : OpR X (binaryOp .Add) (rCatL X.K) := by
  intro pins s σ H x y v u Q I rx ry h
  obtain ⟨l, b, xs, zs, rfl, rfl, ha, hb, hz, q⟩ := h
  cases rx
  cases ry
  obtain ⟨its, r, ⟨⟨cls, dd, data, sl⟩, n, ho, hc, hdd, hd⟩, _⟩ := I.list ha
  obtain ⟨its2, r2, ⟨⟨cls2, dd2, data2, sl2⟩, n2, ho2, hc2, hdd2, hd2⟩, _⟩ := I.list hb
  simp only at hc hd hc2 hd2
  subst hc hd hc2 hd2
  have l1 := r.length
  have l2 := r2.length
  have e : its.toArray ++ its2.toArray = (its ++ its2).toArray := by simp
  refine concat_meets ⟨_, ho, rfl⟩ ⟨_, ho2, rfl⟩ noFill_list_add seq_list_add PySem.F.slot_list_add PySem.F.entry_list_add (PySem.F.args_list_add_2 _ _) (list_addW l b its.toArray its2.toArray n n2 dd dd2 sl sl2 (by rw [List.size_toArray, List.size_toArray]; omega)) ⟨ho, ho2, ?_⟩
  rw [e]
  refine ⟨.ref s.heap.objs.size, _, I.laid (t' := s.toks) (o := .lst (xs ++ zs)) (fun b ob q => Heap.get?_push_of_some _ q) (Nat.le_refl _) ?_, rfl, q _ (I.hok.fresh (Nat.le_refl _))⟩
  exact ⟨by rw [List.length_append]; exact hz, _, 0, r.append r2, Heap.get?_push_size _ rfl⟩
def vCatE (fa fb : Fe) : Fv := fun g => (fa g).bind fun p => (fb p.2).bind fun q => match p.1, q.1 with
  | .list xs, .list ys => if xs.length + ys.length ≤ 1000000 then some (.own none (xs ++ ys), q.2) else none
  | _, _ => none
theorem vCatE_of {fa fb : Fe} {g g1 g2 : G} {xs ys : List D} (e : fa g = some (.list xs, g1)) (e2 : fb g1 = some (.list ys, g2)) (h : xs.length + ys.length ≤ 1000000) : vCatE fa fb g = some (.own none (xs ++ ys), g2) := by
  unfold vCatE
  simp only [e, e2, Option.bind_some, h, if_true]
theorem dv_catE {a b : Expr} {pos : Pos} {fa fb : Fe} (ha : DE X a fa) (hb : DE X b fb) : DV X (.BinOp a .Add b pos) (vCatE fa fb) := peMono (pe_op op_catL ha hb) fun s H Q ⟨F, g, d, g', rp, e, k⟩ => by
  unfold vCatE at e
  cases q : fa g with
  | none => rw [q] at e; cases e
  | some p =>
    rw [q] at e
    have e : (fb p.2).bind _ = some (d, g') := e
    cases q2 : fb p.2 with
    | none => rw [q2] at e; cases e
    | some l =>
      rw [q2] at e
      obtain ⟨d1, g1⟩ := p
      obtain ⟨d2, g2⟩ := l
      simp only [Option.bind_some] at e
      split at e
      · rename_i xs ys
        split at e
        · rename_i hz
          cases e
          refine ⟨F, g, _, g1, rp, q, fun v F1 H1 p1 r1 t1 m1 => ⟨F1, g1, _, _, r1, q2, fun v2 F2 H2 p2 r2 t2 m2 => ?_⟩⟩
          have p3 := dpMono t2.fs _ _ p1
          cases p3 with
          | lst hs1 hp1 =>
            cases p2 with
            | lst hs2 hp2 =>
              exact ⟨_, _, _, _, rfl, rfl, r2.fh.seq hs1, r2.fh.seq hs2, by rw [dpLen hp1, dpLen hp2]; exact Nat.le_trans hz million, newLst r2 (dpApp hp1 hp2) (t1.two m1 t2) (m1.trans m2) k⟩
        · cases e
      · cases e
end Dl
set_option Elab.async false
set_option linter.all false
set_option maxRecDepth 100000
namespace Dl
open PySem PySem.Spec PyProof.Rows L2

theorem log_lt {n k : Nat} (hk : 0 < k) (h : n < 2 ^ k) : n.log2 < k := by
  by_cases e : n = 0
  · subst e; simpa using hk
  · exact (Nat.log2_lt e).mpr h
/-! ### loops told by what stays -/
theorem forGo_inv {t : Fg} {b : Fs} (E : G → Prop) : ∀ (ds : List D), (∀ d ∈ ds, ∀ g, E g → ∃ g1 g2, t d g = some g1 ∧ b g1 = some (.nx g2) ∧ E g2) → ∀ g, E g → ∃ g', forGo t b ds g = some (.nx g') ∧ E g'
  | [], _, g, e => ⟨g, rfl, e⟩
  | d :: r, h, g, e => by
    obtain ⟨g1, g2, h1, h2, h3⟩ := h d (List.mem_cons_self ..) g e
    obtain ⟨g', h4, h5⟩ := forGo_inv E r (fun d hd => h d (List.mem_cons_of_mem _ hd)) g2 h3
    exact ⟨g', by simp [forGo, h1, h2, h4], h5⟩
/-- a loop that looks for the first thing to hand back -/
theorem forGo_find {t : Fg} {b : Fs} (E : G → Prop) (p : D → Option Sl) : ∀ (ds : List D),
    (∀ d ∈ ds, ∀ g, E g → ∃ g1, t d g = some g1 ∧ ((p d = none ∧ ∃ g2, b g1 = some (.nx g2) ∧ E g2) ∨ ∃ x g2, p d = some x ∧ b g1 = some (.ret x g2))) →
    ∀ g, E g → (ds.findSome? p = none ∧ ∃ g', forGo t b ds g = some (.nx g') ∧ E g') ∨ ∃ x g', ds.findSome? p = some x ∧ forGo t b ds g = some (.ret x g')
  | [], _, g, e => .inl ⟨rfl, g, rfl, e⟩
  | d :: r, h, g, e => by
    obtain ⟨g1, h1, h2⟩ := h d (List.mem_cons_self ..) g e
    rcases h2 with ⟨hp, g2, h2, h3⟩ | ⟨x, g2, hp, h2⟩
    · rcases forGo_find E p r (fun d hd => h d (List.mem_cons_of_mem _ hd)) g2 h3 with ⟨h4, g', h5, h6⟩ | ⟨x, g', h4, h5⟩
      · exact .inl ⟨by simp [List.findSome?_cons, hp, h4], g', by simp [forGo, h1, h2, h5], h6⟩
      · exact .inr ⟨x, g', by simp [List.findSome?_cons, hp, h4], by simp [forGo, h1, h2, h5]⟩
    · exact .inr ⟨x, g2, by simp [List.findSome?_cons, hp], by simp [forGo, h1, h2]⟩
/-- by what is left -/
theorem forGo_rest {t : Fg} {b : Fs} (P : List D → G → Prop) (h : ∀ d r g, P (d :: r) g → ∃ g1 g2, t d g = some g1 ∧ b g1 = some (.nx g2) ∧ P r g2) : ∀ (ds : List D) (g : G), P ds g → ∃ g', forGo t b ds g = some (.nx g') ∧ P [] g'
  | [], g, e => ⟨g, rfl, e⟩
  | d :: r, g, e => by
    obtain ⟨g1, g2, h1, h2, h3⟩ := h d r g e
    obtain ⟨g', h4, h5⟩ := forGo_rest P h r g2 h3
    exact ⟨g', by simp [forGo, h1, h2, h4], h5⟩
/-- a loop that gathers -/
theorem forGo_acc {α β : Type} {t : Fg} {b : Fs} (enc : α → D) (h : α → β) (E : List β → G → Prop) (M : Nat) : ∀ (xs : List α) (acc : List β) (g : G), acc.length + xs.length ≤ M →
    (∀ x ∈ xs, ∀ acc g, acc.length < M → E acc g → ∃ g1 g2, t (enc x) g = some g1 ∧ b g1 = some (.nx g2) ∧ E (acc ++ [h x]) g2) → E acc g → ∃ g', forGo t b (xs.map enc) g = some (.nx g') ∧ E (acc ++ xs.map h) g'
  | [], acc, g, _, _, e => ⟨g, rfl, by simpa using e⟩
  | x :: r, acc, g, hl, H, e => by
    simp only [List.length_cons] at hl
    obtain ⟨g1, g2, h1, h2, h3⟩ := H x (List.mem_cons_self ..) acc g (by omega) e
    obtain ⟨g', h4, h5⟩ := forGo_acc enc h E M r (acc ++ [h x]) g2 (by simp; omega) (fun x hx => H x (List.mem_cons_of_mem _ hx)) h3
    refine ⟨g', by simp [forGo, h1, h2, h4], ?_⟩
    simpa using h5
/-- a loop whose state is told apart from the tag -/
theorem forGo_uni {σ : Type} {tg : Fg} {b : Fs} (enc : Option Addr → σ → G) (I : Nat → σ → Prop) (M : Nat) : ∀ (ds : List D) (m : Nat) (s : σ), m + ds.length ≤ M → I m s →
    (∀ d ∈ ds, ∀ m s, m < M → I m s → ∃ s', I (m + 1) s' ∧ ∀ t, ∃ g1, tg d (enc t s) = some g1 ∧ b g1 = some (.nx (enc t s'))) → ∃ s', I (m + ds.length) s' ∧ ∀ t, forGo tg b ds (enc t s) = some (.nx (enc t s'))
  | [], m, s, _, h, _ => ⟨s, h, fun t => rfl⟩
  | d :: r, m, s, hM, h, H => by
    simp only [List.length_cons] at hM
    obtain ⟨s1, h1, h2⟩ := H d (List.mem_cons_self ..) m s (by omega) h
    obtain ⟨s', h3, h4⟩ := forGo_uni enc I M r (m + 1) s1 (by omega) h1 fun d hd => H d (List.mem_cons_of_mem _ hd)
    refine ⟨s', by rw [List.length_cons, Nat.add_comm r.length, ← Nat.add_assoc]; exact h3, fun t => ?_⟩
    obtain ⟨g1, k1, k2⟩ := h2 t
    simp [forGo, k1, k2, h4 t]
/-! ### step by step -/
theorem fnP_ret {f : Fs} {N : Nat} {ds : List D} {x : Sl} {g' : G} (g0 : G) (hg : ds.map Sl.v ++ List.replicate (N - ds.length) .no = g0) (h : f g0 = some (.ret x g')) : fnP f N ds = some x := by
  unfold fnP runG
  rw [List.length_map, hg, h]
  rfl
theorem fnP_nx {f : Fs} {N : Nat} {ds : List D} {g' : G} (g0 : G) (hg : ds.map Sl.v ++ List.replicate (N - ds.length) .no = g0) (h : f g0 = some (.nx g')) : fnP f N ds = some (.v .none) := by
  unfold fnP runG
  rw [List.length_map, hg, h]
  rfl
theorem seq_nx {f h : Fs} {g g1 : G} {o : Option Out} (e : f g = some (.nx g1)) (e2 : h g1 = o) : sSeq f h g = o := by
  unfold sSeq
  rw [e]
  exact e2
theorem seq_ret {f h : Fs} {g g1 : G} {x : Sl} (e : f g = some (.ret x g1)) : sSeq f h g = some (.ret x g1) := by
  unfold sSeq
  rw [e]
  rfl
theorem if_t {t : Ft} {f h : Fs} {g g1 : G} {o : Option Out} (e : t g = some (true, g1)) (e2 : f g1 = o) : sIf t f h g = o := by
  unfold sIf
  rw [e]
  exact e2
theorem if_f {t : Ft} {f h : Fs} {g g1 : G} {o : Option Out} (e : t g = some (false, g1)) (e2 : h g1 = o) : sIf t f h g = o := by
  unfold sIf
  rw [e]
  exact e2
theorem set_v {i : Nat} {f : Fv} {g g1 : G} {d : D} (e : f g = some (.v d, g1)) : sSet i f g = some (.nx (g1.set i (.v d))) := by
  unfold sSet
  rw [e]
  rfl
theorem set_o {i : Nat} {f : Fv} {g g1 : G} {ds : List D} (e : f g = some (.own none ds, g1)) : sSet i f g = some (.nx (g1.set i (.own none ds))) := by
  unfold sSet
  rw [e]
  rfl
theorem ret_v {f : Fv} {g g1 : G} {d : D} (e : f g = some (.v d, g1)) : sRet f g = some (.ret (.v d) g1) := by
  unfold sRet
  rw [e]
  rfl
theorem ret_o {f : Fv} {g g1 : G} {t : Option Addr} {ds : List D} (e : f g = some (.own t ds, g1)) : sRet f g = some (.ret (.own t ds) g1) := by
  unfold sRet
  rw [e]
  rfl
theorem ex_of {f : Fe} {g g1 : G} {d : D} (e : f g = some (d, g1)) : sEx f g = some (.nx g1) := by
  unfold sEx
  rw [e]
  rfl
theorem for_of {f : Fa} {t : Fg} {b : Fs} {g g1 : G} {ds : List D} {o : Option Out} (e : f g = some (ds, g1)) (e2 : forGo t b ds g1 = o) : sFor f t b g = o := by
  unfold sFor
  rw [e]
  exact e2
theorem vE_of {f : Fe} {g g1 : G} {d : D} (e : f g = some (d, g1)) : vE f g = some (.v d, g1) := by
  unfold vE
  rw [e]
  rfl
theorem eV_v {f : Fv} {g g1 : G} {d : D} (e : f g = some (.v d, g1)) : eV f g = some (d, g1) := by
  unfold eV
  rw [e]
  rfl
theorem eV_o {f : Fv} {g g1 : G} {t : Option Addr} {ds : List D} (e : f g = some (.own t ds, g1)) : eV f g = some (.list ds, g1) := by
  unfold eV
  rw [e]
  rfl
theorem eUn_of {op : D → Option D} {f : Fe} {g g1 : G} {d d2 : D} (e : f g = some (d, g1)) (h : op d = some d2) : eUn op f g = some (d2, g1) := by
  unfold eUn
  rw [e]
  show (op d).map _ = _
  rw [h]
  rfl
theorem eBin_of {op : D → D → Option D} {f h : Fe} {g g1 g2 : G} {d d2 d3 : D} (e : f g = some (d, g1)) (e2 : h g1 = some (d2, g2)) (k : op d d2 = some d3) : eBin op f h g = some (d3, g2) := by
  unfold eBin
  rw [e]
  show (h g1).bind _ = _
  rw [e2]
  show (op d d2).map _ = _
  rw [k]
  rfl
theorem eCall_of {m : List D → Option Sl} {f : Fa} {g g1 : G} {ds : List D} {x : Sl} (e : f g = some (ds, g1)) (h : m ds = some x) : eCall m f g = some (x, g1) := by
  unfold eCall
  rw [e]
  show (m ds).map _ = _
  rw [h]
  rfl
theorem tOf_b {f : Fe} {g g1 : G} {b : Bool} (e : f g = some (.bool b, g1)) : tOf f g = some (b, g1) := by
  unfold tOf
  rw [e]
  rfl
theorem tNot_of {f : Ft} {g g1 : G} {b : Bool} (e : f g = some (b, g1)) : Dl.tNotT f g = some (!b, g1) := by
  unfold Dl.tNotT
  rw [e]
  rfl
theorem tOr_t {f h : Ft} {g g1 : G} (e : f g = some (true, g1)) : Dl.tOrT f h g = some (true, g1) := by
  unfold Dl.tOrT
  rw [e]
  rfl
theorem tOr_f {f h : Ft} {g g1 : G} {o : Option (Bool × G)} (e : f g = some (false, g1)) (e2 : h g1 = o) : Dl.tOrT f h g = o := by
  unfold Dl.tOrT
  rw [e]
  exact e2
theorem tAnd_f {f h : Ft} {g g1 : G} (e : f g = some (false, g1)) : Dl.tAndT f h g = some (false, g1) := by
  unfold Dl.tAndT
  rw [e]
  rfl
theorem tAnd_t {f h : Ft} {g g1 : G} {o : Option (Bool × G)} (e : f g = some (true, g1)) (e2 : h g1 = o) : Dl.tAndT f h g = o := by
  unfold Dl.tAndT
  rw [e]
  exact e2
theorem eAnd_t {f h : Fe} {g g1 : G} {o : Option (D × G)} (e : f g = some (.bool true, g1)) (e2 : h g1 = o) : eAnd f h g = o := by
  unfold eAnd
  rw [e]
  exact e2
theorem eAnd_f {f h : Fe} {g g1 : G} (e : f g = some (.bool false, g1)) : eAnd f h g = some (.bool false, g1) := by
  unfold eAnd
  rw [e]
  rfl
theorem eOr_t {f h : Fe} {g g1 : G} (e : f g = some (.bool true, g1)) : eOr f h g = some (.bool true, g1) := by
  unfold eOr
  rw [e]
  rfl
theorem eOr_f {f h : Fe} {g g1 : G} {o : Option (D × G)} (e : f g = some (.bool false, g1)) (e2 : h g1 = o) : eOr f h g = o := by
  unfold eOr
  rw [e]
  exact e2
theorem ar_nil {g : G} : aNil g = some ([], g) := rfl
theorem ar_cons {f : Fe} {fs : Fa} {g g1 g2 : G} {d : D} {ds : List D} (e : f g = some (d, g1)) (e2 : fs g1 = some (ds, g2)) : aCons f fs g = some (d :: ds, g2) := by
  unfold aCons
  rw [e]
  show (fs g1).map _ = _
  rw [e2]
  rfl
theorem eTup_of {f : Fa} {g g1 : G} {ds : List D} (e : f g = some (ds, g1)) : eTup f g = some (.tuple ds, g1) := by
  unfold eTup
  rw [e]
  rfl
theorem vLst_of {f : Fa} {g g1 : G} {ds : List D} (e : f g = some (ds, g1)) : vLst f g = some (.own none ds, g1) := by
  unfold vLst
  rw [e]
  rfl
theorem ixV_v {i : Nat} {f : Fe} {g g1 : G} {a b d d2 : D} (e0 : slD g[i]? = some a) (e : f g = some (d, g1)) (e1 : slD g1[i]? = some b) (k : atD b d = some d2) : eIxV i f g = some (d2, g1) := by
  unfold eIxV
  rw [e0]
  show (f g).bind _ = _
  rw [e]
  show (slD g1[i]?).bind _ = _
  rw [e1]
  show (atD b d).map _ = _
  rw [k]
  rfl
theorem par_of {i j : Nat} {f h : Fv} {g g1 g2 : G} {x y : D} (e : f g = some (.v x, g1)) (e2 : h g1 = some (.v y, g2)) : sPar i j f h g = some (.nx ((g2.set i (.v x)).set j (.v y))) := by
  unfold sPar
  rw [e]
  show (h g1).bind _ = _
  rw [e2]
  rfl
theorem iSeq_of {f : Fe} {g g1 : G} {d : D} {ds : List D} (e : f g = some (d, g1)) (h : seqD d = some ds) : iSeq f g = some (ds, g1) := by
  unfold iSeq
  rw [e]
  show (seqD d).map _ = _
  rw [h]
  rfl
theorem eIf_t {t : Ft} {f h : Fe} {g g1 : G} {o : Option (D × G)} (e : t g = some (true, g1)) (e2 : f g1 = o) : eIf t f h g = o := by
  unfold eIf
  rw [e]
  exact e2
theorem eIf_f {t : Ft} {f h : Fe} {g g1 : G} {o : Option (D × G)} (e : t g = some (false, g1)) (e2 : h g1 = o) : eIf t f h g = o := by
  unfold eIf
  rw [e]
  exact e2
theorem app_of {i : Nat} {f : Fv} {g g1 : G} {t : Option Addr} {ds ds0 : List D} {d : D} (e0 : ownD g[i]? = some ds0) (e : eV f g = some (d, g1)) (e1 : g1[i]? = some (.own t ds)) (hl : ds.length < 1000000) : eApp i f g = some (.none, g1.set i (.own t (ds ++ [d]))) := by
  unfold eApp
  simp only [e0, e, e1, hl, Option.bind_some, if_true]
theorem callI_of {m : List D → List D → Option (Sl × List D)} {i : Nat} {f : Fa} {g g1 : G} {t : Option Addr} {es0 es es' ds : List D} {x : Sl} (e0 : ownD g[i]? = some es0) (e : f g = some (ds, g1)) (e1 : g1[i]? = some (.own t es)) (k : m es ds = some (x, es')) : eCallI m i f g = some (x, g1.set i (.own t es')) := by
  unfold eCallI
  simp only [e0, e, e1, k, Option.bind_some, Option.map_some]
theorem put_of {i : Nat} {fj : Fe} {f : Fv} {g g1 g2 : G} {t : Option Addr} {ds : List D} {d : D} {k : Int} {j : Nat} (e : eV f g = some (d, g1)) (e0 : g1[i]? = some (.own t ds)) (e1 : fj g1 = some (.int k, g2)) (e2 : g2[i]? = some (.own t ds)) (e3 : L2.ixN ds.length k = some j) : sPut i fj f g = some (.nx (g2.set i (.own t (ds.set j d)))) := by
  unfold sPut
  simp only [e, e0, e1, e2, e3, Option.bind_some, Option.map_some, slD]
theorem retV_v {i : Nat} {g : G} {d : D} (e : g[i]? = some (.v d)) : sRetV i g = some (.ret (.v d) g) := by
  unfold sRetV
  rw [e]
theorem retV_o {i : Nat} {g : G} {ds : List D} (e : g[i]? = some (.own none ds)) : sRetV i g = some (.ret (.own none ds) (g.set i .no)) := by
  unfold sRetV
  rw [e]
theorem ltD_ii (i j : Int) : ltD (.int i) (.int j) = some (.bool (decide (i < j))) := rfl
theorem gtD_ii (i j : Int) : gtD (.int i) (.int j) = some (.bool (decide (j < i))) := rfl
theorem geD_ii (i j : Int) : geD (.int i) (.int j) = some (.bool (decide (j ≤ i))) := rfl
theorem leD_ii (i j : Int) : leD (.int i) (.int j) = some (.bool (decide (i ≤ j))) := rfl
theorem ltD_t {i j : Int} (h : i < j) : ltD (.int i) (.int j) = some (.bool true) := by rw [ltD_ii, decide_eq_true h]
theorem ltD_f {i j : Int} (h : ¬ i < j) : ltD (.int i) (.int j) = some (.bool false) := by rw [ltD_ii, decide_eq_false h]
theorem gtD_t {i j : Int} (h : j < i) : gtD (.int i) (.int j) = some (.bool true) := by rw [gtD_ii, decide_eq_true h]
theorem gtD_f {i j : Int} (h : ¬ j < i) : gtD (.int i) (.int j) = some (.bool false) := by rw [gtD_ii, decide_eq_false h]
theorem geD_t {i j : Int} (h : j ≤ i) : geD (.int i) (.int j) = some (.bool true) := by rw [geD_ii, decide_eq_true h]
theorem geD_f {i j : Int} (h : ¬ j ≤ i) : geD (.int i) (.int j) = some (.bool false) := by rw [geD_ii, decide_eq_false h]
theorem leD_t {i j : Int} (h : i ≤ j) : leD (.int i) (.int j) = some (.bool true) := by rw [leD_ii, decide_eq_true h]
theorem leD_f {i j : Int} (h : ¬ i ≤ j) : leD (.int i) (.int j) = some (.bool false) := by rw [leD_ii, decide_eq_false h]
theorem mulD_of {i j : Int} (h : Dl.MulOk i j = true) : mulD (.int i) (.int j) = some (.int (i * j)) := by
  unfold mulD
  simp only [h, if_true]
theorem mulOk_r {i j : Int} (h : j.natAbs < 2 ^ 64) : Dl.MulOk i j = true := by
  unfold Dl.MulOk
  simp [h]
theorem mulOk_l {i j : Int} (h : i.natAbs < 2 ^ 64) : Dl.MulOk i j = true := by
  unfold Dl.MulOk
  simp [h]
theorem modD_of {i j : Int} (h : j ≠ 0) : modD (.int i) (.int j) = some (.int (i.fmod j)) := by
  unfold modD
  simp only [h, if_false]
theorem fdivD_of {i j : Int} (h : Dl.DivOk j = true) : fdivD (.int i) (.int j) = some (.int (i.fdiv j)) := by
  unfold fdivD
  simp only [h, if_true]
theorem divOk_s {j : Int} (h0 : j ≠ 0) (h : j.natAbs < 2 ^ 64) : Dl.DivOk j = true := by
  have := log_lt (by decide) h
  unfold Dl.DivOk
  simp [h0]
  omega
theorem fnI_ret {f : Fs} {N : Nat} {es ds : List D} {x : Sl} {es' : List D} (h : ∀ a : Addr, ∃ g', f (.own (some a) es :: (ds.map Sl.v ++ List.replicate (N - (ds.length + 1)) .no)) = some (.ret x g') ∧ g'[0]? = some (.own (some a) es')) : fnI f N es ds = some (x, es') := by
  refine fnI_of fun a => ?_
  obtain ⟨g', h1, h2⟩ := h a
  refine ⟨g', ?_, h2⟩
  unfold runG
  have e : (Sl.own (some a) es :: ds.map Sl.v) ++ List.replicate (N - (Sl.own (some a) es :: ds.map Sl.v).length) .no = .own (some a) es :: (ds.map Sl.v ++ List.replicate (N - (ds.length + 1)) .no) := by simp
  rw [e, h1]
theorem cutL_map {α : Type} {f : α → D} {l : List α} {lo hi : Option Int} : cutL (l.map f) lo hi = (cutL l lo hi).map f := by
  unfold cutL
  simp [List.map_take, List.map_drop]
theorem eSlU_of {fa : Fe} {fl fh : Fo} {g g1 g2 g3 : G} {ds : List D} {lo hi : Option Int} (e : fa g = some (.tuple ds, g1)) (e2 : fl g1 = some (lo, g2)) (e3 : fh g2 = some (hi, g3)) : eSlU fa fl fh g = some (.tuple (cutL ds lo hi), g3) := by
  unfold eSlU
  simp only [e, e2, e3, Option.bind_some]
theorem eSlU_ofL {fa : Fe} {fl fh : Fo} {g g1 g2 g3 : G} {ds : List D} {lo hi : Option Int} (e : fa g = some (.list ds, g1)) (e2 : fl g1 = some (lo, g2)) (e3 : fh g2 = some (hi, g3)) : eSlU fa fl fh g = some (.list (cutL ds lo hi), g3) := by
  unfold eSlU
  simp only [e, e2, e3, Option.bind_some]
theorem oSome_of {f : Fe} {g g1 : G} {i : Int} (e : f g = some (.int i, g1)) : oSome f g = some (some i, g1) := by
  unfold oSome
  rw [e]
theorem cut_take {α : Type} {l : List α} {i : Nat} (h : i ≤ l.length) : cutL l none (some (i : Int)) = l.take i := by
  unfold cutL
  rw [HT.sIx_none, HT.sIx_nat, Nat.min_eq_left h]
  simp
theorem cut_drop {α : Type} {l : List α} {i : Nat} (h : i ≤ l.length) : cutL l (some (i : Int)) none = l.drop i := by
  unfold cutL
  rw [HT.sIx_none, HT.sIx_nat, Nat.min_eq_left h]
  exact List.take_of_length_le (by simp)
theorem addA_cat {xs ys : List D} (h : xs.length + ys.length ≤ 1000000) : addA (.tuple xs) (.tuple ys) = some (.tuple (xs ++ ys)) := by
  rw [addA_tup]
  unfold catTD
  simp only [h, if_true]
theorem vLc_of {fi : Fa} {tg : Fg} {c : Ft} {f : Fe} {vs : List Nat} {g g0 g' : G} {ds ds' : List D} (hi : fi g = some (ds, g0)) (ok : okW g0 vs = true) (h : lcGo tg c f vs ds (wipeG g0 vs) = some (ds', g')) (hl : ds'.length ≤ 1000000) : vLc fi tg c f vs g = some (.own none ds', backG g0 g' vs) := by
  unfold vLc
  simp only [hi, Option.bind_some, ok, if_true, h, hl]
theorem asg_of {f : Fe} {tg : Fg} {g g1 g2 : G} {d : D} (e : f g = some (d, g1)) (h : tg d g1 = some g2) : sAsg f tg g = some (.nx g2) := by
  unfold sAsg
  simp only [e, Option.bind_some, h, Option.map_some]
theorem parO_of {i j : Nat} {f h : Fv} {g g1 g2 : G} {x y : List D} (e : f g = some (.own none x, g1)) (e2 : h g1 = some (.own none y, g2)) : sPar i j f h g = some (.nx ((g2.set i (.own none x)).set j (.own none y))) := by
  unfold sPar
  simp only [e, Option.bind_some, e2]
  rfl
theorem atI_last {l : List D} {d : D} : L2.atI (l ++ [d]) (-1) = some d := by
  unfold L2.atI L2.ixN
  have h1 : -(((l ++ [d]).length : Nat) : Int) ≤ -1 := by simp; omega
  rw [if_neg (by decide), if_pos h1]
  have h2 : (-1 + (((l ++ [d]).length : Nat) : Int)).toNat = l.length := by simp; omega
  rw [h2]
  simp
theorem rng_of {f : Fa} {g g1 : G} {n : Nat} (e : f g = some ([.int (n : Int)], g1)) (h : n < 1000000) : iRange1 f g = some ((List.range n).map fun (i : Nat) => .int (i : Int), g1) := by
  have hs : SmI (n : Int) := by unfold SmI; omega
  unfold iRange1
  simp only [e, hs, if_true, Int.toNat_natCast]
  simp [rangeL]
theorem enum_of {f : Fa} {g g1 : G} {d : D} {ds : List D} (e : f g = some ([d], g1)) (h : seqD d = some ds) : iEnum' f g = some (pairL 0 ds, g1) := by
  unfold iEnum'
  simp only [e, h, Option.map_some]
/-! ### comprehensions -/
theorem lcGo_pure {t : Fg} {c : Ft} {f : Fe} {vs : List Nat} {g : G} (h : D → D) : ∀ (ds : List D), (∀ d ∈ ds, ∃ g1 g2, t d g = some g1 ∧ c g1 = some (true, g1) ∧ f g1 = some (h d, g2) ∧ wipeG g2 vs = g) → lcGo t c f vs ds g = some (ds.map h, g)
  | [], _ => rfl
  | d :: r, H => by
    obtain ⟨g1, g2, h1, h2, h3, h4⟩ := H d (List.mem_cons_self ..)
    have ih := lcGo_pure h r fun d hd => H d (List.mem_cons_of_mem _ hd)
    simp [lcGo, h1, h2, h3, h4, ih]
theorem vLc_pure {fi : Fa} {t : Fg} {c : Ft} {f : Fe} {vs : List Nat} {g g0 : G} {ds : List D} (h : D → D) (hi : fi g = some (ds, g0)) (ok : okW g0 vs = true) (hl : ds.length ≤ 1000000)
    (H : ∀ d ∈ ds, ∃ g1 g2, t d (wipeG g0 vs) = some g1 ∧ c g1 = some (true, g1) ∧ f g1 = some (h d, g2) ∧ wipeG g2 vs = wipeG g0 vs) : vLc fi t c f vs g = some (.own none (ds.map h), backG g0 (wipeG g0 vs) vs) := by
  have e := lcGo_pure h ds H
  unfold vLc
  rw [hi]
  show (if okW g0 vs = true then _ else _) = _
  rw [if_pos ok]
  rw [e]
  simp [hl]
theorem lcGo_rel {t : Fg} {f : Fe} {vs : List Nat} (E : G → Prop) (P : D → Prop) : ∀ (ds : List D), (∀ d ∈ ds, ∀ g, E g → ∃ g1 d' g2, t d g = some g1 ∧ f g1 = some (d', g2) ∧ P d' ∧ E (wipeG g2 vs)) → ∀ g, E g → ∃ ds' g', lcGo t cYes f vs ds g = some (ds', g') ∧ ds'.length = ds.length ∧ (∀ d ∈ ds', P d) ∧ E g'
  | [], _, g, e => ⟨[], g, rfl, rfl, by simp, e⟩
  | d :: r, H, g, e => by
    obtain ⟨g1, d', g2, h1, h2, h3, h4⟩ := H d (List.mem_cons_self ..) g e
    obtain ⟨ds', g', h5, h6, h7, h8⟩ := lcGo_rel E P r (fun d hd => H d (List.mem_cons_of_mem _ hd)) _ h4
    refine ⟨d' :: ds', g', by simp [lcGo, h1, cYes, h2, h5], by simp [h6], ?_, h8⟩
    intro z hz
    rcases List.mem_cons.mp hz with rfl | hz
    · exact h3
    · exact h7 z hz
theorem vLc_rel {fi : Fa} {t : Fg} {f : Fe} {vs : List Nat} {g g0 : G} {ds : List D} (E : G → Prop) (P : D → Prop) (hi : fi g = some (ds, g0)) (ok : okW g0 vs = true) (hl : ds.length ≤ 1000000) (hE : E (wipeG g0 vs))
    (H : ∀ d ∈ ds, ∀ g, E g → ∃ g1 d' g2, t d g = some g1 ∧ f g1 = some (d', g2) ∧ P d' ∧ E (wipeG g2 vs)) : ∃ ds' g', vLc fi t cYes f vs g = some (.own none ds', backG g0 g' vs) ∧ ds'.length = ds.length ∧ (∀ d ∈ ds', P d) ∧ E g' := by
  obtain ⟨ds', g', h1, h2, h3, h4⟩ := lcGo_rel E P ds H _ hE
  refine ⟨ds', g', ?_, h2, h3, h4⟩
  unfold vLc
  rw [hi]
  show (if okW g0 vs = true then _ else _) = _
  rw [if_pos ok, h1]
  simp [h2, hl]
/-- a list of data told one by one -/
theorem mapOf {α : Type} {f : α → D} {P : α → Prop} : ∀ {ds : List D}, (∀ d ∈ ds, ∃ a, d = f a ∧ P a) → ∃ l : List α, ds = l.map f ∧ ∀ a ∈ l, P a
  | [], _ => ⟨[], rfl, by simp⟩
  | d :: r, h => by
    obtain ⟨a, e, ha⟩ := h d (List.mem_cons_self ..)
    obtain ⟨l, e2, hl⟩ := mapOf (ds := r) fun d hd => h d (List.mem_cons_of_mem _ hd)
    refine ⟨a :: l, by rw [e, e2]; rfl, ?_⟩
    intro z hz
    rcases List.mem_cons.mp hz with rfl | hz
    · exact ha
    · exact hl z hz

theorem lcGo_map {α : Type} {t : Fg} {c : Ft} {f : Fe} {vs : List Nat} {g : G} (enc : α → D) (h : α → D) : ∀ (xs : List α), (∀ x ∈ xs, ∃ g1 g2, t (enc x) g = some g1 ∧ c g1 = some (true, g1) ∧ f g1 = some (h x, g2) ∧ wipeG g2 vs = g) → lcGo t c f vs (xs.map enc) g = some (xs.map h, g)
  | [], _ => rfl
  | d :: r, H => by
    obtain ⟨g1, g2, h1, h2, h3, h4⟩ := H d (List.mem_cons_self ..)
    have ih := lcGo_map enc h r fun d hd => H d (List.mem_cons_of_mem _ hd)
    simp [lcGo, h1, h2, h3, h4, ih]
theorem vLc_map {α : Type} {fi : Fa} {t : Fg} {c : Ft} {f : Fe} {vs : List Nat} {g g0 : G} {xs : List α} (enc : α → D) (h : α → D) (hi : fi g = some (xs.map enc, g0)) (ok : okW g0 vs = true) (hl : xs.length ≤ 1000000)
    (H : ∀ x ∈ xs, ∃ g1 g2, t (enc x) (wipeG g0 vs) = some g1 ∧ c g1 = some (true, g1) ∧ f g1 = some (h x, g2) ∧ wipeG g2 vs = wipeG g0 vs) : vLc fi t c f vs g = some (.own none (xs.map h), backG g0 (wipeG g0 vs) vs) := by
  have e := lcGo_map enc h xs H
  unfold vLc
  rw [hi]
  show (if okW g0 vs = true then _ else _) = _
  rw [if_pos ok]
  rw [e]
  simp [hl]
theorem forGo_findM {α : Type} {t : Fg} {b : Fs} (E : G → Prop) (enc : α → D) (p : α → Option Sl) : ∀ (xs : List α),
    (∀ x ∈ xs, ∀ g, E g → ∃ g1, t (enc x) g = some g1 ∧ ((p x = none ∧ ∃ g2, b g1 = some (.nx g2) ∧ E g2) ∨ ∃ y g2, p x = some y ∧ b g1 = some (.ret y g2))) →
    ∀ g, E g → (xs.findSome? p = none ∧ ∃ g', forGo t b (xs.map enc) g = some (.nx g') ∧ E g') ∨ ∃ y g', xs.findSome? p = some y ∧ forGo t b (xs.map enc) g = some (.ret y g')
  | [], _, g, e => .inl ⟨rfl, g, rfl, e⟩
  | d :: r, h, g, e => by
    obtain ⟨g1, h1, h2⟩ := h d (List.mem_cons_self ..) g e
    rcases h2 with ⟨hp, g2, h2, h3⟩ | ⟨x, g2, hp, h2⟩
    · rcases forGo_findM E enc p r (fun d hd => h d (List.mem_cons_of_mem _ hd)) g2 h3 with ⟨h4, g', h5, h6⟩ | ⟨x, g', h4, h5⟩
      · exact .inl ⟨by simp [List.findSome?_cons, hp, h4], g', by simp [forGo, h1, h2, h5], h6⟩
      · exact .inr ⟨x, g', by simp [List.findSome?_cons, hp, h4], by simp [forGo, h1, h2, h5]⟩
    · exact .inr ⟨x, g2, by simp [List.findSome?_cons, hp], by simp [forGo, h1, h2]⟩
theorem boolL_map {α : Type} (f : α → Bool) : ∀ xs : List α, boolL (xs.map fun x => .bool (f x)) = some (xs.map f)
  | [] => rfl
  | x :: r => by simp [boolL, boolL_map f r]
theorem allD_map {α : Type} (f : α → Bool) (xs : List α) : allD (.list (xs.map fun x => .bool (f x))) = some (.bool (xs.all f)) := by
  unfold allD
  simp [boolL_map, List.all_map]
theorem atI_map {α : Type} {f : α → D} {l : List α} {i : Nat} {a : α} (h : l[i]? = some a) : L2.atI (l.map f) (i : Int) = some (f a) := by
  have hi := (List.getElem?_eq_some_iff.mp h).1
  unfold L2.atI L2.ixN
  have h1 : ((i : Nat) : Int) < ((l.map f).length : Nat) := by simp; exact hi
  rw [if_pos (by omega), if_pos h1]
  simp [h]
theorem atD_map {α : Type} {f : α → D} {l : List α} {i : Nat} {a : α} (h : l[i]? = some a) : atD (.tuple (l.map f)) (.int (i : Int)) = some (f a) := atI_map h
theorem atD_mapL {α : Type} {f : α → D} {l : List α} {i : Nat} {a : α} (h : l[i]? = some a) : atD (.list (l.map f)) (.int (i : Int)) = some (f a) := atI_map h
theorem zipL_map {α β : Type} {f : α → D} {h : β → D} : ∀ (l : List α) (m : List β), zipL (l.map f) (m.map h) = (l.zip m).map fun p => .tuple [f p.1, h p.2]
  | [], _ => by simp [zipL]
  | _ :: _, [] => by simp [zipL]
  | x :: xs, y :: ys => by simp [zipL, zipL_map xs ys]
theorem pairL_map {α : Type} {f : α → D} : ∀ (l : List α) (i : Nat), pairL i (l.map f) = (l.zipIdx i).map fun p => .tuple [.int (p.2 : Nat), f p.1]
  | [], _ => by simp [pairL]
  | x :: xs, i => by simp [pairL, pairL_map xs (i + 1)]
theorem eqvAll_map {α : Type} [DecidableEq α] {f : α → D} (h : ∀ x y, PyData.eqv (f x) (f y) = decide (x = y)) : ∀ (l m : List α), PyData.eqvAll (l.map f) (m.map f) = decide (l = m)
  | [], [] => by simp [PyData.eqvAll]
  | [], _ :: _ => by simp [PyData.eqvAll]
  | _ :: _, [] => by simp [PyData.eqvAll]
  | x :: xs, y :: ys => by simp [PyData.eqvAll, h, eqvAll_map h xs ys]
theorem eqv_tup {xs ys : List D} : PyData.eqv (.tuple xs) (.tuple ys) = PyData.eqvAll xs ys := rfl
theorem eqv_lst {xs ys : List D} : PyData.eqv (.list xs) (.list ys) = PyData.eqvAll xs ys := rfl
theorem eqv_int {i j : Int} : PyData.eqv (.int i) (.int j) = decide (i = j) := rfl
theorem eqv_str {i j : Str} : PyData.eqv (.str i) (.str j) = decide (i = j) := rfl
theorem shaped_of {d : D} (h : d.canLay0 = true) (h2 : d.depth ≤ 64) : SeqAt.shaped d = true := by
  unfold SeqAt.shaped
  simp [h, h2]

/-! ### isinstance -/
theorem isiD_of {d : D} {n T : String} {b : Bool} (h : tyD d = some n) (k : kitB n T = some b) : isiD T d = some (.bool b) := by
  unfold isiD
  rw [h]
  show (kitB n T).map _ = _
  rw [k]
  rfl
theorem isi_ii {i : Int} : isiD "int" (.int i) = some (.bool true) := isiD_of rfl (by decide +kernel)
theorem isi_ib {i : Int} : isiD "bool" (.int i) = some (.bool false) := isiD_of rfl (by decide +kernel)
theorem isi_is {i : Int} : isiD "str" (.int i) = some (.bool false) := isiD_of rfl (by decide +kernel)
theorem isi_it {i : Int} : isiD "tuple" (.int i) = some (.bool false) := isiD_of rfl (by decide +kernel)
theorem isi_tt {i : List D} : isiD "tuple" (.tuple i) = some (.bool true) := isiD_of rfl (by decide +kernel)
theorem isi_ti {i : List D} : isiD "int" (.tuple i) = some (.bool false) := isiD_of rfl (by decide +kernel)
theorem isi_ts {i : List D} : isiD "str" (.tuple i) = some (.bool false) := isiD_of rfl (by decide +kernel)
theorem isi_ss {i : Str} : isiD "str" (.str i) = some (.bool true) := isiD_of rfl (by decide +kernel)
theorem isi_si {i : Str} : isiD "int" (.str i) = some (.bool false) := isiD_of rfl (by decide +kernel)
theorem isi_st {i : Str} : isiD "tuple" (.str i) = some (.bool false) := isiD_of rfl (by decide +kernel)

/-! ### comparisons of ints, of texts -/
theorem shaped_int (i : Int) : SeqAt.shaped (.int i) = true := by
  unfold SeqAt.shaped
  simp [PyData.canLay0, PyData.depth]
theorem eqD_ii (i j : Int) : eqD (.int i) (.int j) = some (.bool (decide (i = j))) := by
  have e : PyData.eqv (.int i) (.int j) = decide (i = j) := by
    show (i == j) = decide (i = j)
    rfl
  unfold eqD
  simp only [shaped_int, e, and_self, if_true]
theorem neD_ii (i j : Int) : neD (.int i) (.int j) = some (.bool (!decide (i = j))) := by
  have e : PyData.eqv (.int i) (.int j) = decide (i = j) := by
    show (i == j) = decide (i = j)
    rfl
  unfold neD
  simp only [shaped_int, e, and_self, if_true]
theorem eqD_ss (i j : Str) : eqD (.str i) (.str j) = some (.bool (decide (i = j))) := rfl
theorem neD_ss (i j : Str) : neD (.str i) (.str j) = some (.bool (!decide (i = j))) := rfl
theorem eqD_t {i j : Int} (h : i = j) : eqD (.int i) (.int j) = some (.bool true) := by rw [eqD_ii, decide_eq_true h]
theorem eqD_f {i j : Int} (h : ¬ i = j) : eqD (.int i) (.int j) = some (.bool false) := by rw [eqD_ii, decide_eq_false h]
theorem neD_t {i j : Int} (h : ¬ i = j) : neD (.int i) (.int j) = some (.bool true) := by rw [neD_ii, decide_eq_false h]; rfl
theorem neD_f {i j : Int} (h : i = j) : neD (.int i) (.int j) = some (.bool false) := by rw [neD_ii, decide_eq_true h]; rfl
theorem eqD_sh {d e : D} {b : Bool} (h1 : SeqAt.shaped d = true) (h2 : SeqAt.shaped e = true) (hb : PyData.eqv d e = b) (hn : isDisplay d = true) : eqD d e = some (.bool b) := by
  unfold eqD
  cases d <;> first | (cases hn; done) | (simp only [h1, h2, hb, and_self, if_true])
theorem neD_sh {d e : D} {b : Bool} (h1 : SeqAt.shaped d = true) (h2 : SeqAt.shaped e = true) (hb : PyData.eqv d e = b) (hn : isDisplay d = true) : neD d e = some (.bool (!b)) := by
  unfold neD
  cases d <;> first | (cases hn; done) | (simp only [h1, h2, hb, and_self, if_true])

/-! ### repr -/
mutual
/-- no longer than this -/
def lnD : D → Nat
  | .none => 4
  | .bool _ => 5
  | .int _ => 600
  | .str x => 10 * x.length + 2
  | .list xs => lnAll xs + 3
  | .tuple xs => lnAll xs + 3
  | .dict _ => 0
def lnAll : List D → Nat
  | [] => 0
  | x :: xs => lnD x + 2 + lnAll xs
end
mutual
/-- data whose repr is told -/
def rpD : D → Bool
  | .none | .bool _ => true
  | .int i => decide (i.natAbs < 2 ^ 1900)
  | .str x => x.cps.toList.all fun c => decide (c < 16 ^ 8)
  | .list xs => rpAll xs
  | .tuple xs => rpAll xs
  | .dict _ => false
def rpAll : List D → Bool
  | [] => true
  | x :: xs => rpD x && rpAll xs
end
theorem pow_le_600 : (2 : Nat) ^ 1900 ≤ 10 ^ 599 := by decide +kernel
mutual
theorem shown_ln : ∀ d : D, rpD d = true → d.shown.length ≤ lnD d
  | .none, _ => by
    have e : (PyData.shown .none).length = 4 := rfl
    simp only [lnD]; omega
  | .bool b, _ => by
    have e : (PyData.shown (.bool b)).length ≤ 5 := by cases b <;> decide
    simp only [lnD]; omega
  | .int i, h => by
    have hi : i.natAbs < 2 ^ 1900 := by simpa only [rpD, decide_eq_true_eq] using h
    have e := int_text_length_le10 (a := i) (k := 599) (by decide) (Nat.lt_of_lt_of_le hi pow_le_600)
    simp only [lnD]
    show (Str.ofString (toString i)).length ≤ 600
    rw [PySem.ofString_length]; exact e
  | .str x, h => by
    have hx : ∀ c ∈ x.cps.toList, c < 16 ^ 8 := by simpa only [rpD, List.all_eq_true, decide_eq_true_eq] using h
    have e := StrLaws.reprText_len x hx
    simp only [lnD, PyData.shown]; exact e
  | .list xs, h => by
    have h1 := shown_lnAll xs (by simpa only [rpD] using h)
    have h2 := listText_len_le (PyData.shownAll xs)
    have h3 := PyData.shownAll_length xs
    simp only [PyData.shown, lnD]
    omega
  | .tuple xs, h => by
    have h1 := shown_lnAll xs (by simpa only [rpD] using h)
    have h2 := tupleText_len_le (PyData.shownAll xs)
    have h3 := PyData.shownAll_length xs
    simp only [PyData.shown, lnD]
    omega
  | .dict _, h => by simp [rpD] at h
theorem shown_lnAll : ∀ xs : List D, rpAll xs = true → ((PyData.shownAll xs).map (·.length)).sum + 2 * xs.length ≤ lnAll xs
  | [], _ => by simp [PyData.shownAll, lnAll]
  | x :: xs, h => by
    have h' : rpD x = true ∧ rpAll xs = true := by simpa only [rpAll, Bool.and_eq_true] using h
    have h1 := shown_ln x h'.1
    have h2 := shown_lnAll xs h'.2
    simp only [PyData.shownAll, lnAll, List.map_cons, List.sum_cons, List.length_cons]
    omega
end
mutual
theorem show_rp : ∀ d : D, rpD d = true → d.showable = true ∧ d.hasDict = false
  | .none, _ => ⟨rfl, rfl⟩
  | .bool _, _ => ⟨rfl, rfl⟩
  | .int i, h => by
    have hi : i.natAbs < 2 ^ 1900 := by simpa only [rpD, decide_eq_true_eq] using h
    refine ⟨?_, rfl⟩
    have := log_lt (by decide) hi
    simp only [PyData.showable, decide_eq_true_eq]
    omega
  | .str x, _ => ⟨rfl, rfl⟩
  | .list xs, h => by
    have := show_rpAll xs (by simpa only [rpD] using h)
    simpa only [PyData.showable, PyData.hasDict] using this
  | .tuple xs, h => by
    have := show_rpAll xs (by simpa only [rpD] using h)
    simpa only [PyData.showable, PyData.hasDict] using this
  | .dict _, h => by simp [rpD] at h
theorem show_rpAll : ∀ xs : List D, rpAll xs = true → PyData.showableAll xs = true ∧ PyData.hasDictAll xs = false
  | [], _ => ⟨rfl, rfl⟩
  | x :: xs, h => by
    have h' : rpD x = true ∧ rpAll xs = true := by simpa only [rpAll, Bool.and_eq_true] using h
    have h1 := show_rp x h'.1
    have h2 := show_rpAll xs h'.2
    simp [PyData.showableAll, PyData.hasDictAll, h1, h2]
end
theorem reprD_of {d : D} (h : rpD d = true) (hd : d.depth ≤ 60) (hi : isDisplay d = true) (hl : lnD d ≤ 16000000) : reprD d = some (.str d.shown) := by
  obtain ⟨h1, h2⟩ := show_rp d h
  have h3 := shown_ln d h
  unfold reprD
  rw [if_pos ⟨h1, .inl h2, hd, by rw [sizeLine_eq]; omega⟩]
theorem rpAll_of {xs : List D} (h : ∀ d ∈ xs, rpD d = true) : rpAll xs = true := by
  induction xs with
  | nil => rfl
  | cons x r ih =>
    simp only [rpAll, Bool.and_eq_true]
    exact ⟨h x (List.mem_cons_self ..), ih fun d hd => h d (List.mem_cons_of_mem _ hd)⟩
theorem lnAll_of {xs : List D} {n : Nat} (h : ∀ d ∈ xs, lnD d ≤ n) : lnAll xs ≤ (n + 2) * xs.length := by
  induction xs with
  | nil => simp [lnAll]
  | cons x r ih =>
    have := ih fun d hd => h d (List.mem_cons_of_mem _ hd)
    have := h x (List.mem_cons_self ..)
    simp only [lnAll, List.length_cons, Nat.mul_add]
    omega
theorem depthAll_of {xs : List D} {n : Nat} (h : ∀ d ∈ xs, d.depth ≤ n) : PyData.depthAll xs ≤ n := by
  induction xs with
  | nil => simp [PyData.depthAll]
  | cons x r ih =>
    have := ih fun d hd => h d (List.mem_cons_of_mem _ hd)
    have := h x (List.mem_cons_self ..)
    simp only [PyData.depthAll]
    omega
theorem canLayAll_of {xs : List D} (h : ∀ d ∈ xs, d.canLay0 = true) : PyData.canLayAll0 xs = true := by
  induction xs with
  | nil => rfl
  | cons x r ih =>
    simp only [PyData.canLayAll0, Bool.and_eq_true]
    exact ⟨h x (List.mem_cons_self ..), ih fun d hd => h d (List.mem_cons_of_mem _ hd)⟩
end Dl
set_option Elab.async false
set_option linter.all false
set_option maxRecDepth 100000
namespace K64
open PySem PySem.Spec PyProof.Rows L2 Dl
def topS (i : Nat) : Stmt := PySem.Challenge.pw_makeprice_k64_lands_and_sharings_judged.main.body.getD i (.Pass ⟨0, 0, 0, 0⟩)
abbrev s_is_integer : Stmt := topS 6
theorem sc_is_integer : FnScope ["thing"] ["thing"] (defScope s_is_integer) := ⟨rfl, rfl, rfl, by decide +kernel, rfl, by decide +kernel, by decide +kernel⟩
abbrev s_is_sized : Stmt := topS 7
theorem sc_is_sized : FnScope ["thing", "low", "high"] ["thing", "low", "high"] (defScope s_is_sized) := ⟨rfl, rfl, rfl, by decide +kernel, rfl, by decide +kernel, by decide +kernel⟩
abbrev s_common : Stmt := topS 8
theorem sc_common : FnScope ["one", "other"] ["one", "other"] (defScope s_common) := ⟨rfl, rfl, rfl, by decide +kernel, rfl, by decide +kernel, by decide +kernel⟩
abbrev s_is_less : Stmt := topS 13
theorem sc_is_less : FnScope ["one", "other"] ["one", "other"] (defScope s_is_less) := ⟨rfl, rfl, rfl, by decide +kernel, rfl, by decide +kernel, by decide +kernel⟩
abbrev s_goods_of : Stmt := topS 25
theorem sc_goods_of : FnScope ["lands"] ["lands"] (defScope s_goods_of) := ⟨rfl, rfl, rfl, by decide +kernel, rfl, by decide +kernel, by decide +kernel⟩
abbrev s__law_draw : Stmt := topS 34
theorem sc__law_draw : FnScope ["hand", "span", "cell", "digit", "number"] ["hand", "span"] (defScope s__law_draw) := ⟨rfl, rfl, rfl, by decide +kernel, rfl, by decide +kernel, by decide +kernel⟩
abbrev s__law_hand : Stmt := topS 37
theorem sc__law_hand : FnScope ["script", "cells", "cell"] ["script"] (defScope s__law_hand) := ⟨rfl, rfl, rfl, by decide +kernel, rfl, by decide +kernel, by decide +kernel⟩
abbrev s__law_low : Stmt := topS 38
theorem sc__law_low : FnScope ["top", "bottom", "one", "other"] ["top", "bottom"] (defScope s__law_low) := ⟨rfl, rfl, rfl, by decide +kernel, rfl, by decide +kernel, by decide +kernel⟩
abbrev s__law_less : Stmt := topS 42
theorem sc__law_less : FnScope ["one", "other"] ["one", "other"] (defScope s__law_less) := ⟨rfl, rfl, rfl, by decide +kernel, rfl, by decide +kernel, by decide +kernel⟩
abbrev s__law_odd_fractions : Stmt := topS 53
theorem sc__law_odd_fractions : FnScope ["hand", "found"] ["hand"] (defScope s__law_odd_fractions) := ⟨rfl, rfl, rfl, by decide +kernel, rfl, by decide +kernel, by decide +kernel⟩
abbrev s_share : Stmt := topS 9
theorem sc_share : FnScope ["top", "bottom", "part"] ["top", "bottom"] (defScope s_share) := ⟨rfl, rfl, rfl, by decide +kernel, rfl, by decide +kernel, by decide +kernel⟩
abbrev s_is_share : Stmt := topS 10
theorem sc_is_share : FnScope ["thing"] ["thing"] (defScope s_is_share) := ⟨rfl, rfl, rfl, by decide +kernel, rfl, by decide +kernel, by decide +kernel⟩
abbrev s__law_some : Stmt := topS 35
theorem sc__law_some : FnScope ["hand", "things"] ["hand", "things"] (defScope s__law_some) := ⟨rfl, rfl, rfl, by decide +kernel, rfl, by decide +kernel, by decide +kernel⟩
abbrev s__law_plus : Stmt := topS 39
theorem sc__law_plus : FnScope ["one", "other"] ["one", "other"] (defScope s__law_plus) := ⟨rfl, rfl, rfl, by decide +kernel, rfl, by decide +kernel, by decide +kernel⟩
abbrev s__law_times : Stmt := topS 40
theorem sc__law_times : FnScope ["one", "other"] ["one", "other"] (defScope s__law_times) := ⟨rfl, rfl, rfl, by decide +kernel, rfl, by decide +kernel, by decide +kernel⟩
abbrev s__law_over : Stmt := topS 41
theorem sc__law_over : FnScope ["one", "other"] ["one", "other"] (defScope s__law_over) := ⟨rfl, rfl, rfl, by decide +kernel, rfl, by decide +kernel, by decide +kernel⟩
abbrev s__law_is_fraction : Stmt := topS 47
theorem sc__law_is_fraction : FnScope ["thing", "least", "one"] ["thing", "least"] (defScope s__law_is_fraction) := ⟨rfl, rfl, rfl, by decide +kernel, rfl, by decide +kernel, by decide +kernel⟩
abbrev s_plus : Stmt := topS 11
theorem sc_plus : FnScope ["one", "other"] ["one", "other"] (defScope s_plus) := ⟨rfl, rfl, rfl, by decide +kernel, rfl, by decide +kernel, by decide +kernel⟩
abbrev s_times : Stmt := topS 12
theorem sc_times : FnScope ["one", "other"] ["one", "other"] (defScope s_times) := ⟨rfl, rfl, rfl, by decide +kernel, rfl, by decide +kernel, by decide +kernel⟩
abbrev s_is_amount : Stmt := topS 17
theorem sc_is_amount : FnScope ["thing"] ["thing"] (defScope s_is_amount) := ⟨rfl, rfl, rfl, by decide +kernel, rfl, by decide +kernel, by decide +kernel⟩
abbrev s_is_positive : Stmt := topS 21
theorem sc_is_positive : FnScope ["thing"] ["thing"] (defScope s_is_positive) := ⟨rfl, rfl, rfl, by decide +kernel, rfl, by decide +kernel, by decide +kernel⟩
abbrev s__law_sum : Stmt := topS 43
theorem sc__law_sum : FnScope ["parts", "found", "part"] ["parts"] (defScope s__law_sum) := ⟨rfl, rfl, rfl, by decide +kernel, rfl, by decide +kernel, by decide +kernel⟩
abbrev s__law_fraction : Stmt := topS 44
theorem sc__law_fraction : FnScope ["hand", "most"] ["hand", "most"] (defScope s__law_fraction) := ⟨rfl, rfl, rfl, by decide +kernel, rfl, by decide +kernel, by decide +kernel⟩
abbrev s__law_drawn_sharing : Stmt := topS 46
theorem sc__law_drawn_sharing : FnScope ["hand", "lands", "is_whole", "found", "hands", "works", "work", "able", "weights", "total", "row", "weight", "good"] ["hand", "lands", "is_whole"] (defScope s__law_drawn_sharing) := ⟨rfl, rfl, rfl, by decide +kernel, rfl, by decide +kernel, by decide +kernel⟩
abbrev s__law_is_lands : Stmt := topS 48
theorem sc__law_is_lands : FnScope ["thing", "land", "goods", "good", "work"] ["thing"] (defScope s__law_is_lands) := ⟨rfl, rfl, rfl, by decide +kernel, rfl, by decide +kernel, by decide +kernel⟩
abbrev s__law_deep : Stmt := topS 52
theorem sc__law_deep : FnScope ["hand", "thing", "turn"] ["hand"] (defScope s__law_deep) := ⟨rfl, rfl, rfl, by decide +kernel, rfl, by decide +kernel, by decide +kernel⟩
abbrev s_summed : Stmt := topS 14
theorem sc_summed : FnScope ["many", "found", "one"] ["many"] (defScope s_summed) := ⟨rfl, rfl, rfl, by decide +kernel, rfl, by decide +kernel, by decide +kernel⟩
abbrev s_are_amounts : Stmt := topS 18
theorem sc_are_amounts : FnScope ["thing", "many", "part"] ["thing", "many"] (defScope s_are_amounts) := ⟨rfl, rfl, rfl, by decide +kernel, rfl, by decide +kernel, by decide +kernel⟩
abbrev s_is_land : Stmt := topS 22
theorem sc_is_land : FnScope ["thing", "work"] ["thing"] (defScope s_is_land) := ⟨rfl, rfl, rfl, by decide +kernel, rfl, by decide +kernel, by decide +kernel⟩
abbrev s_asked : Stmt := topS 26
theorem sc_asked : FnScope ["works", "amounts", "found", "work", "amount"] ["works", "amounts"] (defScope s_asked) := ⟨rfl, rfl, rfl, by decide +kernel, rfl, by decide +kernel, by decide +kernel⟩
abbrev s__law_drawn_lands : Stmt := topS 45
theorem sc__law_drawn_lands : FnScope ["hand", "lands", "goods", "share_v", "found", "land", "good", "works", "hands", "at", "work"] ["hand", "lands", "goods"] (defScope s__law_drawn_lands) := ⟨rfl, rfl, rfl, by decide +kernel, rfl, by decide +kernel, by decide +kernel⟩
abbrev s__law_at_work : Stmt := topS 49
theorem sc__law_at_work : FnScope ["land", "row", "amount", "work"] ["land", "row"] (defScope s__law_at_work) := ⟨rfl, rfl, rfl, by decide +kernel, rfl, by decide +kernel, by decide +kernel⟩
abbrev s__law_world : Stmt := topS 51
theorem sc__law_world : FnScope ["lands", "sharing", "good", "row"] ["lands", "sharing"] (defScope s__law_world) := ⟨rfl, rfl, rfl, by decide +kernel, rfl, by decide +kernel, by decide +kernel⟩
abbrev s__law_lands_near : Stmt := topS 54
theorem sc__law_lands_near : FnScope ["hand", "lands", "at", "hands", "works", "good", "found", "news", "one", "new", "bare", "wide", "some", "row"] ["hand", "lands"] (defScope s__law_lands_near) := ⟨rfl, rfl, rfl, by decide +kernel, rfl, by decide +kernel, by decide +kernel⟩
abbrev s_is_lands : Stmt := topS 23
theorem sc_is_lands : FnScope ["thing", "good", "land"] ["thing"] (defScope s_is_lands) := ⟨rfl, rfl, rfl, by decide +kernel, rfl, by decide +kernel, by decide +kernel⟩
abbrev s_is_part : Stmt := topS 27
theorem sc_is_part : FnScope ["lands", "land", "thing", "work"] ["lands", "land", "thing"] (defScope s_is_part) := ⟨rfl, rfl, rfl, by decide +kernel, rfl, by decide +kernel, by decide +kernel⟩
abbrev s_raw_world : Stmt := topS 31
theorem sc_raw_world : FnScope ["lands", "sharing", "good", "part"] ["lands", "sharing"] (defScope s_raw_world) := ⟨rfl, rfl, rfl, by decide +kernel, rfl, by decide +kernel, by decide +kernel⟩
abbrev s__law_is_sharing : Stmt := topS 50
theorem sc__law_is_sharing : FnScope ["lands", "thing", "land", "row", "amount", "work"] ["lands", "thing"] (defScope s__law_is_sharing) := ⟨rfl, rfl, rfl, by decide +kernel, rfl, by decide +kernel, by decide +kernel⟩
abbrev s__law_sharings_near : Stmt := topS 55
theorem sc__law_sharings_near : FnScope ["hand", "lands", "sharing", "at", "row", "found", "good", "work", "news", "odd", "left", "more", "one", "new"] ["hand", "lands", "sharing"] (defScope s__law_sharings_near) := ⟨rfl, rfl, rfl, by decide +kernel, rfl, by decide +kernel, by decide +kernel⟩
abbrev s_check_lands : Stmt := topS 24
theorem sc_check_lands : FnScope ["thing"] ["thing"] (defScope s_check_lands) := ⟨rfl, rfl, rfl, by decide +kernel, rfl, by decide +kernel, by decide +kernel⟩
abbrev s_is_sharing_of : Stmt := topS 28
theorem sc_is_sharing_of : FnScope ["lands", "thing", "many", "land", "part"] ["lands", "thing"] (defScope s_is_sharing_of) := ⟨rfl, rfl, rfl, by decide +kernel, rfl, by decide +kernel, by decide +kernel⟩
abbrev s_is_sharing : Stmt := topS 29
theorem sc_is_sharing : FnScope ["lands", "thing"] ["lands", "thing"] (defScope s_is_sharing) := ⟨rfl, rfl, rfl, by decide +kernel, rfl, by decide +kernel, by decide +kernel⟩
abbrev s_check_sharing : Stmt := topS 30
theorem sc_check_sharing : FnScope ["lands", "sharing"] ["lands", "sharing"] (defScope s_check_sharing) := ⟨rfl, rfl, rfl, by decide +kernel, rfl, by decide +kernel, by decide +kernel⟩
abbrev s_world : Stmt := topS 32
theorem sc_world : FnScope ["lands", "sharing"] ["lands", "sharing"] (defScope s_world) := ⟨rfl, rfl, rfl, by decide +kernel, rfl, by decide +kernel, by decide +kernel⟩
abbrev s__law_is : Stmt := topS 36
theorem sc__law_is : FnScope ["thing", "due", "one", "other"] ["thing", "due"] (defScope s__law_is) := ⟨rfl, rfl, rfl, by decide +kernel, rfl, by decide +kernel, by decide +kernel⟩
abbrev s__law_is_right : Stmt := topS 56
theorem sc__law_is_right : FnScope ["hand", "lands", "sharing", "thing", "before", "other", "half", "one", "two", "told", "mean", "first", "last"] ["hand", "lands", "sharing"] (defScope s__law_is_right) := ⟨rfl, rfl, rfl, by decide +kernel, rfl, by decide +kernel, by decide +kernel⟩
abbrev s__law_is_known_right : Stmt := topS 57
theorem sc__law_is_known_right : FnScope ["lands", "rows", "flags"] [] (defScope s__law_is_known_right) := ⟨rfl, rfl, rfl, by decide +kernel, rfl, by decide +kernel, by decide +kernel⟩
abbrev s_law : Stmt := topS 58
theorem sc_law : FnScope ["script", "hand", "turn", "lands", "sharing"] ["script"] (defScope s_law) := ⟨rfl, rfl, rfl, by decide +kernel, rfl, by decide +kernel, by decide +kernel⟩
def k_MOST_GOODS : D := .int 6
def k_MOST_LANDS : D := .int 6
def k_ZERO : D := .tuple [.int 0, .int 1]
/-- what the top has left -/
structure Txt (K : PySem.W.Frag) (mg : Str → Option Value) : Type where
  f_is_integer : Dk K mg "is_integer" "is_integer" s_is_integer ["thing"]
  f_is_sized : Dk K mg "is_sized" "is_sized" s_is_sized ["thing", "low", "high"]
  f_common : Dk K mg "common" "common" s_common ["one", "other"]
  f_is_less : Dk K mg "is_less" "is_less" s_is_less ["one", "other"]
  f_goods_of : Dk K mg "goods_of" "goods_of" s_goods_of ["lands"]
  f__law_draw : Dk K mg "_law_draw" "_law_draw" s__law_draw ["hand", "span"]
  f__law_hand : Dk K mg "_law_hand" "_law_hand" s__law_hand ["script"]
  f__law_low : Dk K mg "_law_low" "_law_low" s__law_low ["top", "bottom"]
  f__law_less : Dk K mg "_law_less" "_law_less" s__law_less ["one", "other"]
  f__law_odd_fractions : Dk K mg "_law_odd_fractions" "_law_odd_fractions" s__law_odd_fractions ["hand"]
  f_share : Dk K mg "share" "share" s_share ["top", "bottom"]
  f_is_share : Dk K mg "is_share" "is_share" s_is_share ["thing"]
  f__law_some : Dk K mg "_law_some" "_law_some" s__law_some ["hand", "things"]
  f__law_plus : Dk K mg "_law_plus" "_law_plus" s__law_plus ["one", "other"]
  f__law_times : Dk K mg "_law_times" "_law_times" s__law_times ["one", "other"]
  f__law_over : Dk K mg "_law_over" "_law_over" s__law_over ["one", "other"]
  f__law_is_fraction : Dk K mg "_law_is_fraction" "_law_is_fraction" s__law_is_fraction ["thing", "least"]
  f_plus : Dk K mg "plus" "plus" s_plus ["one", "other"]
  f_times : Dk K mg "times" "times" s_times ["one", "other"]
  f_is_amount : Dk K mg "is_amount" "is_amount" s_is_amount ["thing"]
  f_is_positive : Dk K mg "is_positive" "is_positive" s_is_positive ["thing"]
  f__law_sum : Dk K mg "_law_sum" "_law_sum" s__law_sum ["parts"]
  f__law_fraction : Dk K mg "_law_fraction" "_law_fraction" s__law_fraction ["hand", "most"]
  f__law_drawn_sharing : Dk K mg "_law_drawn_sharing" "_law_drawn_sharing" s__law_drawn_sharing ["hand", "lands", "is_whole"]
  f__law_is_lands : Dk K mg "_law_is_lands" "_law_is_lands" s__law_is_lands ["thing"]
  f__law_deep : Dk K mg "_law_deep" "_law_deep" s__law_deep ["hand"]
  f_summed : Dk K mg "summed" "summed" s_summed ["many"]
  f_are_amounts : Dk K mg "are_amounts" "are_amounts" s_are_amounts ["thing", "many"]
  f_is_land : Dk K mg "is_land" "is_land" s_is_land ["thing"]
  f_asked : Dk K mg "asked" "asked" s_asked ["works", "amounts"]
  f__law_drawn_lands : Dk K mg "_law_drawn_lands" "_law_drawn_lands" s__law_drawn_lands ["hand", "lands", "goods"]
  f__law_at_work : Dk K mg "_law_at_work" "_law_at_work" s__law_at_work ["land", "row"]
  f__law_world : Dk K mg "_law_world" "_law_world" s__law_world ["lands", "sharing"]
  f__law_lands_near : Dk K mg "_law_lands_near" "_law_lands_near" s__law_lands_near ["hand", "lands"]
  f_is_lands : Dk K mg "is_lands" "is_lands" s_is_lands ["thing"]
  f_is_part : Dk K mg "is_part" "is_part" s_is_part ["lands", "land", "thing"]
  f_raw_world : Dk K mg "raw_world" "raw_world" s_raw_world ["lands", "sharing"]
  f__law_is_sharing : Dk K mg "_law_is_sharing" "_law_is_sharing" s__law_is_sharing ["lands", "thing"]
  f__law_sharings_near : Dk K mg "_law_sharings_near" "_law_sharings_near" s__law_sharings_near ["hand", "lands", "sharing"]
  f_check_lands : Dk K mg "check_lands" "check_lands" s_check_lands ["thing"]
  f_is_sharing_of : Dk K mg "is_sharing_of" "is_sharing_of" s_is_sharing_of ["lands", "thing"]
  f_is_sharing : Dk K mg "is_sharing" "is_sharing" s_is_sharing ["lands", "thing"]
  f_check_sharing : Dk K mg "check_sharing" "check_sharing" s_check_sharing ["lands", "sharing"]
  f_world : Dk K mg "world" "world" s_world ["lands", "sharing"]
  f__law_is : Dk K mg "_law_is" "_law_is" s__law_is ["thing", "due"]
  f__law_is_right : Dk K mg "_law_is_right" "_law_is_right" s__law_is_right ["hand", "lands", "sharing"]
  f__law_is_known_right : Dk K mg "_law_is_known_right" "_law_is_known_right" s__law_is_known_right []
  f_law : Dk K mg "law" "law" s_law ["script"]
  n_abs : mg "abs" = none
  n_all : mg "all" = none
  n_any : mg "any" = none
  n_bool : mg "bool" = none
  n_enumerate : mg "enumerate" = none
  n_int : mg "int" = none
  n_isinstance : mg "isinstance" = none
  n_len : mg "len" = none
  n_list : mg "list" = none
  n_range : mg "range" = none
  n_repr : mg "repr" = none
  n_str : mg "str" = none
  n_sum : mg "sum" = none
  n_tuple : mg "tuple" = none
  n_zip : mg "zip" = none
  u_MOST_GOODS : Value
  v_MOST_GOODS : V
  c_MOST_GOODS : mg "MOST_GOODS" = some u_MOST_GOODS ∧ RelV v_MOST_GOODS u_MOST_GOODS ∧ ∀ F, Dl.Dp K F v_MOST_GOODS k_MOST_GOODS
  u_MOST_LANDS : Value
  v_MOST_LANDS : V
  c_MOST_LANDS : mg "MOST_LANDS" = some u_MOST_LANDS ∧ RelV v_MOST_LANDS u_MOST_LANDS ∧ ∀ F, Dl.Dp K F v_MOST_LANDS k_MOST_LANDS
  u_ZERO : Value
  v_ZERO : V
  c_ZERO : mg "ZERO" = some u_ZERO ∧ RelV v_ZERO u_ZERO ∧ ∀ F, Dl.Dp K F v_ZERO k_ZERO
end K64
set_option Elab.async false
set_option linter.all false
set_option maxRecDepth 100000
namespace K64
open PySem PySem.Spec PyProof.Rows L2 Dl
noncomputable def b_is_integer : Fs := (sRet (vE (eAnd (eUn (isiD "int") (eVar 0)) (eUn notD (eUn (isiD "bool") (eVar 0))))))
noncomputable def m_is_integer : List D → Option Sl := fnP b_is_integer 1
noncomputable def b_is_sized : Fs := (sRet (vE (eAnd (eUn (isiD "tuple") (eVar 0)) (eChain leD leD (eVar 1) (eUn lenD (bVar 0)) (eVar 2)))))
noncomputable def m_is_sized : List D → Option Sl := fnP b_is_sized 3
noncomputable def b_common : Fs := (sSeq (sWhile (tOf (eBin neD (eVar 1) (eC (.int 0)))) (sPar 0 1 (vE (eVar 1)) (vE (eBin modD (eVar 0) (eVar 1)))))
    (sRet (vE (eUn absD (bVar 0)))))
noncomputable def m_common : List D → Option Sl := fnP b_common 2
noncomputable def b_is_less : Fs := (sRet (vE (eBin ltD (eBin mulD (eIxV 0 (eC (.int 0))) (eIxV 1 (eC (.int 1)))) (eBin mulD (eIxV 1 (eC (.int 0))) (eIxV 0 (eC (.int 1)))))))
noncomputable def m_is_less : List D → Option Sl := fnP b_is_less 2
noncomputable def b_goods_of : Fs := (sRet (vE (eUn lenD (eBin atD (eIxV 0 (eC (.int 0))) (eC (.int 1))))))
noncomputable def m_goods_of : List D → Option Sl := fnP b_goods_of 1
noncomputable def b__law_draw : Fs := (sSeq (sIf (tAndT (tOf (eBin eqD (eIxV 0 (eC (.int 2))) (eC (.int 0)))) (tOf (eBin ltD (eIxV 0 (eC (.int 1))) (eUn lenD (eIxV 0 (eC (.int 0))))))) (sSeq (sSet 2 (vE (eBin atD (eIxV 0 (eC (.int 0))) (eIxV 0 (eC (.int 1))))))
    (sSeq (sPut 0 (eC (.int 1)) (vE (eBin addA (eIxV 0 (eC (.int 1))) (eC (.int 1)))))
    (sSeq (sPut 0 (eC (.int 3)) (vE (eBin modD (eUn intD (eBin addA (eBin addA (eBin mulD (eIxV 0 (eC (.int 3))) (eC (.int 69621))) (eVar 2)) (eC (.int 43)))) (eC (.int 2147483629)))))
    (sIf (tOf (eBin geD (eVar 2) (eBin powD (eC (.int 10)) (eC (.int 18))))) (sPut 0 (eC (.int 2)) (vE (eVar 2))) sNil)))) sNil)
    (sSeq (sIf (tOf (eBin gtD (eIxV 0 (eC (.int 2))) (eC (.int 0)))) (sSeq (sSet 3 (vE (eBin modD (eUn intD (eIxV 0 (eC (.int 2)))) (eVar 1))))
    (sSeq (sPut 0 (eC (.int 2)) (vE (eBin fdivD (eIxV 0 (eC (.int 2))) (eVar 1))))
    (sRetV 3))) sNil)
    (sSeq (sPut 0 (eC (.int 4)) (vE (eBin addA (eIxV 0 (eC (.int 4))) (eC (.int 1)))))
    (sSeq (sSet 4 (vE (eBin modD (eUn intD (eBin mulD (eUn intD (eBin addA (eIxV 0 (eC (.int 3))) (eBin mulD (eC (.int 7919)) (eIxV 0 (eC (.int 4)))))) (eC (.int 48271)))) (eC (.int 2147483647)))))
    (sSeq (sSet 4 (vE (eBin modD (eUn intD (eBin mulD (eVar 4) (eBin addA (eBin fdivD (eVar 4) (eC (.int 1009))) (eC (.int 69621))))) (eC (.int 2147483647)))))
    (sSeq (sSet 4 (vE (eBin modD (eUn intD (eBin mulD (eVar 4) (eBin addA (eBin fdivD (eVar 4) (eC (.int 2003))) (eC (.int 40692))))) (eC (.int 2147483399)))))
    (sRet (vE (eBin modD (eUn intD (eBin fdivD (eVar 4) (eC (.int 16)))) (eVar 1))))))))))
noncomputable def m__law_draw : List D → List D → Option (Sl × List D) := fnI b__law_draw 5
noncomputable def b__law_hand : Fs := (sSeq (sSet 1 (vLc (iSeq (eSlU (eVar 0) oNone (oSome (eC (.int 63))))) (gVar 2) cYes (eUn absD (eUn intD (bVar 2))) [2]))
    (sRet (vLst (aCons (eVar 1) (aCons (eC (.int 0)) (aCons (eC (.int 0)) (aCons (eBin addA (eC (.int 109)) (eBin mulD (eC (.int 3)) (eUn lenD (bVar 1)))) (aCons (eC (.int 0)) aNil))))))))
noncomputable def m__law_hand : List D → Option Sl := fnP b__law_hand 3
noncomputable def b__law_low : Fs := (sSeq (sPar 2 3 (vE (eUn absD (bVar 0))) (vE (eUn absD (bVar 1))))
    (sSeq (sWhile (tOf (eBin gtD (eVar 3) (eC (.int 0)))) (sPar 2 3 (vE (eVar 3)) (vE (eBin modD (eUn intD (bVar 2)) (eVar 3)))))
    (sRet (vE (eIf (tOf (eBin gtD (eVar 1) (eC (.int 0)))) (eTup (aCons (eBin fdivD (eVar 0) (eVar 2)) (aCons (eBin fdivD (eVar 1) (eVar 2)) aNil))) (eTup (aCons (eBin fdivD (eBin subD (eC (.int 0)) (eVar 0)) (eVar 2)) (aCons (eBin fdivD (eBin subD (eC (.int 0)) (eVar 1)) (eVar 2)) aNil))))))))
noncomputable def m__law_low : List D → Option Sl := fnP b__law_low 4
noncomputable def b__law_less : Fs := (sRet (vE (eBin ltD (eBin mulD (eIxV 0 (eC (.int 0))) (eIxV 1 (eC (.int 1)))) (eBin mulD (eIxV 1 (eC (.int 0))) (eIxV 0 (eC (.int 1)))))))
noncomputable def m__law_less : List D → Option Sl := fnP b__law_less 2
noncomputable def b__law_odd_fractions : Fs := (sSeq (sSet 1 (vLst (aCons (eTup (aCons (eC (.int 0)) (aCons (eC (.int 1)) aNil))) (aCons (eTup (aCons (eUn negD (eC (.int 1))) (aCons (eC (.int 2)) aNil))) (aCons (eTup (aCons (eC (.int 2)) (aCons (eC (.int 4)) aNil))) (aCons (eTup (aCons (eC (.int 1)) (aCons (eC (.int 0)) aNil))) (aCons (eTup (aCons (eC (.int 1)) (aCons (eUn negD (eC (.int 2))) aNil))) (aCons (eTup (aCons (eC (.int 0)) (aCons (eC (.int 3)) aNil))) (aCons (eTup (aCons (eC (.bool true)) (aCons (eC (.int 2)) aNil))) (aCons (eTup (aCons (eC (.int 1)) (aCons (eC (.bool true)) aNil))) (aCons (eV (vLst (aCons (eC (.int 1)) (aCons (eC (.int 2)) aNil)))) (aCons (eTup (aCons (eC (.int 1)) aNil)) (aCons (eTup (aCons (eC (.int 1)) (aCons (eC (.int 2)) (aCons (eC (.int 1)) aNil)))) aNil)))))))))))))
    (sRet (vCatE (eVar 1) (eV (vLst (aCons (eC (.int 1)) (aCons (eC (.str (Str.ofString "1"))) (aCons (eC .none) aNil))))))))
noncomputable def m__law_odd_fractions : List D → List D → Option (Sl × List D) := fnI b__law_odd_fractions 2
noncomputable def b_share : Fs := (sSeq (sSet 2 (eCall m_common (aCons (eVar 0) (aCons (eVar 1) aNil))))
    (sSeq (sIf (tOf (eBin ltD (eVar 1) (eC (.int 0)))) (sSet 2 (vE (eUn negD (eVar 2)))) sNil)
    (sRet (vE (eTup (aCons (eBin fdivD (eVar 0) (eVar 2)) (aCons (eBin fdivD (eVar 1) (eVar 2)) aNil)))))))
noncomputable def m_share : List D → Option Sl := fnP b_share 3
noncomputable def b_is_share : Fs := (sSeq (sIf (tOrT (tNotT (tOf (eV (eCall m_is_sized (aCons (eVar 0) (aCons (eC (.int 2)) (aCons (eC (.int 2)) aNil))))))) (tOrT (tNotT (tOf (eV (eCall m_is_integer (aCons (eIxV 0 (eC (.int 0))) aNil))))) (tNotT (tOf (eV (eCall m_is_integer (aCons (eIxV 0 (eC (.int 1))) aNil))))))) (sRet (vE (eC (.bool false)))) sNil)
    (sRet (vE (eAnd (eBin gtD (eIxV 0 (eC (.int 1))) (eC (.int 0))) (eBin eqD (eV (eCall m_common (aCons (eIxV 0 (eC (.int 0))) (aCons (eIxV 0 (eC (.int 1))) aNil)))) (eC (.int 1)))))))
noncomputable def m_is_share : List D → Option Sl := fnP b_is_share 1
noncomputable def b__law_some : Fs := (sRet (vE (eIxV 1 (eV (eCallI m__law_draw 0 (aCons (eUn lenD (bVar 1)) aNil))))))
noncomputable def m__law_some : List D → List D → Option (Sl × List D) := fnI b__law_some 2
noncomputable def b__law_plus : Fs := (sRet (eCall m__law_low (aCons (eBin addA (eBin mulD (eIxV 0 (eC (.int 0))) (eIxV 1 (eC (.int 1)))) (eBin mulD (eIxV 1 (eC (.int 0))) (eIxV 0 (eC (.int 1))))) (aCons (eBin mulD (eIxV 0 (eC (.int 1))) (eIxV 1 (eC (.int 1)))) aNil))))
noncomputable def m__law_plus : List D → Option Sl := fnP b__law_plus 2
noncomputable def b__law_times : Fs := (sRet (eCall m__law_low (aCons (eBin mulD (eIxV 0 (eC (.int 0))) (eIxV 1 (eC (.int 0)))) (aCons (eBin mulD (eIxV 0 (eC (.int 1))) (eIxV 1 (eC (.int 1)))) aNil))))
noncomputable def m__law_times : List D → Option Sl := fnP b__law_times 2
noncomputable def b__law_over : Fs := (sRet (eCall m__law_low (aCons (eBin mulD (eIxV 0 (eC (.int 0))) (eIxV 1 (eC (.int 1)))) (aCons (eBin mulD (eIxV 0 (eC (.int 1))) (eIxV 1 (eC (.int 0)))) aNil))))
noncomputable def m__law_over : List D → Option Sl := fnP b__law_over 2
noncomputable def b__law_is_fraction : Fs := (sSeq (sIf (tOrT (tNotT (tOf (eUn (isiD "tuple") (eVar 0)))) (tOf (eBin neD (eUn lenD (bVar 0)) (eC (.int 2))))) (sRet (vE (eC (.bool false)))) sNil)
    (sSeq (sIf (tOrT (tNotT (tOf (eUn allD (eV (vLc (iSeq (eVar 0)) (gVar 2) cYes (eAnd (eUn (isiD "int") (eVar 2)) (eUn notD (eUn (isiD "bool") (eVar 2)))) [2]))))) (tOf (eBin ltD (eIxV 0 (eC (.int 1))) (eC (.int 1))))) (sRet (vE (eC (.bool false)))) sNil)
    (sRet (vE (eAnd (eBin geD (eIxV 0 (eC (.int 0))) (eVar 1)) (eBin eqD (eV (eCall m__law_low (aCons (eIxV 0 (eC (.int 0))) (aCons (eIxV 0 (eC (.int 1))) aNil)))) (eVar 0)))))))
noncomputable def m__law_is_fraction : List D → Option Sl := fnP b__law_is_fraction 3
noncomputable def b_plus : Fs := (sSeq (sIf (tOf (eBin eqD (eIxV 0 (eC (.int 1))) (eIxV 1 (eC (.int 1))))) (sRet (eCall m_share (aCons (eBin addA (eIxV 0 (eC (.int 0))) (eIxV 1 (eC (.int 0)))) (aCons (eIxV 0 (eC (.int 1))) aNil)))) sNil)
    (sRet (eCall m_share (aCons (eBin addA (eBin mulD (eIxV 0 (eC (.int 0))) (eIxV 1 (eC (.int 1)))) (eBin mulD (eIxV 1 (eC (.int 0))) (eIxV 0 (eC (.int 1))))) (aCons (eBin mulD (eIxV 0 (eC (.int 1))) (eIxV 1 (eC (.int 1)))) aNil)))))
noncomputable def m_plus : List D → Option Sl := fnP b_plus 2
noncomputable def b_times : Fs := (sRet (eCall m_share (aCons (eBin mulD (eIxV 0 (eC (.int 0))) (eIxV 1 (eC (.int 0)))) (aCons (eBin mulD (eIxV 0 (eC (.int 1))) (eIxV 1 (eC (.int 1)))) aNil))))
noncomputable def m_times : List D → Option Sl := fnP b_times 2
noncomputable def b_is_amount : Fs := (sRet (vE (eAnd (eV (eCall m_is_share (aCons (eVar 0) aNil))) (eBin geD (eIxV 0 (eC (.int 0))) (eC (.int 0))))))
noncomputable def m_is_amount : List D → Option Sl := fnP b_is_amount 1
noncomputable def b_is_positive : Fs := (sRet (vE (eAnd (eV (eCall m_is_share (aCons (eVar 0) aNil))) (eBin gtD (eIxV 0 (eC (.int 0))) (eC (.int 0))))))
noncomputable def m_is_positive : List D → Option Sl := fnP b_is_positive 1
noncomputable def b__law_sum : Fs := (sSeq (sSet 1 (vE (eTup (aCons (eC (.int 0)) (aCons (eC (.int 1)) aNil)))))
    (sSeq (sFor (iSeq (eVar 0)) (gVar 2) (sSet 1 (eCall m__law_plus (aCons (eVar 1) (aCons (eVar 2) aNil)))))
    (sRetV 1)))
noncomputable def m__law_sum : List D → Option Sl := fnP b__law_sum 3
noncomputable def b__law_fraction : Fs := (sRet (eCall m__law_low (aCons (eBin addA (eC (.int 1)) (eV (eCallI m__law_draw 0 (aCons (eVar 1) aNil)))) (aCons (eBin addA (eC (.int 1)) (eV (eCallI m__law_some 0 (aCons (eV (vLst (aCons (eC (.int 0)) (aCons (eC (.int 0)) (aCons (eC (.int 0)) (aCons (eC (.int 1)) (aCons (eC (.int 2)) (aCons (eV (eCallI m__law_draw 0 (aCons (eC (.int 9)) aNil))) aNil)))))))) aNil)))) aNil))))
noncomputable def m__law_fraction : List D → List D → Option (Sl × List D) := fnI b__law_fraction 2
noncomputable def b__law_drawn_sharing : Fs := (sSeq (sSet 3 (vLst aNil))
    (sSeq (sFor (iSeq (eVar 1)) (gTup (gsCons (gVar 4) (gsCons (gVar 5) gsNil)) 2) (sSeq (sSet 7 (vLc (iEnum' (aCons (eVar 5) aNil)) (gTup (gsCons (gVar 12) (gsCons (gVar 6) gsNil)) 2) (tOf (eBin notND (eVar 6) (eC .none))) (eVar 12) [12, 6]))
    (sSeq (sSet 8 (vLc (iRange1 (aCons (eUn lenD (bVar 5)) aNil)) (gVar 12) cYes (eIf (tOf (eBin inD (eVar 12) (eVar 7))) (eV (eCallI m__law_some 0 (aCons (eV (vLst (aCons (eC (.int 0)) (aCons (eC (.int 0)) (aCons (eC (.int 1)) (aCons (eC (.int 2)) (aCons (eC (.int 5)) aNil))))))) aNil))) (eC (.int 0))) [12]))
    (sSeq (sIf (tOf (eBin eqD (eUn sumD (bVar 8)) (eC (.int 0)))) (sPut 8 (eV (eCallI m__law_some 0 (aCons (eVar 7) aNil))) (vE (eC (.int 1)))) sNil)
    (sSeq (sSet 9 (vE (eBin addA (eUn sumD (bVar 8)) (eIf (tOf (bVar 2)) (eC (.int 0)) (eV (eCallI m__law_some 0 (aCons (eV (vLst (aCons (eC (.int 0)) (aCons (eC (.int 0)) (aCons (eC (.int 1)) (aCons (eC (.int 3)) aNil)))))) aNil)))))))
    (sSeq (sSet 10 (vLst aNil))
    (sSeq (sFor (iZipU (aCons (eVar 8) (aCons (eVar 5) aNil))) (gTup (gsCons (gVar 11) (gsCons (gVar 6) gsNil)) 2) (sEx (eApp 10 (vE (eIf (tOf (eBin eqD (eVar 11) (eC (.int 0)))) (eTup (aCons (eC (.int 0)) (aCons (eC (.int 1)) aNil))) (eV (eCall m__law_over (aCons (eV (eCall m__law_times (aCons (eVar 4) (aCons (eTup (aCons (eVar 11) (aCons (eVar 9) aNil))) aNil)))) (aCons (eVar 6) aNil)))))))))
    (sEx (eApp 3 (vE (eUn tupD (bVar 10))))))))))))
    (sRet (vE (eUn tupD (bVar 3))))))
noncomputable def m__law_drawn_sharing : List D → List D → Option (Sl × List D) := fnI b__law_drawn_sharing 13
noncomputable def b__law_is_lands : Fs := (sSeq (sIf (tOrT (tNotT (tOf (eUn (isiD "tuple") (eVar 0)))) (tNotT (tOf (eChain leD leD (eC (.int 1)) (eUn lenD (bVar 0)) (eC (.int 6)))))) (sRet (vE (eC (.bool false)))) sNil)
    (sSeq (sFor (iSeq (eVar 0)) (gVar 1) (sSeq (sIf (tOrT (tNotT (tOf (eUn (isiD "tuple") (eVar 1)))) (tOrT (tOf (eBin neD (eUn lenD (bVar 1)) (eC (.int 2)))) (tNotT (tOf (eV (eCall m__law_is_fraction (aCons (eIxV 1 (eC (.int 0))) (aCons (eC (.int 1)) aNil)))))))) (sRet (vE (eC (.bool false)))) sNil)
    (sSeq (sIf (tOrT (tNotT (tOf (eUn (isiD "tuple") (eIxV 1 (eC (.int 1)))))) (tNotT (tOf (eChain leD leD (eC (.int 1)) (eUn lenD (eIxV 1 (eC (.int 1)))) (eC (.int 6)))))) (sRet (vE (eC (.bool false)))) sNil)
    (sIf (tNotT (tOf (eUn allD (eV (vLc (iSeq (eIxV 1 (eC (.int 1)))) (gVar 4) cYes (eOr (eBin isND (eVar 4) (eC .none)) (eV (eCall m__law_is_fraction (aCons (eVar 4) (aCons (eC (.int 1)) aNil))))) [4]))))) (sRet (vE (eC (.bool false)))) sNil))))
    (sSeq (sSet 2 (vE (eUn lenD (eBin atD (eIxV 0 (eC (.int 0))) (eC (.int 1))))))
    (sSeq (sIf (tNotT (tOf (eUn allD (eV (vLc (iSeq (eVar 0)) (gVar 1) cYes (eAnd (eBin eqD (eUn lenD (eIxV 1 (eC (.int 1)))) (eVar 2)) (eUn anyD (eV (vLc (iSeq (eIxV 1 (eC (.int 1)))) (gVar 4) cYes (eBin notND (eVar 4) (eC .none)) [4])))) [1]))))) (sRet (vE (eC (.bool false)))) sNil)
    (sRet (vE (eUn allD (eV (vLc (iRange1 (aCons (eVar 2) aNil)) (gVar 3) cYes (eUn anyD (eV (vLc (iSeq (eVar 0)) (gVar 1) cYes (eBin notND (eBin atD (eIxV 1 (eC (.int 1))) (eVar 3)) (eC .none)) [1]))) [3])))))))))
noncomputable def m__law_is_lands : List D → Option Sl := fnP b__law_is_lands 5
noncomputable def b__law_deep : Fs := (sSeq (sSet 1 (eCallI m__law_some 0 (aCons (eV (vLst (aCons (eC .none) (aCons (eC (.str (Str.ofString "a"))) (aCons (eC (.int 0)) (aCons (eTup aNil) aNil)))))) aNil)))
    (sSeq (sFor (iRange1 (aCons (eBin addA (eC (.int 20)) (eV (eCallI m__law_draw 0 (aCons (eC (.int 12)) aNil)))) aNil)) (gVar 2) (sSet 1 (eCallI m__law_some 0 (aCons (eV (vLst (aCons (eTup (aCons (eVar 1) aNil)) (aCons (eV (vLst (aCons (eVar 1) aNil))) aNil)))) aNil))))
    (sRetV 1)))
noncomputable def m__law_deep : List D → List D → Option (Sl × List D) := fnI b__law_deep 3
noncomputable def b_summed : Fs := (sSeq (sSet 1 (vE (eC k_ZERO)))
    (sSeq (sFor (iSeq (eVar 0)) (gVar 2) (sSet 1 (eCall m_plus (aCons (eVar 1) (aCons (eVar 2) aNil)))))
    (sRetV 1)))
noncomputable def m_summed : List D → Option Sl := fnP b_summed 3
noncomputable def b_are_amounts : Fs := (sRet (vE (eAnd (eV (eCall m_is_sized (aCons (eVar 0) (aCons (eVar 1) (aCons (eVar 1) aNil))))) (eUn allD (eV (vLc (iSeq (eVar 0)) (gVar 2) cYes (eV (eCall m_is_amount (aCons (eVar 2) aNil))) [2]))))))
noncomputable def m_are_amounts : List D → Option Sl := fnP b_are_amounts 3
noncomputable def b_is_land : Fs := (sSeq (sIf (tOrT (tNotT (tOf (eV (eCall m_is_sized (aCons (eVar 0) (aCons (eC (.int 2)) (aCons (eC (.int 2)) aNil))))))) (tOrT (tNotT (tOf (eV (eCall m_is_positive (aCons (eIxV 0 (eC (.int 0))) aNil))))) (tNotT (tOf (eV (eCall m_is_sized (aCons (eIxV 0 (eC (.int 1))) (aCons (eC (.int 1)) (aCons (eC k_MOST_GOODS) aNil))))))))) (sRet (vE (eC (.bool false)))) sNil)
    (sSeq (sIf (tNotT (tOf (eUn allD (eV (vLc (iSeq (eIxV 0 (eC (.int 1)))) (gVar 1) cYes (eOr (eBin isND (eVar 1) (eC .none)) (eV (eCall m_is_positive (aCons (eVar 1) aNil)))) [1]))))) (sRet (vE (eC (.bool false)))) sNil)
    (sRet (vE (eUn anyD (eV (vLc (iSeq (eIxV 0 (eC (.int 1)))) (gVar 1) cYes (eBin notND (eVar 1) (eC .none)) [1])))))))
noncomputable def m_is_land : List D → Option Sl := fnP b_is_land 2
noncomputable def b_asked : Fs := (sSeq (sSet 2 (vE (eC k_ZERO)))
    (sSeq (sFor (iZipU (aCons (eVar 0) (aCons (eVar 1) aNil))) (gTup (gsCons (gVar 3) (gsCons (gVar 4) gsNil)) 2) (sSeq (sIf (tAndT (tOf (eBin isND (eVar 3) (eC .none))) (tOf (eBin neD (eVar 4) (eC k_ZERO)))) (sRet (vE (eC .none))) sNil)
    (sIf (tOf (eBin notND (eVar 3) (eC .none))) (sSet 2 (eCall m_plus (aCons (eVar 2) (aCons (eV (eCall m_times (aCons (eVar 3) (aCons (eVar 4) aNil)))) aNil)))) sNil)))
    (sRetV 2)))
noncomputable def m_asked : List D → Option Sl := fnP b_asked 5
noncomputable def b__law_drawn_lands : Fs := (sSeq (sSet 3 (eCallI m__law_some 0 (aCons (eV (vLst (aCons (eC (.int 0)) (aCons (eC (.int 0)) (aCons (eC (.int 1)) (aCons (eC (.int 3)) aNil)))))) aNil)))
    (sSeq (sSet 4 (vLst aNil))
    (sSeq (sFor (iRange1 (aCons (eVar 1) aNil)) (gVar 5) (sSeq (sSet 7 (vLc (iRange1 (aCons (eVar 2) aNil)) (gVar 6) cYes (eIf (tOf (eBin ltD (eV (eCallI m__law_draw 0 (aCons (eC (.int 8)) aNil))) (eVar 3))) (eC .none) (eV (eCallI m__law_fraction 0 (aCons (eC (.int 6)) aNil)))) [6]))
    (sSeq (sIf (tNotT (tOf (eUn anyD (eV (vLcN 7 (gVar 10) cYes (eBin notND (eVar 10) (eC .none)) [10]))))) (sPut 7 (eV (eCallI m__law_draw 0 (aCons (eVar 2) aNil))) (eCallI m__law_fraction 0 (aCons (eC (.int 6)) aNil))) sNil)
    (sEx (eApp 4 (vE (eTup (aCons (eV (eCallI m__law_fraction 0 (aCons (eC (.int 12)) aNil))) (aCons (eUn tupD (bVar 7)) aNil)))))))))
    (sSeq (sFor (iRange1 (aCons (eVar 2) aNil)) (gVar 6) (sIf (tNotT (tOf (eUn anyD (eV (vFz 7 (vLcN 4 (gTup (gsCons (gVar 8) (gsCons (gVar 7) gsNil)) 2) cYes (eBin notND (eIxV 7 (eVar 6)) (eC .none)) [8, 7])))))) (sSeq (sSet 9 (eCallI m__law_draw 0 (aCons (eVar 1) aNil)))
    (sSeq (sAsg (eIxV 4 (eVar 9)) (gTup (gsCons (gVar 8) (gsCons (gVar 7) gsNil)) 2))
    (sPut 4 (eVar 9) (vE (eTup (aCons (eVar 8) (aCons (eBin addA (eBin addA (eSlU (eVar 7) oNone (oSome (eVar 6))) (eTup (aCons (eV (eCallI m__law_fraction 0 (aCons (eC (.int 6)) aNil))) aNil))) (eSlU (eVar 7) (oSome (eBin addA (eVar 6) (eC (.int 1)))) oNone)) aNil))))))) sNil))
    (sRet (vE (eUn tupD (bVar 4))))))))
noncomputable def m__law_drawn_lands : List D → List D → Option (Sl × List D) := fnI b__law_drawn_lands 11
noncomputable def b__law_at_work : Fs := (sRet (eCall m__law_sum (aCons (eV (vLc (iZipU (aCons (eVar 1) (aCons (eIxV 0 (eC (.int 1))) aNil))) (gTup (gsCons (gVar 2) (gsCons (gVar 3) gsNil)) 2) (tOf (eBin notND (eVar 3) (eC .none))) (eV (eCall m__law_times (aCons (eVar 2) (aCons (eVar 3) aNil)))) [2, 3])) aNil)))
noncomputable def m__law_at_work : List D → Option Sl := fnP b__law_at_work 4
noncomputable def b__law_world : Fs := (sRet (vE (eUn tupD (eV (vLc (iRange1 (aCons (eUn lenD (eBin atD (eIxV 0 (eC (.int 0))) (eC (.int 1)))) aNil)) (gVar 2) cYes (eV (eCall m__law_sum (aCons (eV (vLc (iSeq (eVar 1)) (gVar 3) cYes (eIxV 3 (eVar 2)) [3])) aNil))) [2])))))
noncomputable def m__law_world : List D → Option Sl := fnP b__law_world 4
noncomputable def b__law_lands_near : Fs := (sSeq (sSet 2 (eCallI m__law_draw 0 (aCons (eUn lenD (bVar 1)) aNil)))
    (sSeq (sAsg (eIxV 1 (eVar 2)) (gTup (gsCons (gVar 3) (gsCons (gVar 4) gsNil)) 2))
    (sSeq (sSet 5 (eCallI m__law_draw 0 (aCons (eUn lenD (bVar 4)) aNil)))
    (sSeq (sSet 6 (vLst (aCons (eV (v1 seqD (bVar 1))) (aCons (eC .none) (aCons (eTup aNil) (aCons (eC (.dict [])) (aCons (eIxV 1 (eC (.int 0))) (aCons (eV (eCallI m__law_deep 0 aNil)) (aCons (eBin addA (eVar 1) (eTup (aCons (eC .none) aNil))) (aCons (eSlU (eBin repTD (eVar 1) (eC (.int 7))) oNone (oSome (eC (.int 6)))) (aCons (eSlU (eBin repTD (eVar 1) (eC (.int 7))) oNone (oSome (eC (.int 7)))) aNil)))))))))))
    (sSeq (sSet 7 (vLst (aCons (eTup (aCons (eVar 3) aNil)) (aCons (eTup (aCons (eVar 3) (aCons (eVar 4) (aCons (eC (.int 0)) aNil)))) (aCons (eV (vLst (aCons (eVar 3) (aCons (eVar 4) aNil)))) (aCons (eTup (aCons (eVar 3) (aCons (eV (v1 seqD (bVar 4))) aNil))) (aCons (eTup (aCons (eVar 4) (aCons (eVar 3) aNil))) (aCons (eTup (aCons (eVar 3) (aCons (eTup aNil) aNil))) (aCons (eC .none) aNil)))))))))
    (sSeq (sSet 7 (vCatE (eVar 7) (eV (vLst (aCons (eTup (aCons (eVar 3) (aCons (eBin addA (eVar 4) (eSlU (eVar 4) oNone (oSome (eC (.int 1))))) aNil))) (aCons (eTup (aCons (eVar 3) (aCons (eSlU (eVar 4) oNone (oSome (eUn negD (eC (.int 1))))) aNil))) (aCons (eTup (aCons (eVar 3) (aCons (eBin repTD (eTup (aCons (eC .none) aNil)) (eUn lenD (bVar 4))) aNil))) (aCons (eTup (aCons (eVar 3) (aCons (eBin repTD (eVar 4) (eC (.int 7))) aNil))) aNil))))))))
    (sSeq (sSet 7 (vCatE (eVar 7) (eV (vLc (iSeq (eV (eCallI m__law_odd_fractions 0 aNil))) (gVar 8) cYes (eTup (aCons (eVar 8) (aCons (eVar 4) aNil))) [8]))))
    (sSeq (sFor (iSeq (eV (eCallI m__law_odd_fractions 0 aNil))) (gVar 8) (sEx (eApp 7 (vE (eTup (aCons (eVar 3) (aCons (eBin addA (eBin addA (eSlU (eVar 4) oNone (oSome (eVar 5))) (eTup (aCons (eVar 8) aNil))) (eSlU (eVar 4) (oSome (eBin addA (eVar 5) (eC (.int 1)))) oNone)) aNil)))))))
    (sSeq (sFor (iSeq (eVar 7)) (gVar 9) (sEx (eApp 6 (vE (eBin addA (eBin addA (eSlU (eVar 1) oNone (oSome (eVar 2))) (eTup (aCons (eVar 9) aNil))) (eSlU (eVar 1) (oSome (eBin addA (eVar 2) (eC (.int 1)))) oNone))))))
    (sSeq (sSet 10 (vE (eUn tupD (eV (vLc (iSeq (eVar 1)) (gTup (gsCons (gVar 12) (gsCons (gVar 13) gsNil)) 2) cYes (eTup (aCons (eVar 12) (aCons (eBin addA (eBin addA (eSlU (eVar 13) oNone (oSome (eVar 5))) (eTup (aCons (eC .none) aNil))) (eSlU (eVar 13) (oSome (eBin addA (eVar 5) (eC (.int 1)))) oNone)) aNil))) [12, 13])))))
    (sSeq (sSet 11 (vE (eUn tupD (eV (vLc (iSeq (eVar 1)) (gTup (gsCons (gVar 12) (gsCons (gVar 13) gsNil)) 2) cYes (eTup (aCons (eVar 12) (aCons (eSlU (eBin repTD (eVar 13) (eC (.int 7))) oNone (oSome (eC (.int 6)))) aNil))) [12, 13])))))
    (sRet (vCatE (eVar 6) (eV (vLst (aCons (eVar 10) (aCons (eVar 11) (aCons (eUn tupD (eV (vLc (iSeq (eVar 1)) (gTup (gsCons (gVar 12) (gsCons (gVar 13) gsNil)) 2) cYes (eTup (aCons (eVar 12) (aCons (eSlU (eBin repTD (eVar 13) (eC (.int 7))) oNone (oSome (eC (.int 7)))) aNil))) [12, 13]))) aNil))))))))))))))))))
noncomputable def m__law_lands_near : List D → List D → Option (Sl × List D) := fnI b__law_lands_near 14
noncomputable def b_is_lands : Fs := (sSeq (sIf (tOrT (tNotT (tOf (eV (eCall m_is_sized (aCons (eVar 0) (aCons (eC (.int 1)) (aCons (eC k_MOST_LANDS) aNil))))))) (tNotT (tOf (eUn allD (eV (vLc (iSeq (eVar 0)) (gVar 2) cYes (eV (eCall m_is_land (aCons (eVar 2) aNil))) [2])))))) (sRet (vE (eC (.bool false)))) sNil)
    (sSeq (sIf (tNotT (tOf (eUn allD (eV (vLc (iSeq (eVar 0)) (gVar 2) cYes (eBin eqD (eUn lenD (eIxV 2 (eC (.int 1)))) (eUn lenD (eBin atD (eIxV 0 (eC (.int 0))) (eC (.int 1))))) [2]))))) (sRet (vE (eC (.bool false)))) sNil)
    (sSeq (sFor (iRange1 (aCons (eUn lenD (eBin atD (eIxV 0 (eC (.int 0))) (eC (.int 1)))) aNil)) (gVar 1) (sIf (tOf (eUn allD (eV (vLc (iSeq (eVar 0)) (gVar 2) cYes (eBin isND (eBin atD (eIxV 2 (eC (.int 1))) (eVar 1)) (eC .none)) [2])))) (sRet (vE (eC (.bool false)))) sNil))
    (sRet (vE (eC (.bool true)))))))
noncomputable def m_is_lands : List D → Option Sl := fnP b_is_lands 3
noncomputable def b_is_part : Fs := (sSeq (sIf (tNotT (tOf (eV (eCall m_are_amounts (aCons (eVar 2) (aCons (eV (eCall m_goods_of (aCons (eVar 0) aNil))) aNil)))))) (sRet (vE (eC (.bool false)))) sNil)
    (sSeq (sSet 3 (eCall m_asked (aCons (eBin atD (eIxV 0 (eVar 1)) (eC (.int 1))) (aCons (eVar 2) aNil))))
    (sRet (vE (eAnd (eBin notND (eVar 3) (eC .none)) (eUn notD (eV (eCall m_is_less (aCons (eBin atD (eIxV 0 (eVar 1)) (eC (.int 0))) (aCons (eVar 3) aNil))))))))))
noncomputable def m_is_part : List D → Option Sl := fnP b_is_part 4
noncomputable def b_raw_world : Fs := (sRet (vE (eUn tupD (eV (vLc (iRange1 (aCons (eV (eCall m_goods_of (aCons (eVar 0) aNil))) aNil)) (gVar 2) cYes (eV (eCall m_summed (aCons (eV (vLc (iSeq (eVar 1)) (gVar 3) cYes (eIxV 3 (eVar 2)) [3])) aNil))) [2])))))
noncomputable def m_raw_world : List D → Option Sl := fnP b_raw_world 4
noncomputable def b__law_is_sharing : Fs := (sSeq (sIf (tOrT (tNotT (tOf (eUn (isiD "tuple") (eVar 1)))) (tOf (eBin neD (eUn lenD (bVar 1)) (eUn lenD (bVar 0))))) (sRet (vE (eC (.bool false)))) sNil)
    (sSeq (sFor (iZipU (aCons (eVar 0) (aCons (eVar 1) aNil))) (gTup (gsCons (gVar 2) (gsCons (gVar 3) gsNil)) 2) (sSeq (sIf (tOrT (tNotT (tOf (eUn (isiD "tuple") (eVar 3)))) (tOf (eBin neD (eUn lenD (bVar 3)) (eUn lenD (eIxV 2 (eC (.int 1))))))) (sRet (vE (eC (.bool false)))) sNil)
    (sSeq (sIf (tNotT (tOf (eUn allD (eV (vLc (iSeq (eVar 3)) (gVar 4) cYes (eV (eCall m__law_is_fraction (aCons (eVar 4) (aCons (eC (.int 0)) aNil)))) [4]))))) (sRet (vE (eC (.bool false)))) sNil)
    (sSeq (sIf (tOf (eUn anyD (eV (vLc (iZipU (aCons (eVar 3) (aCons (eIxV 2 (eC (.int 1))) aNil))) (gTup (gsCons (gVar 4) (gsCons (gVar 5) gsNil)) 2) cYes (eAnd (eBin gtD (eIxV 4 (eC (.int 0))) (eC (.int 0))) (eBin isND (eVar 5) (eC .none))) [4, 5])))) (sRet (vE (eC (.bool false)))) sNil)
    (sIf (tOf (eV (eCall m__law_less (aCons (eIxV 2 (eC (.int 0))) (aCons (eV (eCall m__law_at_work (aCons (eVar 2) (aCons (eVar 3) aNil)))) aNil))))) (sRet (vE (eC (.bool false)))) sNil)))))
    (sRet (vE (eC (.bool true))))))
noncomputable def m__law_is_sharing : List D → Option Sl := fnP b__law_is_sharing 6
noncomputable def b__law_sharings_near : Fs := (sSeq (sSet 3 (eCallI m__law_draw 0 (aCons (eUn lenD (bVar 1)) aNil)))
    (sSeq (sPar 4 5 (vE (eIxV 2 (eVar 3))) (vLst (aCons (eV (v1 seqD (bVar 2))) (aCons (eC .none) (aCons (eTup aNil) (aCons (eSlU (eVar 2) oNone (oSome (eUn negD (eC (.int 1))))) (aCons (eBin addA (eVar 2) (eSlU (eVar 2) oNone (oSome (eC (.int 1))))) (aCons (eC (.dict [])) (aCons (eV (eCallI m__law_deep 0 aNil)) aNil)))))))))
    (sSeq (sSet 6 (eCallI m__law_draw 0 (aCons (eUn lenD (bVar 4)) aNil)))
    (sSeq (sSet 7 (vE (eBin atD (eBin atD (eIxV 1 (eVar 3)) (eC (.int 1))) (eVar 6))))
    (sSeq (sSet 8 (vLst (aCons (eV (v1 seqD (bVar 4))) (aCons (eSlU (eVar 4) oNone (oSome (eUn negD (eC (.int 1))))) (aCons (eBin addA (eVar 4) (eTup (aCons (eTup (aCons (eC (.int 0)) (aCons (eC (.int 1)) aNil))) aNil))) (aCons (eC .none) (aCons (eUn revD (eVar 4)) aNil)))))))
    (sSeq (sSet 9 (vCatE (eV (eCallI m__law_odd_fractions 0 aNil)) (eV (vLst (aCons (eTup (aCons (eC (.int 1)) (aCons (eBin powD (eC (.int 10)) (eC (.int 9))) aNil))) (aCons (eTup (aCons (eBin powD (eC (.int 10)) (eC (.int 9))) (aCons (eC (.int 1)) aNil))) aNil))))))
    (sSeq (sIf (tOf (eBin notND (eVar 7) (eC .none))) (sSeq (sSet 10 (eCall m__law_plus (aCons (eBin atD (eIxV 1 (eVar 3)) (eC (.int 0))) (aCons (eV (eCall m__law_times (aCons (eTup (aCons (eUn negD (eC (.int 1))) (aCons (eC (.int 1)) aNil))) (aCons (eV (eCall m__law_at_work (aCons (eIxV 1 (eVar 3)) (aCons (eVar 4) aNil)))) aNil)))) aNil))))
    (sSeq (sSet 11 (eCall m__law_plus (aCons (eIxV 4 (eVar 6)) (aCons (eV (eCall m__law_over (aCons (eVar 10) (aCons (eVar 7) aNil)))) aNil))))
    (sSet 9 (vCatE (eVar 9) (eV (vLst (aCons (eVar 11) (aCons (eV (eCall m__law_plus (aCons (eVar 11) (aCons (eTup (aCons (eC (.int 1)) (aCons (eBin powD (eC (.int 10)) (eC (.int 6))) aNil))) aNil)))) aNil)))))))) sNil)
    (sSeq (sFor (iSeq (eVar 9)) (gVar 12) (sEx (eApp 8 (vE (eBin addA (eBin addA (eSlU (eVar 4) oNone (oSome (eVar 6))) (eTup (aCons (eVar 12) aNil))) (eSlU (eVar 4) (oSome (eBin addA (eVar 6) (eC (.int 1)))) oNone))))))
    (sRet (vCatE (eVar 5) (eV (vLcN 8 (gVar 13) cYes (eBin addA (eBin addA (eSlU (eVar 2) oNone (oSome (eVar 3))) (eTup (aCons (eVar 13) aNil))) (eSlU (eVar 2) (oSome (eBin addA (eVar 3) (eC (.int 1)))) oNone)) [13]))))))))))))
noncomputable def m__law_sharings_near : List D → List D → Option (Sl × List D) := fnI b__law_sharings_near 14
noncomputable def b_check_lands : Fs := (sIf (tNotT (tOf (eV (eCall m_is_lands (aCons (eVar 0) aNil))))) sNo sNil)
noncomputable def m_check_lands : List D → Option Sl := fnP b_check_lands 1
noncomputable def b_is_sharing_of : Fs := (sSeq (sSet 2 (vE (eUn lenD (bVar 0))))
    (sSeq (sIf (tNotT (tOf (eV (eCall m_is_sized (aCons (eVar 1) (aCons (eVar 2) (aCons (eVar 2) aNil))))))) (sRet (vE (eC (.bool false)))) sNil)
    (sRet (vE (eUn allD (eV (vLc (iEnum' (aCons (eVar 1) aNil)) (gTup (gsCons (gVar 3) (gsCons (gVar 4) gsNil)) 2) cYes (eV (eCall m_is_part (aCons (eVar 0) (aCons (eVar 3) (aCons (eVar 4) aNil))))) [3, 4])))))))
noncomputable def m_is_sharing_of : List D → Option Sl := fnP b_is_sharing_of 5
noncomputable def b_is_sharing : Fs := (sSeq (sEx (eV (eCall m_check_lands (aCons (eVar 0) aNil))))
    (sRet (eCall m_is_sharing_of (aCons (eVar 0) (aCons (eVar 1) aNil)))))
noncomputable def m_is_sharing : List D → Option Sl := fnP b_is_sharing 2
noncomputable def b_check_sharing : Fs := (sSeq (sEx (eV (eCall m_check_lands (aCons (eVar 0) aNil))))
    (sIf (tNotT (tOf (eV (eCall m_is_sharing_of (aCons (eVar 0) (aCons (eVar 1) aNil)))))) sNo sNil))
noncomputable def m_check_sharing : List D → Option Sl := fnP b_check_sharing 2
noncomputable def b_world : Fs := (sSeq (sEx (eV (eCall m_check_sharing (aCons (eVar 0) (aCons (eVar 1) aNil)))))
    (sRet (eCall m_raw_world (aCons (eVar 0) (aCons (eVar 1) aNil)))))
noncomputable def m_world : List D → Option Sl := fnP b_world 2
noncomputable def b__law_is (me : List D → Option Sl) : Fs := (sSeq (sIf (tOf (eUn (isi2D "tuple" "list") (eVar 1))) (sSeq (sIf (tOrT (tOf (eBin neD (eUn (isiD "tuple") (eVar 0)) (eUn (isiD "tuple") (eVar 1)))) (tOf (eBin neD (eUn (isiD "list") (eVar 0)) (eUn (isiD "list") (eVar 1))))) (sRet (vE (eC (.bool false)))) sNil)
    (sRet (vE (eAnd (eBin eqD (eUn lenD (bVar 0)) (eUn lenD (bVar 1))) (eUn allD (eV (vLc (iZipU (aCons (eVar 0) (aCons (eVar 1) aNil))) (gTup (gsCons (gVar 2) (gsCons (gVar 3) gsNil)) 2) cYes (eV (eCall me (aCons (eVar 2) (aCons (eVar 3) aNil)))) [2, 3]))))))) sNil)
    (sSeq (sIf (tOrT (tOf (eBin isND (eVar 1) (eC .none))) (tOf (eBin isND (eVar 0) (eC .none)))) (sRet (vE (eAnd (eBin isND (eVar 1) (eC .none)) (eBin isND (eVar 0) (eC .none))))) sNil)
    (sSeq (sIf (tOrT (tOf (eBin neD (eUn (isiD "bool") (eVar 0)) (eUn (isiD "bool") (eVar 1)))) (tOf (eBin neD (eUn (isiD "int") (eVar 0)) (eUn (isiD "int") (eVar 1))))) (sRet (vE (eC (.bool false)))) sNil)
    (sRet (vE (eAnd (eBin eqD (eUn (isiD "str") (eVar 0)) (eUn (isiD "str") (eVar 1))) (eBin eqD (eVar 0) (eVar 1))))))))
noncomputable def mr__law_is : Nat → List D → Option Sl
  | 0 => fun _ => none
  | n + 1 => fnP (b__law_is (mr__law_is n)) 4
noncomputable def m__law_is : List D → Option Sl := mr__law_is 8
noncomputable def b__law_is_right : Fs := (sSeq (sFor (iSeq (eV (vCatE (eV (vLst (aCons (eVar 1) aNil))) (eV (eCallI m__law_lands_near 0 (aCons (eVar 1) aNil)))))) (gVar 3) (sSeq (sSet 4 (vE (eUn reprD (bVar 3))))
    (sIf (tOrT (tNotT (tOf (eV (eCall m__law_is (aCons (eV (eCall m_is_lands (aCons (eVar 3) aNil))) (aCons (eV (eCall m__law_is_lands (aCons (eVar 3) aNil))) aNil)))))) (tOf (eBin neD (eUn reprD (bVar 3)) (eVar 4)))) (sRet (vE (eC (.bool false)))) sNil)))
    (sSeq (sFor (iSeq (eV (vCatE (eV (vLst (aCons (eVar 2) aNil))) (eV (eCallI m__law_sharings_near 0 (aCons (eVar 1) (aCons (eVar 2) aNil))))))) (gVar 3) (sSeq (sSet 4 (vE (eUn reprD (bVar 3))))
    (sIf (tOrT (tNotT (tOf (eV (eCall m__law_is (aCons (eV (eCall m_is_sharing (aCons (eVar 1) (aCons (eVar 3) aNil)))) (aCons (eV (eCall m__law_is_sharing (aCons (eVar 1) (aCons (eVar 3) aNil)))) aNil)))))) (tOf (eBin neD (eUn reprD (bVar 3)) (eVar 4)))) (sRet (vE (eC (.bool false)))) sNil)))
    (sSeq (sSet 5 (eCallI m__law_drawn_sharing 0 (aCons (eVar 1) (aCons (eC (.bool true)) aNil))))
    (sSeq (sSet 6 (vLst aNil))
    (sSeq (sFor (iZipU (aCons (eVar 2) (aCons (eVar 5) aNil))) (gTup (gsCons (gVar 7) (gsCons (gVar 8) gsNil)) 2) (sEx (eApp 6 (vE (eUn tupD (eV (vLc (iZipU (aCons (eVar 7) (aCons (eVar 8) aNil))) (gTup (gsCons (gVar 11) (gsCons (gVar 12) gsNil)) 2) cYes (eV (eCall m__law_times (aCons (eTup (aCons (eC (.int 1)) (aCons (eC (.int 2)) aNil))) (aCons (eV (eCall m__law_plus (aCons (eVar 11) (aCons (eVar 12) aNil)))) aNil)))) [11, 12])))))))
    (sSeq (sSet 9 (vLst (aCons (eV (eCall m_world (aCons (eVar 1) (aCons (eVar 2) aNil)))) (aCons (eV (eCall m_world (aCons (eVar 1) (aCons (eVar 5) aNil)))) (aCons (eV (eCall m_world (aCons (eVar 1) (aCons (eUn tupD (bVar 6)) aNil)))) aNil)))))
    (sSeq (sIf (tNotT (tOf (eV (eCall m__law_is (aCons (eSlU (eVar 9) oNone (oSome (eC (.int 2)))) (aCons (eV (vLst (aCons (eV (eCall m__law_world (aCons (eVar 1) (aCons (eVar 2) aNil)))) (aCons (eV (eCall m__law_world (aCons (eVar 1) (aCons (eVar 5) aNil)))) aNil)))) aNil)))))) (sRet (vE (eC (.bool false)))) sNil)
    (sSeq (sSet 10 (vE (eUn tupD (eV (vLc (iZipU (aCons (eIxV 9 (eC (.int 0))) (aCons (eIxV 9 (eC (.int 1))) aNil))) (gTup (gsCons (gVar 7) (gsCons (gVar 8) gsNil)) 2) cYes (eV (eCall m__law_times (aCons (eTup (aCons (eC (.int 1)) (aCons (eC (.int 2)) aNil))) (aCons (eV (eCall m__law_plus (aCons (eVar 7) (aCons (eVar 8) aNil)))) aNil)))) [7, 8])))))
    (sRet (vE (eAnd (eV (eCall m__law_is (aCons (eIxV 9 (eC (.int 2))) (aCons (eVar 10) aNil)))) (eBin isBD (eV (eCall m_is_sharing (aCons (eVar 1) (aCons (eUn tupD (bVar 6)) aNil)))) (eC (.bool true))))))))))))))
noncomputable def m__law_is_right : List D → List D → Option (Sl × List D) := fnI b__law_is_right 13
noncomputable def b__law_is_known_right : Fs := (sSeq (sSet 0 (vE (eTup (aCons (eTup (aCons (eTup (aCons (eC (.int 100)) (aCons (eC (.int 1)) aNil))) (aCons (eTup (aCons (eTup (aCons (eC (.int 1)) (aCons (eC (.int 1)) aNil))) (aCons (eTup (aCons (eC (.int 2)) (aCons (eC (.int 1)) aNil))) aNil))) aNil))) (aCons (eTup (aCons (eTup (aCons (eC (.int 60)) (aCons (eC (.int 1)) aNil))) (aCons (eTup (aCons (eTup (aCons (eC (.int 3)) (aCons (eC (.int 1)) aNil))) (aCons (eC .none) aNil))) aNil))) aNil)))))
    (sSeq (sSet 1 (vLst (aCons (eTup (aCons (eTup (aCons (eTup (aCons (eC (.int 0)) (aCons (eC (.int 1)) aNil))) (aCons (eTup (aCons (eC (.int 50)) (aCons (eC (.int 1)) aNil))) aNil))) (aCons (eTup (aCons (eTup (aCons (eC (.int 20)) (aCons (eC (.int 1)) aNil))) (aCons (eTup (aCons (eC (.int 0)) (aCons (eC (.int 1)) aNil))) aNil))) aNil))) (aCons (eTup (aCons (eTup (aCons (eTup (aCons (eC (.int 0)) (aCons (eC (.int 1)) aNil))) (aCons (eTup (aCons (eC (.int 51)) (aCons (eC (.int 1)) aNil))) aNil))) (aCons (eTup (aCons (eTup (aCons (eC (.int 20)) (aCons (eC (.int 1)) aNil))) (aCons (eTup (aCons (eC (.int 0)) (aCons (eC (.int 1)) aNil))) aNil))) aNil))) aNil))))
    (sSeq (sSet 2 (vLst (aCons (eV (eCall m_is_lands (aCons (eVar 0) aNil))) (aCons (eV (eCall m_is_sharing (aCons (eVar 0) (aCons (eIxV 1 (eC (.int 0))) aNil)))) (aCons (eV (eCall m_is_sharing (aCons (eVar 0) (aCons (eIxV 1 (eC (.int 1))) aNil)))) (aCons (eV (eCall m_is_lands (aCons (eSlU (eVar 0) (oSome (eC (.int 1))) oNone) aNil))) aNil))))))
    (sRet (eCall m__law_is (aCons (eV (vLst (aCons (eVar 2) (aCons (eV (eCall m_world (aCons (eVar 0) (aCons (eIxV 1 (eC (.int 0))) aNil)))) aNil)))) (aCons (eV (vLst (aCons (eV (vLst (aCons (eC (.bool true)) (aCons (eC (.bool true)) (aCons (eC (.bool false)) (aCons (eC (.bool false)) aNil)))))) (aCons (eTup (aCons (eTup (aCons (eC (.int 20)) (aCons (eC (.int 1)) aNil))) (aCons (eTup (aCons (eC (.int 50)) (aCons (eC (.int 1)) aNil))) aNil))) aNil)))) aNil)))))))
noncomputable def m__law_is_known_right : List D → Option Sl := fnP b__law_is_known_right 3
noncomputable def b_law : Fs := (sSeq (sSet 1 (eCall m__law_hand (aCons (eVar 0) aNil)))
    (sSeq (sIf (tNotT (tOf (eV (eCall m__law_is_known_right aNil)))) (sRet (vE (eC (.bool false)))) sNil)
    (sSeq (sFor (iRange1 (aCons (eC (.int 3)) aNil)) (gVar 2) (sSeq (sSet 3 (eCallI m__law_drawn_lands 1 (aCons (eBin addA (eC (.int 1)) (eV (eCallI m__law_draw 1 (aCons (eC (.int 4)) aNil)))) (aCons (eBin addA (eC (.int 1)) (eV (eCallI m__law_draw 1 (aCons (eC (.int 4)) aNil)))) aNil))))
    (sSeq (sSet 4 (eCallI m__law_drawn_sharing 1 (aCons (eVar 3) (aCons (eBin eqD (eV (eCallI m__law_draw 1 (aCons (eC (.int 2)) aNil))) (eC (.int 0))) aNil))))
    (sIf (tNotT (tOf (eV (eCallI m__law_is_right 1 (aCons (eVar 3) (aCons (eVar 4) aNil)))))) (sRet (vE (eC (.bool false)))) sNil))))
    (sRet (vE (eC (.bool true)))))))
noncomputable def m_law : List D → Option Sl := fnP b_law 5
end K64
set_option Elab.async false
set_option linter.all false
set_option maxRecDepth 100000
namespace K64
open PySem Dl

theorem gcd_fmod (a b : Int) : Int.gcd b (a.fmod b) = Int.gcd a b := by
  rw [Int.fmod_def, Int.gcd_sub_mul_left_right, Int.gcd_comm]
theorem fmod_lt (a b : Int) (h : b ≠ 0) : (a.fmod b).natAbs < b.natAbs := by
  rcases Int.lt_or_gt_of_ne h with h | h
  · have e : a.fmod b = -((-a).fmod (-b)) := by rw [Int.neg_fmod_neg]; omega
    have h1 := Int.fmod_nonneg_of_pos (-a) (b := -b) (by omega)
    have h2 := Int.fmod_lt_of_pos (-a) (b := -b) (by omega)
    omega
  · have h1 := Int.fmod_nonneg_of_pos a h
    have h2 := Int.fmod_lt_of_pos a h
    omega
theorem common_loop : ∀ (n : Nat) (a b : Int), b.natAbs ≤ n → ∃ c : Int, c.natAbs = Int.gcd a b ∧
    sWhile (tOf (eBin neD (eVar 1) (eC (.int 0)))) (sPar 0 1 (vE (eVar 1)) (vE (eBin modD (eVar 0) (eVar 1)))) [.v (.int a), .v (.int b)] = some (.nx [.v (.int c), .v (.int 0)]) := by
  intro n
  induction n with
  | zero =>
    intro a b h
    have : b = 0 := by omega
    subst this
    refine ⟨a, by simp, sWhile_stop ?_⟩
    simp [fnP, runG, sSeq, sIf, sNil, sRet, sRetV, sSet, setOut, sPar, parOut, sEx, eVar, bVar, eC, eV, dat, vE, eBin, eUn, eTup, vLst, aCons, aNil, eIxV, slD, atD, L2.atI, L2.ixN, eCall, tOf, truD, Dl.tAndT, Dl.tOrT, Dl.tNotT, eAnd, eOr, eIf, notD, eChain, addA_int, subD, negD, absD, lenD, Dl.intD, tupD, cmpD, eqD_ii, neD_ii, eqD_ss, neD_ss, isi_ii, isi_ib, isi_is, isi_it, isi_tt, isi_ti, isi_ts, isi_ss, isi_si, isi_st]
  | succ n ih =>
    intro a b h
    by_cases hb : b = 0
    · subst hb
      refine ⟨a, by simp, sWhile_stop ?_⟩
      simp [fnP, runG, sSeq, sIf, sNil, sRet, sRetV, sSet, setOut, sPar, parOut, sEx, eVar, bVar, eC, eV, dat, vE, eBin, eUn, eTup, vLst, aCons, aNil, eIxV, slD, atD, L2.atI, L2.ixN, eCall, tOf, truD, Dl.tAndT, Dl.tOrT, Dl.tNotT, eAnd, eOr, eIf, notD, eChain, addA_int, subD, negD, absD, lenD, Dl.intD, tupD, cmpD, eqD_ii, neD_ii, eqD_ss, neD_ss, isi_ii, isi_ib, isi_is, isi_it, isi_tt, isi_ti, isi_ts, isi_ss, isi_si, isi_st]
    · have := fmod_lt a b hb
      obtain ⟨c, h1, h2⟩ := ih b (a.fmod b) (by omega)
      refine ⟨c, by rw [h1, gcd_fmod], ?_⟩
      refine sWhile_nx (g1 := [.v (.int a), .v (.int b)]) ?_ ?_ h2
      · simp [fnP, runG, sSeq, sIf, sNil, sRet, sRetV, sSet, setOut, sPar, parOut, sEx, eVar, bVar, eC, eV, dat, vE, eBin, eUn, eTup, vLst, aCons, aNil, eIxV, slD, atD, L2.atI, L2.ixN, eCall, tOf, truD, Dl.tAndT, Dl.tOrT, Dl.tNotT, eAnd, eOr, eIf, notD, eChain, addA_int, subD, negD, absD, lenD, Dl.intD, tupD, cmpD, eqD_ii, neD_ii, eqD_ss, neD_ss, isi_ii, isi_ib, isi_is, isi_it, isi_tt, isi_ti, isi_ts, isi_ss, isi_si, isi_st, hb]
      · simp [fnP, runG, sSeq, sIf, sNil, sRet, sRetV, sSet, setOut, sPar, parOut, sEx, eVar, bVar, eC, eV, dat, vE, eBin, eUn, eTup, vLst, aCons, aNil, eIxV, slD, atD, L2.atI, L2.ixN, eCall, tOf, truD, Dl.tAndT, Dl.tOrT, Dl.tNotT, eAnd, eOr, eIf, notD, eChain, addA_int, subD, negD, absD, lenD, Dl.intD, tupD, cmpD, eqD_ii, neD_ii, eqD_ss, neD_ss, isi_ii, isi_ib, isi_is, isi_it, isi_tt, isi_ti, isi_ts, isi_ss, isi_si, isi_st, modD, hb]
theorem common_ok (a b : Int) : m_common [.int a, .int b] = some (.v (.int (Int.gcd a b))) := by
  obtain ⟨c, h1, h2⟩ := common_loop _ a b (Nat.le_refl _)
  unfold m_common b_common
  simp [fnP, runG, sSeq, sIf, sNil, sRet, sRetV, sSet, setOut, sPar, parOut, sEx, eVar, bVar, eC, eV, dat, vE, eBin, eUn, eTup, vLst, aCons, aNil, eIxV, slD, atD, L2.atI, L2.ixN, eCall, tOf, truD, Dl.tAndT, Dl.tOrT, Dl.tNotT, eAnd, eOr, eIf, notD, eChain, addA_int, subD, negD, absD, lenD, Dl.intD, tupD, cmpD, eqD_ii, neD_ii, eqD_ss, neD_ss, isi_ii, isi_ib, isi_is, isi_it, isi_tt, isi_ti, isi_ts, isi_ss, isi_si, isi_st, h2]
  omega
theorem low_loop (x y : Sl) : ∀ (n : Nat) (a b : Int), b.natAbs ≤ n → 0 ≤ a → 0 ≤ b →
    sWhile (tOf (eBin gtD (eVar 3) (eC (.int 0)))) (sPar 2 3 (vE (eVar 3)) (vE (eBin modD (eUn intD (bVar 2)) (eVar 3)))) [x, y, .v (.int a), .v (.int b)] = some (.nx [x, y, .v (.int (Int.gcd a b)), .v (.int 0)]) := by
  intro n
  induction n with
  | zero =>
    intro a b h h0 h1
    have : b = 0 := by omega
    subst this
    have e : ((Int.gcd a 0 : Nat) : Int) = a := by simp; omega
    rw [e]
    exact sWhile_stop (tOf_b (eBin_of (f := eVar 3) (h := eC (.int 0)) rfl rfl (gtD_f (by decide))))
  | succ n ih =>
    intro a b h h0 hb0
    by_cases hb : b = 0
    · subst hb
      have e : ((Int.gcd a 0 : Nat) : Int) = a := by simp; omega
      rw [e]
      exact sWhile_stop (tOf_b (eBin_of (f := eVar 3) (h := eC (.int 0)) rfl rfl (gtD_f (by decide))))
    · have := fmod_lt a b hb
      have h2 := ih b (a.fmod b) (by omega) hb0 (Int.fmod_nonneg h0 hb0)
      rw [gcd_fmod] at h2
      refine sWhile_nx (g1 := [x, y, .v (.int a), .v (.int b)]) (tOf_b (eBin_of (f := eVar 3) (h := eC (.int 0)) rfl rfl (gtD_t (by omega)))) ?_ h2
      exact par_of (i := 2) (j := 3) (g1 := [x, y, .v (.int a), .v (.int b)]) rfl (vE_of (eBin_of (f := eUn Dl.intD (bVar 2)) (h := eVar 3) rfl rfl (modD_of hb)))
def qD (r : Rat) : D := .tuple [.int r.num, .int r.den]
theorem fdiv_gcd {a b : Int} (hb : 0 < b) : a.fdiv (Int.gcd a b) = (Rat.divInt a b).num ∧ b.fdiv (Int.gcd a b) = (Rat.divInt a b).den := by
  have h1 : (0 : Int) ≤ (Int.gcd a b : Nat) := by omega
  rw [Int.fdiv_eq_ediv_of_nonneg _ h1, Int.fdiv_eq_ediv_of_nonneg _ h1, Rat.num_divInt, Rat.den_divInt]
  have h2 : b ≠ 0 := by omega
  rw [if_neg h2, Int.sign_eq_one_of_pos hb, Int.one_mul, Int.gcd_comm a b]
  refine ⟨rfl, ?_⟩
  rw [Int.natCast_ediv]
  have : (b.natAbs : Int) = b := by omega
  rw [this]
theorem gcd_okD {a b : Int} (hb : 0 < b) (hB : Int.gcd a b < 2 ^ 8900) : DivOk (Int.gcd a b) = true := by
  have h2 : 0 < Int.gcd a b := Int.gcd_pos_of_ne_zero_right _ (by omega)
  have h3 := log_lt (k := 8900) (by decide) hB
  unfold DivOk
  simp
  omega
theorem low_ok {a b : Int} (hb : 0 < b) (hB : Int.gcd a b < 2 ^ 8900) : m__law_low [.int a, .int b] = some (.v (qD (Rat.divInt a b))) := by
  have e1 : (if a < 0 then -a else a) = (a.natAbs : Int) := by split <;> omega
  have e2 : (if b < 0 then -b else b) = (b.natAbs : Int) := by split <;> omega
  have h2 := low_loop (.v (.int a)) (.v (.int b)) _ (a.natAbs : Int) (b.natAbs : Int) (Nat.le_refl _) (by omega) (by omega)
  have e3 : Int.gcd (a.natAbs : Int) (b.natAbs : Int) = Int.gcd a b := by simp [Int.gcd]
  rw [e3] at h2
  obtain ⟨k1, k2⟩ := fdiv_gcd (a := a) hb
  have k3 := gcd_okD (a := a) hb hB
  unfold m__law_low b__law_low
  simp [fnP, runG, sSeq, sIf, sNil, sRet, sRetV, sSet, setOut, sPar, parOut, sEx, eVar, bVar, eC, eV, dat, vE, eBin, eUn, eTup, vLst, aCons, aNil, eIxV, slD, atD, L2.atI, L2.ixN, eCall, tOf, truD, Dl.tAndT, Dl.tOrT, Dl.tNotT, eAnd, eOr, eIf, notD, eChain, addA_int, subD, negD, absD, lenD, Dl.intD, tupD, cmpD, eqD_ii, neD_ii, eqD_ss, neD_ss, isi_ii, isi_ib, isi_is, isi_it, isi_tt, isi_ti, isi_ts, isi_ss, isi_si, isi_st, e1, e2, h2, hb, fdivD, k3, k1, k2, qD, gtD_ii]
theorem share_ok {a b : Int} (hb : 0 < b) (hB : Int.gcd a b < 2 ^ 8900) : m_share [.int a, .int b] = some (.v (qD (Rat.divInt a b))) := by
  obtain ⟨k1, k2⟩ := fdiv_gcd (a := a) hb
  have k3 := gcd_okD (a := a) hb hB
  have hb2 : ¬ b < 0 := by omega
  unfold m_share b_share
  simp [fnP, runG, sSeq, sIf, sNil, sRet, sRetV, sSet, setOut, sPar, parOut, sEx, eVar, bVar, eC, eV, dat, vE, eBin, eUn, eTup, vLst, aCons, aNil, eIxV, slD, atD, L2.atI, L2.ixN, eCall, tOf, truD, Dl.tAndT, Dl.tOrT, Dl.tNotT, eAnd, eOr, eIf, notD, eChain, addA_int, subD, negD, absD, lenD, Dl.intD, tupD, cmpD, eqD_ii, neD_ii, eqD_ss, neD_ss, isi_ii, isi_ib, isi_is, isi_it, isi_tt, isi_ti, isi_ts, isi_ss, isi_si, isi_st, common_ok, hb2, fdivD, k3, k1, k2, qD]

/-! ### how great a common part can be -/
theorem red (r : Rat) : Int.gcd r.num (r.den : Int) = 1 := by
  have := r.reduced
  simpa [Int.gcd] using this
theorem gcd_le_den (a : Int) {b : Int} (hb : 0 < b) : Int.gcd a b ≤ b.natAbs := Nat.le_of_dvd (by omega) (by rw [← Int.natAbs_natCast (Int.gcd a b)]; exact Int.natAbs_dvd_natAbs.mpr (Int.gcd_dvd_right ..))
theorem add_gcd (r s : Rat) : Int.gcd (r.num * (s.den : Int) + s.num * (r.den : Int)) ((r.den : Int) * (s.den : Int)) ≤ s.den * s.den := by
  obtain ⟨g, hg⟩ : ∃ g, g = Int.gcd (r.num * (s.den : Int) + s.num * (r.den : Int)) ((r.den : Int) * (s.den : Int)) := ⟨_, rfl⟩
  have g1 : (g : Int) ∣ r.num * (s.den : Int) + s.num * (r.den : Int) := by rw [hg]; exact Int.gcd_dvd_left ..
  have g2 : (g : Int) ∣ (r.den : Int) * (s.den : Int) := by rw [hg]; exact Int.gcd_dvd_right ..
  rw [← hg]
  have e1 : (g : Int) ∣ r.num * ((s.den : Int) * (s.den : Int)) := by
    have h1 := Int.dvd_sub (Int.dvd_mul_of_dvd_right (b := (s.den : Int)) g1) (Int.dvd_mul_of_dvd_right (b := s.num) g2)
    have e : (s.den : Int) * (r.num * (s.den : Int) + s.num * (r.den : Int)) - s.num * ((r.den : Int) * (s.den : Int)) = r.num * ((s.den : Int) * (s.den : Int)) := by grind
    rw [e] at h1
    exact h1
  have e2 : (g : Int) ∣ (r.den : Int) * ((s.den : Int) * (s.den : Int)) := by
    have h1 := Int.dvd_mul_of_dvd_right (b := (s.den : Int)) g2
    have e : (s.den : Int) * ((r.den : Int) * (s.den : Int)) = (r.den : Int) * ((s.den : Int) * (s.den : Int)) := by grind
    rw [e] at h1
    exact h1
  have e3 : g ∣ Int.gcd (r.num * ((s.den : Int) * (s.den : Int))) ((r.den : Int) * ((s.den : Int) * (s.den : Int))) := Int.dvd_gcd e1 e2
  rw [Int.gcd_mul_right, red, Nat.one_mul, Int.natAbs_mul, Int.natAbs_natCast] at e3
  exact Nat.le_of_dvd (Nat.mul_pos s.den_pos s.den_pos) e3
end K64
set_option Elab.async false
set_option linter.all false
set_option maxRecDepth 100000
namespace K64
open PySem Dl

structure B0 (k : Nat) (r : Rat) : Prop where
  num : r.num.natAbs < 2 ^ k
  den : r.den < 2 ^ k
theorem mul_rat (r s : Rat) : Rat.divInt (r.num * s.num) ((r.den : Int) * (s.den : Int)) = r * s := by
  rw [Rat.mul_def', ← Int.natCast_mul, Rat.divInt_ofNat]
theorem add_rat (r s : Rat) : Rat.divInt (r.num * (s.den : Int) + s.num * (r.den : Int)) ((r.den : Int) * (s.den : Int)) = r + s := by
  rw [Rat.add_def', ← Int.natCast_mul, Rat.divInt_ofNat]
theorem add_rat' (r s : Rat) (h : r.den = s.den) : Rat.divInt (r.num + s.num) (r.den : Int) = r + s := by
  have hd : (r.den : Int) ≠ 0 := by have := r.den_pos; omega
  rw [← add_rat, ← h, ← Int.add_mul, Rat.divInt_mul_right hd]
theorem div_rat (r s : Rat) : Rat.divInt (r.num * (s.den : Int)) ((r.den : Int) * s.num) = r / s := by
  have h := Rat.divInt_mul_divInt r.num (s.den : Int) (d₁ := (r.den : Int)) (d₂ := s.num)
  rw [← h, Rat.num_divInt_den, Rat.div_def, Rat.inv_def]
theorem natAbs_lt {n m : Nat} (h : n < m) : ((n : Nat) : Int).natAbs < m := by rw [Int.natAbs_natCast]; exact h
theorem lt_mul2 {a b c d : Nat} (h1 : a < 2 ^ c) (h2 : b < 2 ^ d) : a * b < 2 ^ (c + d) := by
  rw [Nat.pow_add]
  exact Nat.mul_lt_mul'' h1 h2
theorem B0.add {j k : Nat} {r s : Rat} (hr : B0 j r) (hs : B0 k s) : B0 (j + k + 1) (r + s) := by
  have hrd := r.den_pos
  have hsd := s.den_pos
  rw [← add_rat]
  have hb : 0 < (r.den : Int) * (s.den : Int) := Int.mul_pos (by omega) (by omega)
  have h1 := lt_mul2 hr.num hs.den
  have h2 := lt_mul2 hs.num hr.den
  have h4 := lt_mul2 hr.den hs.den
  rw [Nat.add_comm k j] at h2
  have h3 := Int.natAbs_add_le (r.num * (s.den : Int)) (s.num * (r.den : Int))
  rw [Int.natAbs_mul, Int.natAbs_mul] at h3
  simp only [Int.natAbs_natCast] at h3
  refine ⟨?_, ?_⟩
  · rw [Rat.num_divInt, Int.sign_eq_one_of_pos hb, Int.one_mul, Nat.pow_succ]
    have := Int.natAbs_ediv_le_natAbs (r.num * (s.den : Int) + s.num * (r.den : Int)) ((Int.gcd ((r.den : Int) * (s.den : Int)) (r.num * (s.den : Int) + s.num * (r.den : Int)) : Nat) : Int)
    omega
  · rw [Rat.den_divInt, if_neg (by omega), Nat.pow_succ]
    have := Nat.div_le_self ((r.den : Int) * (s.den : Int)).natAbs (Int.gcd ((r.den : Int) * (s.den : Int)) (r.num * (s.den : Int) + s.num * (r.den : Int)))
    rw [Int.natAbs_mul, Int.natAbs_natCast, Int.natAbs_natCast] at this
    rw [Int.natAbs_mul, Int.natAbs_natCast, Int.natAbs_natCast]
    omega
theorem B0.mono {j k : Nat} {r : Rat} (h : B0 j r) (e : j ≤ k) : B0 k r := by
  have := Nat.pow_le_pow_right (n := 2) (by decide) e
  exact ⟨by have := h.num; omega, by have := h.den; omega⟩
theorem divInt_b0 {a b : Int} {k : Nat} (hb : 0 < b) (h1 : a.natAbs < 2 ^ k) (h2 : b.natAbs < 2 ^ k) : B0 k (Rat.divInt a b) := by
  refine ⟨?_, ?_⟩
  · rw [Rat.num_divInt, Int.sign_eq_one_of_pos hb, Int.one_mul]
    have := Int.natAbs_ediv_le_natAbs a ((Int.gcd b a : Nat) : Int)
    omega
  · rw [Rat.den_divInt, if_neg (by omega)]
    exact Nat.lt_of_le_of_lt (Nat.div_le_self ..) h2
theorem B0.mul {j k : Nat} {r s : Rat} (hr : B0 j r) (hs : B0 k s) : B0 (j + k) (r * s) := by
  rw [← mul_rat]
  refine divInt_b0 (Int.mul_pos (by have := r.den_pos; omega) (by have := s.den_pos; omega)) ?_ ?_
  · rw [Int.natAbs_mul]; exact lt_mul2 hr.num hs.num
  · rw [Int.natAbs_mul]; exact lt_mul2 (natAbs_lt hr.den) (natAbs_lt hs.den)
theorem B0.neg {k : Nat} {r : Rat} (h : B0 k r) : B0 k (-r) := ⟨by rw [Rat.neg_num, Int.natAbs_neg]; exact h.num, by rw [Rat.neg_den]; exact h.den⟩
theorem b0_zero {k : Nat} (hk : 1 ≤ k) : B0 k 0 := B0.mono (j := 1) ⟨by decide, by decide⟩ hk

/-! ### the program's and the law's fractions -/
theorem mulOk_of {j k : Nat} {a b : Int} (hj : 0 < j) (hk : 0 < k) (h1 : a.natAbs < 2 ^ j) (h2 : b.natAbs < 2 ^ k) (h : j + k ≤ 1000000) : Dl.MulOk a b = true := by
  have := log_lt hj h1
  have := log_lt hk h2
  unfold Dl.MulOk
  simp only [Bool.or_eq_true, decide_eq_true_eq]
  left; left
  omega
theorem sq_lt {d k n : Nat} (h : d < 2 ^ k) (e : k + k ≤ n) : d * d < 2 ^ n := Nat.lt_of_lt_of_le (lt_mul2 h h) (Nat.pow_le_pow_right (by decide) e)
section
variable {r s : Rat} (hr : B0 400000 r) (hs : B0 4400 s)
include hr hs
theorem gAdd : Int.gcd (r.num * (s.den : Int) + s.num * (r.den : Int)) ((r.den : Int) * (s.den : Int)) < 2 ^ 8900 := Nat.lt_of_le_of_lt (add_gcd r s) (sq_lt hs.den (by decide))
theorem law_plus_ok : m__law_plus [qD r, qD s] = some (.v (qD (r + s))) := by
  have k1 := mulOk_of (a := r.num) (b := (s.den : Int)) (by decide) (by decide) hr.num (natAbs_lt hs.den) (by decide)
  have k2 := mulOk_of (a := s.num) (b := (r.den : Int)) (by decide) (by decide) hs.num (natAbs_lt hr.den) (by decide)
  have k3 := mulOk_of (a := (r.den : Int)) (b := (s.den : Int)) (by decide) (by decide) (natAbs_lt hr.den) (natAbs_lt hs.den) (by decide)
  have k4 := low_ok (a := r.num * (s.den : Int) + s.num * (r.den : Int)) (Int.mul_pos (by have := r.den_pos; omega) (by have := s.den_pos; omega)) (gAdd hr hs)
  rw [add_rat] at k4
  unfold m__law_plus b__law_plus qD
  simp [fnP, runG, sSeq, sIf, sNil, sRet, sRetV, sSet, setOut, sPar, parOut, sEx, eVar, bVar, eC, eV, dat, vE, eBin, eUn, eTup, vLst, aCons, aNil, eIxV, slD, atD, L2.atI, L2.ixN, eCall, tOf, truD, Dl.tAndT, Dl.tOrT, Dl.tNotT, eAnd, eOr, eIf, notD, eChain, addA_int, subD, negD, absD, lenD, Dl.intD, tupD, cmpD, eqD_ii, neD_ii, eqD_ss, neD_ss, isi_ii, isi_ib, isi_is, isi_it, isi_tt, isi_ti, isi_ts, isi_ss, isi_si, isi_st, mulD, k1, k2, k3, k4]
  rfl
theorem plus_ok : m_plus [qD r, qD s] = some (.v (qD (r + s))) := by
  have k1 := mulOk_of (a := r.num) (b := (s.den : Int)) (by decide) (by decide) hr.num (natAbs_lt hs.den) (by decide)
  have k2 := mulOk_of (a := s.num) (b := (r.den : Int)) (by decide) (by decide) hs.num (natAbs_lt hr.den) (by decide)
  have k3 := mulOk_of (a := (r.den : Int)) (b := (s.den : Int)) (by decide) (by decide) (natAbs_lt hr.den) (natAbs_lt hs.den) (by decide)
  have k4 := share_ok (a := r.num * (s.den : Int) + s.num * (r.den : Int)) (Int.mul_pos (by have := r.den_pos; omega) (by have := s.den_pos; omega)) (gAdd hr hs)
  rw [add_rat] at k4
  by_cases h : r.den = s.den
  · have k5 := share_ok (a := r.num + s.num) (b := (r.den : Int)) (by have := r.den_pos; omega) (by
      have h0 := hs.den
      rw [← h] at h0
      have h1 := gcd_le_den (r.num + s.num) (b := (r.den : Int)) (by have := r.den_pos; omega)
      have : (2:Nat) ^ 4400 ≤ 2 ^ 8900 := Nat.pow_le_pow_right (by decide) (by decide)
      rw [Int.natAbs_natCast] at h1
      omega)
    rw [add_rat' _ _ h] at k5
    unfold m_plus b_plus qD
    have h' : (r.den : Int) = (s.den : Int) := by omega
    rw [h'] at k5
    rw [h']
    simp [fnP, runG, sSeq, sIf, sNil, sRet, sRetV, sSet, setOut, sPar, parOut, sEx, eVar, bVar, eC, eV, dat, vE, eBin, eUn, eTup, vLst, aCons, aNil, eIxV, slD, atD, L2.atI, L2.ixN, eCall, tOf, truD, Dl.tAndT, Dl.tOrT, Dl.tNotT, eAnd, eOr, eIf, notD, eChain, addA_int, subD, negD, absD, lenD, Dl.intD, tupD, cmpD, eqD_ii, neD_ii, eqD_ss, neD_ss, isi_ii, isi_ib, isi_is, isi_it, isi_tt, isi_ti, isi_ts, isi_ss, isi_si, isi_st, mulD, k5]
    rfl
  · have h' : ¬ (r.den : Int) = (s.den : Int) := by omega
    unfold m_plus b_plus qD
    simp [fnP, runG, sSeq, sIf, sNil, sRet, sRetV, sSet, setOut, sPar, parOut, sEx, eVar, bVar, eC, eV, dat, vE, eBin, eUn, eTup, vLst, aCons, aNil, eIxV, slD, atD, L2.atI, L2.ixN, eCall, tOf, truD, Dl.tAndT, Dl.tOrT, Dl.tNotT, eAnd, eOr, eIf, notD, eChain, addA_int, subD, negD, absD, lenD, Dl.intD, tupD, cmpD, eqD_ii, neD_ii, eqD_ss, neD_ss, isi_ii, isi_ib, isi_is, isi_it, isi_tt, isi_ti, isi_ts, isi_ss, isi_si, isi_st, mulD, h, h', k1, k2, k3, k4]
    rfl
end
section
variable {r s : Rat} (hr : B0 4400 r) (hs : B0 4400 s)
include hr hs
theorem gMul : Int.gcd (r.num * s.num) ((r.den : Int) * (s.den : Int)) < 2 ^ 8900 := by
  have h1 := gcd_le_den (r.num * s.num) (b := (r.den : Int) * (s.den : Int)) (Int.mul_pos (by have := r.den_pos; omega) (by have := s.den_pos; omega))
  rw [Int.natAbs_mul] at h1
  exact Nat.lt_of_le_of_lt h1 (Nat.lt_of_lt_of_le (lt_mul2 (natAbs_lt hr.den) (natAbs_lt hs.den)) (Nat.pow_le_pow_right (by decide) (by decide)))
theorem law_times_ok : m__law_times [qD r, qD s] = some (.v (qD (r * s))) := by
  have k1 := mulOk_of (by decide) (by decide) hr.num hs.num (by decide)
  have k2 := mulOk_of (a := (r.den : Int)) (b := (s.den : Int)) (by decide) (by decide) (natAbs_lt hr.den) (natAbs_lt hs.den) (by decide)
  have k3 := low_ok (a := r.num * s.num) (Int.mul_pos (by have := r.den_pos; omega) (by have := s.den_pos; omega)) (gMul hr hs)
  rw [mul_rat] at k3
  unfold m__law_times b__law_times qD
  simp [fnP, runG, sSeq, sIf, sNil, sRet, sRetV, sSet, setOut, sPar, parOut, sEx, eVar, bVar, eC, eV, dat, vE, eBin, eUn, eTup, vLst, aCons, aNil, eIxV, slD, atD, L2.atI, L2.ixN, eCall, tOf, truD, Dl.tAndT, Dl.tOrT, Dl.tNotT, eAnd, eOr, eIf, notD, eChain, addA_int, subD, negD, absD, lenD, Dl.intD, tupD, cmpD, eqD_ii, neD_ii, eqD_ss, neD_ss, isi_ii, isi_ib, isi_is, isi_it, isi_tt, isi_ti, isi_ts, isi_ss, isi_si, isi_st, mulD, k1, k2, k3]
  rfl
theorem times_ok : m_times [qD r, qD s] = some (.v (qD (r * s))) := by
  have k1 := mulOk_of (by decide) (by decide) hr.num hs.num (by decide)
  have k2 := mulOk_of (a := (r.den : Int)) (b := (s.den : Int)) (by decide) (by decide) (natAbs_lt hr.den) (natAbs_lt hs.den) (by decide)
  have k3 := share_ok (a := r.num * s.num) (Int.mul_pos (by have := r.den_pos; omega) (by have := s.den_pos; omega)) (gMul hr hs)
  rw [mul_rat] at k3
  unfold m_times b_times qD
  simp [fnP, runG, sSeq, sIf, sNil, sRet, sRetV, sSet, setOut, sPar, parOut, sEx, eVar, bVar, eC, eV, dat, vE, eBin, eUn, eTup, vLst, aCons, aNil, eIxV, slD, atD, L2.atI, L2.ixN, eCall, tOf, truD, Dl.tAndT, Dl.tOrT, Dl.tNotT, eAnd, eOr, eIf, notD, eChain, addA_int, subD, negD, absD, lenD, Dl.intD, tupD, cmpD, eqD_ii, neD_ii, eqD_ss, neD_ss, isi_ii, isi_ib, isi_is, isi_it, isi_tt, isi_ti, isi_ts, isi_ss, isi_si, isi_st, mulD, k1, k2, k3]
  rfl
end
theorem num_pos {s : Rat} (h : 0 < s) : 0 < s.num := by
  have := (Rat.lt_iff _ _).mp h
  simpa using this
section
variable {r s : Rat} (hr : B0 4400 r) (hs : B0 4400 s) (h0 : 0 < s)
include hr hs h0
theorem gDiv : Int.gcd (r.num * (s.den : Int)) ((r.den : Int) * s.num) < 2 ^ 8900 := by
  have h1 := gcd_le_den (r.num * (s.den : Int)) (b := (r.den : Int) * s.num) (Int.mul_pos (by have := r.den_pos; omega) (num_pos h0))
  rw [Int.natAbs_mul] at h1
  exact Nat.lt_of_le_of_lt h1 (Nat.lt_of_lt_of_le (lt_mul2 (natAbs_lt hr.den) hs.num) (Nat.pow_le_pow_right (by decide) (by decide)))
theorem law_over_ok : m__law_over [qD r, qD s] = some (.v (qD (r / s))) := by
  have k1 := mulOk_of (a := r.num) (b := (s.den : Int)) (by decide) (by decide) hr.num (natAbs_lt hs.den) (by decide)
  have k2 := mulOk_of (a := (r.den : Int)) (b := s.num) (by decide) (by decide) (natAbs_lt hr.den) hs.num (by decide)
  have k3 := low_ok (a := r.num * (s.den : Int)) (Int.mul_pos (by have := r.den_pos; omega) (num_pos h0)) (gDiv hr hs h0)
  rw [div_rat] at k3
  unfold m__law_over b__law_over qD
  simp [fnP, runG, sSeq, sIf, sNil, sRet, sRetV, sSet, setOut, sPar, parOut, sEx, eVar, bVar, eC, eV, dat, vE, eBin, eUn, eTup, vLst, aCons, aNil, eIxV, slD, atD, L2.atI, L2.ixN, eCall, tOf, truD, Dl.tAndT, Dl.tOrT, Dl.tNotT, eAnd, eOr, eIf, notD, eChain, addA_int, subD, negD, absD, lenD, Dl.intD, tupD, cmpD, eqD_ii, neD_ii, eqD_ss, neD_ss, isi_ii, isi_ib, isi_is, isi_it, isi_tt, isi_ti, isi_ts, isi_ss, isi_si, isi_st, mulD, k1, k2, k3]
  rfl
theorem B0.div' : B0 8800 (r / s) := by
  rw [← div_rat]
  refine divInt_b0 (Int.mul_pos (by have := r.den_pos; omega) (num_pos h0)) ?_ ?_
  · rw [Int.natAbs_mul]; exact lt_mul2 hr.num (natAbs_lt hs.den)
  · rw [Int.natAbs_mul]; exact lt_mul2 (natAbs_lt hr.den) hs.num
end
theorem B0.div {j k : Nat} {r s : Rat} (hr : B0 j r) (hs : B0 k s) (h0 : 0 < s) : B0 (j + k) (r / s) := by
  rw [← div_rat]
  refine divInt_b0 (Int.mul_pos (by have := r.den_pos; omega) (num_pos h0)) ?_ ?_
  · rw [Int.natAbs_mul]; exact lt_mul2 hr.num (natAbs_lt hs.den)
  · rw [Int.natAbs_mul]; exact lt_mul2 (natAbs_lt hr.den) hs.num
section
variable {r s : Rat} (hr : B0 4400 r) (hs : B0 4400 s)
include hr hs
theorem less_ok : m_is_less [qD r, qD s] = some (.v (.bool (decide (r < s)))) ∧ m__law_less [qD r, qD s] = some (.v (.bool (decide (r < s)))) := by
  have k1 := mulOk_of (a := r.num) (b := (s.den : Int)) (by decide) (by decide) hr.num (natAbs_lt hs.den) (by decide)
  have k2 := mulOk_of (a := s.num) (b := (r.den : Int)) (by decide) (by decide) hs.num (natAbs_lt hr.den) (by decide)
  have e : decide (r.num * (s.den : Int) < s.num * (r.den : Int)) = decide (r < s) := decide_eq_decide.mpr (Rat.lt_iff r s).symm
  refine ⟨?_, ?_⟩
  · unfold m_is_less b_is_less qD
    simp [fnP, runG, sSeq, sIf, sNil, sRet, sRetV, sSet, setOut, sPar, parOut, sEx, eVar, bVar, eC, eV, dat, vE, eBin, eUn, eTup, vLst, aCons, aNil, eIxV, slD, atD, L2.atI, L2.ixN, eCall, tOf, truD, Dl.tAndT, Dl.tOrT, Dl.tNotT, eAnd, eOr, eIf, notD, eChain, addA_int, subD, negD, absD, lenD, Dl.intD, tupD, cmpD, eqD_ii, neD_ii, eqD_ss, neD_ss, isi_ii, isi_ib, isi_is, isi_it, isi_tt, isi_ti, isi_ts, isi_ss, isi_si, isi_st, mulD, k1, k2, ltD_ii, e]
  · unfold m__law_less b__law_less qD
    simp [fnP, runG, sSeq, sIf, sNil, sRet, sRetV, sSet, setOut, sPar, parOut, sEx, eVar, bVar, eC, eV, dat, vE, eBin, eUn, eTup, vLst, aCons, aNil, eIxV, slD, atD, L2.atI, L2.ixN, eCall, tOf, truD, Dl.tAndT, Dl.tOrT, Dl.tNotT, eAnd, eOr, eIf, notD, eChain, addA_int, subD, negD, absD, lenD, Dl.intD, tupD, cmpD, eqD_ii, neD_ii, eqD_ss, neD_ss, isi_ii, isi_ib, isi_is, isi_it, isi_tt, isi_ti, isi_ts, isi_ss, isi_si, isi_st, mulD, k1, k2, ltD_ii, e]
end
end K64
set_option Elab.async false
set_option linter.all false
set_option maxRecDepth 100000
namespace Dl
open PySem
/-! ### things that are judged: of any kind, ints not too great, no dict but the empty one -/
mutual
def gd (k : Nat) : D → Bool
  | .int i => decide (i.natAbs < 2 ^ k)
  | .list ds => decide (ds.length ≤ 1000) && gdAll k ds
  | .tuple ds => decide (ds.length ≤ 1000) && gdAll k ds
  | .dict [] => true
  | .dict (_ :: _) => false
  | .none => true
  | .bool _ => true
  | .str _ => true
def gdAll (k : Nat) : List D → Bool
  | [] => true
  | d :: ds => gd k d && gdAll k ds
end
theorem gdAll_mem {k : Nat} : ∀ {ds : List D}, gdAll k ds = true ↔ ∀ d ∈ ds, gd k d = true
  | [] => by simp [gdAll]
  | d :: ds => by simp [gdAll, gdAll_mem (ds := ds)]
theorem gd_tup {k : Nat} {ds : List D} : gd k (.tuple ds) = true ↔ ds.length ≤ 1000 ∧ ∀ d ∈ ds, gd k d = true := by simp [gd, gdAll_mem]
theorem gd_lst {k : Nat} {ds : List D} : gd k (.list ds) = true ↔ ds.length ≤ 1000 ∧ ∀ d ∈ ds, gd k d = true := by simp [gd, gdAll_mem]
def isTup : D → Bool
  | .tuple _ => true
  | _ => false
def isLst : D → Bool
  | .list _ => true
  | _ => false
def isI : D → Bool
  | .int _ => true
  | _ => false
def isBl : D → Bool
  | .bool _ => true
  | _ => false
def isN : D → Bool
  | .none => true
  | _ => false
def isSz (lo hi : Int) : D → Bool
  | .tuple ds => decide (lo ≤ (ds.length : Nat)) && decide (((ds.length : Nat) : Int) ≤ hi)
  | _ => false
section
variable {k : Nat} {d : D} (h : gd k d = true)
include h
theorem isi_tupJ : isiD "tuple" d = some (.bool (isTup d)) := by
  cases d with
  | dict kv => cases kv with
    | nil => exact isiD_of rfl (by simp only [isTup, isLst, isI, isBl, Bool.or_false, Bool.or_true, Bool.or_self]; decide +kernel)
    | cons a b => simp [gd] at h
  | _ => exact isiD_of rfl (by simp only [isTup, isLst, isI, isBl, Bool.or_false, Bool.or_true, Bool.or_self]; decide +kernel)
theorem isi_lstJ : isiD "list" d = some (.bool (isLst d)) := by
  cases d with
  | dict kv => cases kv with
    | nil => exact isiD_of rfl (by simp only [isTup, isLst, isI, isBl, Bool.or_false, Bool.or_true, Bool.or_self]; decide +kernel)
    | cons a b => simp [gd] at h
  | _ => exact isiD_of rfl (by simp only [isTup, isLst, isI, isBl, Bool.or_false, Bool.or_true, Bool.or_self]; decide +kernel)
theorem isi_intJ : isiD "int" d = some (.bool (isI d || isBl d)) := by
  cases d with
  | dict kv => cases kv with
    | nil => exact isiD_of rfl (by simp only [isTup, isLst, isI, isBl, Bool.or_false, Bool.or_true, Bool.or_self]; decide +kernel)
    | cons a b => simp [gd] at h
  | _ => exact isiD_of rfl (by simp only [isTup, isLst, isI, isBl, Bool.or_false, Bool.or_true, Bool.or_self]; decide +kernel)
theorem isi_blJ : isiD "bool" d = some (.bool (isBl d)) := by
  cases d with
  | dict kv => cases kv with
    | nil => exact isiD_of rfl (by simp only [isTup, isLst, isI, isBl, Bool.or_false, Bool.or_true, Bool.or_self]; decide +kernel)
    | cons a b => simp [gd] at h
  | _ => exact isiD_of rfl (by simp only [isTup, isLst, isI, isBl, Bool.or_false, Bool.or_true, Bool.or_self]; decide +kernel)
end
theorem isN_J (d : D) : isND d .none = some (.bool (isN d)) := by cases d <;> rfl
theorem notN_J (d : D) : notND d .none = some (.bool (!isN d)) := by cases d <;> rfl
theorem isI_of {d : D} (h : isI d = true) : ∃ i, d = .int i := by
  cases d <;> simp [isI] at h
  exact ⟨_, rfl⟩
theorem isTup_of {d : D} (h : isTup d = true) : ∃ ds, d = .tuple ds := by
  cases d <;> simp [isTup] at h
  exact ⟨_, rfl⟩
theorem isI_bl (d : D) : ((isI d || isBl d) && !isBl d) = isI d := by cases d <;> rfl
theorem sz2 {d : D} (h : isSz 2 2 d = true) : ∃ x y, d = .tuple [x, y] := by
  cases d <;> simp [isSz] at h
  rename_i ds
  match ds, h with
  | [a, b], _ => exact ⟨a, b, rfl⟩
  | [], h => simp at h
  | [_], h => simp at h
  | _ :: _ :: _ :: _, h => simp at h; omega
theorem tail_eAndB {f h : Fe} {g g1 g2 : G} {b c : Bool} (e : f g = some (.bool b, g1)) (e2 : b = true → h g1 = some (.bool c, g2)) (z : g2 = g1) : eAnd f h g = some (.bool (b && c), g1) := by
  subst z
  cases b with
  | false => exact eAnd_f e
  | true => exact eAnd_t e (e2 rfl)
theorem eOrB {f h : Fe} {g g1 : G} {b c : Bool} (e : f g = some (.bool b, g1)) (e2 : b = false → h g1 = some (.bool c, g1)) : eOr f h g = some (.bool (b || c), g1) := by
  cases b with
  | true => exact eOr_t e
  | false => exact eOr_f e (e2 rfl)
theorem eAndB {f h : Fe} {g g1 : G} {b c : Bool} (e : f g = some (.bool b, g1)) (e2 : b = true → h g1 = some (.bool c, g1)) : eAnd f h g = some (.bool (b && c), g1) := tail_eAndB e e2 rfl
theorem tOrB {f h : Ft} {g g1 : G} {b c : Bool} (e : f g = some (b, g1)) (e2 : b = false → h g1 = some (c, g1)) : Dl.tOrT f h g = some (b || c, g1) := by
  cases b with
  | true => exact tOr_t e
  | false => exact tOr_f e (e2 rfl)
theorem tAndB {f h : Ft} {g g1 : G} {b c : Bool} (e : f g = some (b, g1)) (e2 : b = true → h g1 = some (c, g1)) : Dl.tAndT f h g = some (b && c, g1) := by
  cases b with
  | false => exact tAnd_f e
  | true => exact tAnd_t e (e2 rfl)
/-- the guard ahead of a body: back with False where it is so -/
theorem guardB {t : Ft} {h : Fs} {g g1 g2 : G} {b c : Bool} (e : t g = some (b, g1)) (e2 : b = false → h g1 = some (.ret (.v (.bool c)) g2)) : ∃ g', sSeq (sIf t (sRet (vE (eC (.bool false)))) sNil) h g = some (.ret (.v (.bool (!b && c))) g') := by
  cases b with
  | true => exact ⟨g1, seq_ret (if_t e (ret_v (vE_of rfl)))⟩
  | false => exact ⟨g2, seq_nx (if_f e rfl) (e2 rfl)⟩
theorem guardN {t : Ft} {h : Fs} {g g1 : G} {b c : Bool} (e : t g = some (b, g1)) (e2 : b = false → ∃ g2, h g1 = some (.ret (.v (.bool c)) g2)) : ∃ g', sSeq (sIf t (sRet (vE (eC (.bool false)))) sNil) h g = some (.ret (.v (.bool (!b && c))) g') := by
  cases b with
  | true => exact ⟨g1, seq_ret (if_t e (ret_v (vE_of rfl)))⟩
  | false =>
    obtain ⟨g2, k⟩ := e2 rfl
    exact ⟨g2, seq_nx (if_f e rfl) k⟩
theorem anyD_map {α : Type} (f : α → Bool) (xs : List α) : anyD (.list (xs.map fun x => .bool (f x))) = some (.bool (xs.any f)) := by
  unfold anyD
  simp [boolL_map, List.any_map]
/-- a loop that hands False back at the first thing that fails -/
theorem forGo_guard {α : Type} {t : Fg} {b : Fs} (E : G → Prop) (enc : α → D) (c : α → Bool) : ∀ (xs : List α),
    (∀ x ∈ xs, ∀ g, E g → ∃ g1, t (enc x) g = some g1 ∧ (c x = true → ∃ g2, b g1 = some (.nx g2) ∧ E g2) ∧ (c x = false → ∃ g2, b g1 = some (.ret (.v (.bool false)) g2))) →
    ∀ g, E g → (xs.all c = true → ∃ g', forGo t b (xs.map enc) g = some (.nx g') ∧ E g') ∧ (xs.all c = false → ∃ g', forGo t b (xs.map enc) g = some (.ret (.v (.bool false)) g'))
  | [], _, g, e => ⟨fun _ => ⟨g, rfl, e⟩, fun h => by simp at h⟩
  | x :: r, H, g, e => by
    obtain ⟨g1, h1, h2, h3⟩ := H x (List.mem_cons_self ..) g e
    cases q : c x with
    | false =>
      obtain ⟨g2, h4⟩ := h3 q
      exact ⟨fun h => by simp [q] at h, fun _ => ⟨g2, by simp [forGo, h1, h4]⟩⟩
    | true =>
      obtain ⟨g2, h4, h5⟩ := h2 q
      obtain ⟨i1, i2⟩ := forGo_guard E enc c r (fun x hx => H x (List.mem_cons_of_mem _ hx)) g2 h5
      refine ⟨fun h => ?_, fun h => ?_⟩
      · obtain ⟨g', k1, k2⟩ := i1 (by simpa [q] using h)
        exact ⟨g', by simp [forGo, h1, h4, k1], k2⟩
      · obtain ⟨g', k1⟩ := i2 (by simpa only [List.all_cons, q, Bool.true_and] using h)
        exact ⟨g', by simp [forGo, h1, h4, k1]⟩
/-- a comprehension with an if: the thing is told where it passes -/
theorem lcGo_filt {α : Type} {t : Fg} {c : Ft} {f : Fe} {vs : List Nat} {g : G} (enc : α → D) (h : α → D) (p : α → Bool) : ∀ (xs : List α), (∀ x ∈ xs, ∃ g1 g2, t (enc x) g = some g1 ∧ c g1 = some (p x, g2) ∧ wipeG g2 vs = g ∧ (p x = true → ∃ g3, f g2 = some (h x, g3) ∧ wipeG g3 vs = g)) → lcGo t c f vs (xs.map enc) g = some ((xs.filter p).map h, g)
  | [], _ => rfl
  | d :: r, H => by
    obtain ⟨g1, g2, h1, h2, h3, h4⟩ := H d (List.mem_cons_self ..)
    have ih := lcGo_filt enc h p r fun d hd => H d (List.mem_cons_of_mem _ hd)
    by_cases e : p d = true
    · obtain ⟨g3, h4, h5⟩ := h4 e
      simp [lcGo, h1, h2, h4, h5, ih, e]
    · simp only [Bool.not_eq_true] at e
      simp [lcGo, h1, h2, h3, ih, e]
theorem vLc_filt {α : Type} {fi : Fa} {t : Fg} {c : Ft} {f : Fe} {vs : List Nat} {g g0 : G} {xs : List α} (enc : α → D) (h : α → D) (p : α → Bool) (hi : fi g = some (xs.map enc, g0)) (ok : okW g0 vs = true) (hl : xs.length ≤ 1000000)
    (H : ∀ x ∈ xs, ∃ g1 g2, t (enc x) (wipeG g0 vs) = some g1 ∧ c g1 = some (p x, g2) ∧ wipeG g2 vs = wipeG g0 vs ∧ (p x = true → ∃ g3, f g2 = some (h x, g3) ∧ wipeG g3 vs = wipeG g0 vs)) : vLc fi t c f vs g = some (.own none ((xs.filter p).map h), backG g0 (wipeG g0 vs) vs) := by
  have e := lcGo_filt enc h p xs H
  have l : (xs.filter p).length ≤ xs.length := List.length_filter_le ..
  exact vLc_of hi ok e (by simp; omega)
theorem lcGo_id {t : Fg} {c : Ft} {f : Fe} {vs : List Nat} {g : G} (h : D → D) (ds : List D) (H : ∀ x ∈ ds, ∃ g1 g2, t x g = some g1 ∧ c g1 = some (true, g1) ∧ f g1 = some (h x, g2) ∧ wipeG g2 vs = g) : lcGo t c f vs ds g = some (ds.map h, g) := by
  have := lcGo_map (t := t) (c := c) (f := f) (vs := vs) (g := g) (fun d => d) h ds H
  simpa using this
end Dl
set_option Elab.async false
set_option linter.all false
set_option maxRecDepth 100000
namespace K64
open PySem Dl
def isSh : D → Bool
  | .tuple [.int a, .int b] => decide (0 < b) && decide (Int.gcd a b = 1)
  | _ => false
def isFr (l : Int) : D → Bool
  | .tuple [.int a, .int b] => decide (0 < b) && (decide (l ≤ a) && decide (Int.gcd a b = 1))
  | _ => false
theorem isSh_tup {x y : D} (h : isI x = false ∨ isI y = false) : isSh (.tuple [x, y]) = false ∧ ∀ l, isFr l (.tuple [x, y]) = false := by
  rcases h with h | h
  · cases x <;> first | exact ⟨rfl, fun _ => rfl⟩ | simp [isI] at h
  · cases y <;> first | (cases x <;> exact ⟨rfl, fun _ => rfl⟩) | simp [isI] at h
theorem isSh_sz {d : D} (h : isSz 2 2 d = false) : isSh d = false ∧ ∀ l, isFr l d = false := by
  cases d with
  | tuple ds =>
    match ds, h with
    | [], _ => exact ⟨rfl, fun _ => rfl⟩
    | [_], _ => exact ⟨by simp [isSh], fun _ => by simp [isFr]⟩
    | [_, _], h => simp [isSz] at h
    | _ :: _ :: _ :: _, _ => exact ⟨by simp [isSh], fun _ => by simp [isFr]⟩
  | _ => exact ⟨rfl, fun _ => rfl⟩
section
variable {k : Nat} {d : D} (h : gd k d = true)
include h
theorem is_integer_J : m_is_integer [d] = some (.v (.bool (isI d))) := by
  unfold m_is_integer
  have := eAndB (g := [.v d]) (f := eUn (isiD "int") (eVar 0)) (h := eUn notD (eUn (isiD "bool") (eVar 0))) (eUn_of rfl (isi_intJ h)) (fun _ => eUn_of (eUn_of rfl (isi_blJ h)) rfl)
  rw [isI_bl] at this
  exact fnP_ret [.v d] rfl (ret_v (vE_of this))
theorem is_sized_J (lo hi : Int) : m_is_sized [d, .int lo, .int hi] = some (.v (.bool (isSz lo hi d))) := by
  unfold m_is_sized
  have h1 := isi_tupJ h
  have e := eAndB (c := isSz lo hi d) (g := [.v d, .v (.int lo), .v (.int hi)]) (f := eUn (isiD "tuple") (eVar 0)) (h := eChain leD leD (eVar 1) (eUn lenD (bVar 0)) (eVar 2)) (eUn_of rfl h1) (fun z => by
    obtain ⟨ds, rfl⟩ := isTup_of z
    by_cases q : lo ≤ (ds.length : Nat) <;> simp [fnP, runG, sSeq, sIf, sNil, sRet, sRetV, sSet, setOut, sPar, parOut, sEx, eVar, bVar, eC, eV, dat, vE, eBin, eUn, eTup, vLst, aCons, aNil, eIxV, slD, atD, L2.atI, L2.ixN, eCall, tOf, truD, Dl.tAndT, Dl.tOrT, Dl.tNotT, eAnd, eOr, eIf, notD, eChain, addA_int, subD, negD, absD, lenD, Dl.intD, tupD, cmpD, eqD_ii, neD_ii, eqD_ss, neD_ss, isi_ii, isi_ib, isi_is, isi_it, isi_tt, isi_ti, isi_ts, isi_ss, isi_si, isi_st, isSz, q])
  have e2 : (isTup d && isSz lo hi d) = isSz lo hi d := by cases d <;> simp [isTup, isSz]
  rw [e2] at e
  exact fnP_ret [.v d, .v (.int lo), .v (.int hi)] rfl (ret_v (vE_of e))
end
theorem gd2 {k : Nat} {x y : D} (h : gd k (.tuple [x, y]) = true) : gd k x = true ∧ gd k y = true := ⟨(gd_tup.mp h).2 x (by simp), (gd_tup.mp h).2 y (by simp)⟩
theorem is_share_J {k : Nat} {d : D} (h : gd k d = true) : m_is_share [d] = some (.v (.bool (isSh d))) := by
  have e1 := is_sized_J h 2 2
  unfold m_is_share
  cases hz : isSz 2 2 d with
  | false =>
    rw [hz] at e1
    rw [(isSh_sz hz).1]
    exact fnP_ret [.v d] rfl (seq_ret (if_t (tOr_t (tNot_of (b := false) (tOf_b (eV_v (eCall_of (ar_cons (f := eVar 0) rfl (ar_cons rfl (ar_cons rfl ar_nil))) e1))))) (ret_v (vE_of rfl))))
  | true =>
    rw [hz] at e1
    obtain ⟨x, y, rfl⟩ := sz2 hz
    obtain ⟨gx, gy⟩ := gd2 h
    have e2 := is_integer_J gx
    have e3 := is_integer_J gy
    have v0 : eIxV 0 (eC (.int 0)) [.v (.tuple [x, y])] = some (x, [.v (.tuple [x, y])]) := ixV_v rfl rfl rfl rfl
    have v1 : eIxV 0 (eC (.int 1)) [.v (.tuple [x, y])] = some (y, [.v (.tuple [x, y])]) := ixV_v rfl rfl rfl rfl
    have t := tOrB (tNot_of (tOf_b (eV_v (eCall_of (ar_cons (f := eVar 0) (g := [.v (.tuple [x, y])]) rfl (ar_cons (f := eC (.int 2)) rfl (ar_cons (f := eC (.int 2)) rfl ar_nil))) e1)))) (fun _ => tOrB (tNot_of (tOf_b (eV_v (eCall_of (ar_cons v0 ar_nil) e2)))) (fun _ => tNot_of (tOf_b (eV_v (eCall_of (ar_cons v1 ar_nil) e3)))))
    by_cases hi : isI x = true ∧ isI y = true
    · obtain ⟨hx, hy⟩ := hi
      obtain ⟨a, rfl⟩ := isI_of hx
      obtain ⟨b, rfl⟩ := isI_of hy
      have e4 := common_ok a b
      have r := eAndB (c := decide (Int.gcd a b = 1)) (eBin_of (op := gtD) (h := eC (.int 0)) v1 rfl (gtD_ii _ _)) (fun _ => eBin_of (op := eqD) (h := eC (.int 1)) (eV_v (eCall_of (ar_cons v0 (ar_cons v1 ar_nil)) e4)) rfl (by rw [eqD_ii]; congr 2; exact decide_eq_decide.mpr (by omega)))
      exact fnP_ret [.v (.tuple [.int a, .int b])] rfl (seq_nx (if_f (h := sNil) t rfl) (ret_v (vE_of r)))
    · have hi' : isI x = false ∨ isI y = false := by
        cases q1 : isI x <;> cases q2 : isI y <;> simp_all
      rw [(isSh_tup hi').1]
      have z : (!true || (!isI x || !isI y)) = true := by rcases hi' with q | q <;> rw [q] <;> simp
      rw [z] at t
      exact fnP_ret [.v (.tuple [x, y])] rfl (seq_ret (if_t t (ret_v (vE_of rfl))))
theorem isSh_of {d : D} (h : isSh d = true) : ∃ a b, d = .tuple [.int a, .int b] ∧ 0 < b ∧ Int.gcd a b = 1 := by
  unfold isSh at h
  split at h
  · rename_i a b
    simp at h
    exact ⟨a, b, rfl, h.1, h.2⟩
  · cases h
theorem isFr_sh {l : Int} {d : D} (h : isSh d = false) : isFr l d = false := by
  unfold isFr
  split
  · simp [isSh] at h ⊢
    intro h1 _
    exact h h1
  · rfl
theorem is_positive_J {k : Nat} {d : D} (h : gd k d = true) : m_is_positive [d] = some (.v (.bool (isFr 1 d))) := by
  have e1 := is_share_J h
  unfold m_is_positive
  have e := eAndB (c := isFr 1 d) (g := [.v d]) (f := eV (eCall m_is_share (aCons (eVar 0) aNil))) (h := eBin gtD (eIxV 0 (eC (.int 0))) (eC (.int 0))) (eV_v (eCall_of (ar_cons (f := eVar 0) rfl ar_nil) e1)) (fun z => by
    obtain ⟨a, b, rfl, hb, hg⟩ := isSh_of z
    refine eBin_of (d := .int a) (h := eC (.int 0)) (ixV_v rfl rfl rfl rfl) rfl ?_
    rw [gtD_ii]
    simp [isFr, hb, hg]
    omega)
  have e2 : (isSh d && isFr 1 d) = isFr 1 d := by
    cases q : isSh d with
    | true => rfl
    | false => rw [isFr_sh q]; rfl
  rw [e2] at e
  exact fnP_ret [.v d] rfl (ret_v (vE_of e))
theorem is_amount_J {k : Nat} {d : D} (h : gd k d = true) : m_is_amount [d] = some (.v (.bool (isFr 0 d))) := by
  have e1 := is_share_J h
  unfold m_is_amount
  have e := eAndB (c := isFr 0 d) (g := [.v d]) (f := eV (eCall m_is_share (aCons (eVar 0) aNil))) (h := eBin geD (eIxV 0 (eC (.int 0))) (eC (.int 0))) (eV_v (eCall_of (ar_cons (f := eVar 0) rfl ar_nil) e1)) (fun z => by
    obtain ⟨a, b, rfl, hb, hg⟩ := isSh_of z
    refine eBin_of (d := .int a) (h := eC (.int 0)) (ixV_v rfl rfl rfl rfl) rfl ?_
    rw [geD_ii]
    simp [isFr, hb, hg])
  have e2 : (isSh d && isFr 0 d) = isFr 0 d := by
    cases q : isSh d with
    | true => rfl
    | false => rw [isFr_sh q]; rfl
  rw [e2] at e
  exact fnP_ret [.v d] rfl (ret_v (vE_of e))
theorem eqv_q (r s : Rat) : PyData.eqv (qD r) (qD s) = decide (r = s) := by
  unfold qD
  show (decide (r.num = s.num) && (decide ((r.den : Int) = s.den) && true)) = _
  rw [Bool.and_true, ← Bool.decide_and]
  exact decide_eq_decide.mpr ⟨fun h => Rat.ext h.1 (by omega), fun h => by rw [h]; exact ⟨rfl, rfl⟩⟩
theorem law_fr_J {k : Nat} (hk : k ≤ 8000) {d : D} (h : gd k d = true) (l : Int) : m__law_is_fraction [d, .int l] = some (.v (.bool (isFr l d))) := by
  unfold m__law_is_fraction
  have e1 := isi_tupJ h
  have t1 := tOrB (c := !isSz 2 2 d) (g := [.v d, .v (.int l), .no]) (f := tNotT (tOf (eUn (isiD "tuple") (eVar 0)))) (h := tOf (eBin neD (eUn lenD (bVar 0)) (eC (.int 2)))) (tNot_of (tOf_b (eUn_of rfl e1))) (fun z => by
    obtain ⟨ds, rfl⟩ := isTup_of (d := d) (by simpa using z)
    refine tOf_b (eBin_of (h := eC (.int 2)) (eUn_of (f := bVar 0) rfl (show lenD (.tuple ds) = some (.int (ds.length : Nat)) from by simp [lenD])) rfl ?_)
    rw [neD_ii]
    simp [isSz]
    congr 1
    rw [← Bool.decide_and]
    exact decide_eq_decide.mpr (by omega))
  have z1 : (!isTup d || !isSz 2 2 d) = !isSz 2 2 d := by cases d <;> simp [isTup, isSz]
  rw [z1] at t1
  cases hz : isSz 2 2 d with
  | false =>
    rw [hz] at t1
    rw [(isSh_sz hz).2 l]
    exact fnP_ret [.v d, .v (.int l), .no] rfl (seq_ret (if_t t1 (ret_v (vE_of rfl))))
  | true =>
    rw [hz] at t1
    obtain ⟨x, y, rfl⟩ := sz2 hz
    obtain ⟨gx, gy⟩ := gd2 h
    have v0 : eIxV 0 (eC (.int 0)) [.v (.tuple [x, y]), .v (.int l), .no] = some (x, [.v (.tuple [x, y]), .v (.int l), .no]) := ixV_v rfl rfl rfl rfl
    have v1 : eIxV 0 (eC (.int 1)) [.v (.tuple [x, y]), .v (.int l), .no] = some (y, [.v (.tuple [x, y]), .v (.int l), .no]) := ixV_v rfl rfl rfl rfl
    have c1 := vLc_map (fi := iSeq (eVar 0)) (t := gVar 2) (c := cYes) (f := eAnd (eUn (isiD "int") (eVar 2)) (eUn notD (eUn (isiD "bool") (eVar 2)))) (vs := [2]) (g := [.v (.tuple [x, y]), .v (.int l), .no]) (g0 := [.v (.tuple [x, y]), .v (.int l), .no]) (xs := [x, y]) (fun d => d) (fun d => .bool (isI d)) (iSeq_of (f := eVar 0) rfl rfl) rfl (by simp) (fun z hz => by
      have gz : gd k z = true := by
        simp at hz
        rcases hz with rfl | rfl <;> assumption
      refine ⟨[.v (.tuple [x, y]), .v (.int l), .v z], [.v (.tuple [x, y]), .v (.int l), .v z], rfl, rfl, ?_, rfl⟩
      rw [← isI_bl z]
      exact eAndB (f := eUn (isiD "int") (eVar 2)) (h := eUn notD (eUn (isiD "bool") (eVar 2))) (eUn_of rfl (isi_intJ gz)) (fun _ => eUn_of (eUn_of rfl (isi_blJ gz)) rfl))
    have a1 := allD_map isI [x, y]
    simp only [List.all_cons, List.all_nil, Bool.and_true] at a1
    have t2 := tNot_of (tOf_b (eUn_of (eV_o c1) a1))
    by_cases hi : isI x = true ∧ isI y = true
    · obtain ⟨hx, hy⟩ := hi
      rw [hx, hy] at t2
      obtain ⟨a, rfl⟩ := isI_of hx
      obtain ⟨b, rfl⟩ := isI_of hy
      have hbB : b.natAbs < 2 ^ k := by simpa [gd] using gy
      have t3 := tOrB t2 (fun _ => tOf_b (eBin_of (op := ltD) (h := eC (.int 1)) v1 rfl (ltD_ii _ _)))
      by_cases hb : 0 < b
      · have z3 : (!(true && true) || decide (b < 1)) = false := by simp; omega
        rw [z3] at t3
        have e4 := low_ok (a := a) hb (Nat.lt_of_le_of_lt (gcd_le_den a hb) (Nat.lt_of_lt_of_le hbB (Nat.pow_le_pow_right (by decide) (by omega))))
        have q : PyData.eqv (qD (Rat.divInt a b)) (.tuple [.int a, .int b]) = decide (Int.gcd a b = 1) := by
          have f := fdiv_gcd (a := a) hb
          show (decide ((Rat.divInt a b).num = a) && (decide (((Rat.divInt a b).den : Int) = b) && true)) = _
          rw [Bool.and_true, ← Bool.decide_and]
          refine decide_eq_decide.mpr ⟨fun ⟨h1, h2⟩ => ?_, fun hg => ?_⟩
          · have := red (Rat.divInt a b)
            rw [h1, h2] at this
            exact this
          · rw [hg] at f
            simp at f
            exact ⟨f.1.symm, f.2.symm⟩
        have s1 : SeqAt.shaped (qD (Rat.divInt a b)) = true := shaped_of (by simp [qD, PyData.canLay0, PyData.canLayAll0]) (by simp [qD, PyData.depth, PyData.depthAll])
        have s2 : SeqAt.shaped (.tuple [.int a, .int b] : D) = true := shaped_of (by simp [PyData.canLay0, PyData.canLayAll0]) (by simp [PyData.depth, PyData.depthAll])
        have r := eAndB (c := decide (Int.gcd a b = 1)) (eBin_of (op := geD) (h := eVar 1) v0 rfl (geD_ii a l)) (fun _ => eBin_of (op := eqD) (h := eVar 0) (eV_v (eCall_of (ar_cons v0 (ar_cons v1 ar_nil)) e4)) rfl (eqD_sh s1 s2 q rfl))
        have w : isFr l (.tuple [.int a, .int b]) = (decide (l ≤ a) && decide (Int.gcd a b = 1)) := by simp [isFr, hb]
        rw [w]
        exact fnP_ret [.v (.tuple [.int a, .int b]), .v (.int l), .no] rfl (seq_nx (if_f (h := sNil) t1 rfl) (seq_nx (if_f (h := sNil) t3 rfl) (ret_v (vE_of r))))
      · have z3 : (!(true && true) || decide (b < 1)) = true := by simp; omega
        rw [z3] at t3
        have w : isFr l (.tuple [.int a, .int b]) = false := by simp [isFr, hb]
        rw [w]
        exact fnP_ret [.v (.tuple [.int a, .int b]), .v (.int l), .no] rfl (seq_nx (if_f (h := sNil) t1 rfl) (seq_ret (if_t t3 (ret_v (vE_of rfl)))))
    · have hi' : isI x = false ∨ isI y = false := by
        cases q1 : isI x <;> cases q2 : isI y <;> simp_all
      rw [(isSh_tup hi').2 l]
      have z : (!(isI x && isI y)) = true := by rcases hi' with q | q <;> rw [q] <;> simp
      rw [z] at t2
      exact fnP_ret [.v (.tuple [x, y]), .v (.int l), .no] rfl (seq_nx (if_f (h := sNil) t1 rfl) (seq_ret (if_t (tOr_t t2) (ret_v (vE_of rfl)))))
end K64
set_option Elab.async false
set_option linter.all false
set_option maxRecDepth 100000
namespace K64
open PySem Dl
def wksD : D → List D
  | .tuple [_, .tuple ws] => ws
  | _ => []
def isWk (d : D) : Bool := isN d || isFr 1 d
def landA : D → Bool
  | .tuple [h, .tuple ws] => isFr 1 h && ((decide (1 ≤ ws.length) && decide (ws.length ≤ 6)) && ws.all isWk)
  | _ => false
def isLand (d : D) : Bool := landA d && (wksD d).any (fun w => !isN w)
theorem landA_sz {d : D} (h : isSz 2 2 d = false) : landA d = false := by
  cases d with
  | tuple ds =>
    match ds, h with
    | [], _ => rfl
    | [_], _ => simp [landA]
    | [_, _], h => simp [isSz] at h
    | _ :: _ :: _ :: _, _ => simp [landA]
  | _ => rfl
theorem landA_tup {x y : D} (h : isTup y = false) : landA (.tuple [x, y]) = false := by
  cases y <;> first | rfl | simp [isTup] at h
theorem landA_of {d : D} (h : landA d = true) : ∃ x ws, d = .tuple [x, .tuple ws] ∧ isFr 1 x = true ∧ 1 ≤ ws.length ∧ ws.length ≤ 6 ∧ ws.all isWk = true := by
  unfold landA at h
  split at h
  · rename_i x ws
    simp only [Bool.and_eq_true, decide_eq_true_eq] at h
    exact ⟨x, ws, rfl, h.1, h.2.1.1, h.2.1.2, h.2.2⟩
  · cases h
theorem isSz_tup (lo hi : Nat) (ws : List D) : isSz lo hi (.tuple ws) = (decide (lo ≤ ws.length) && decide (ws.length ≤ hi)) := by
  simp only [isSz]
  congr 1 <;> exact decide_eq_decide.mpr (by omega)
theorem gd_in {k : Nat} {ws : List D} (h : gd k (.tuple ws) = true) {w : D} (hw : w ∈ ws) : gd k w = true := (gd_tup.mp h).2 w hw
theorem is_land_J {k : Nat} {d : D} (h : gd k d = true) : m_is_land [d] = some (.v (.bool (isLand d))) := by
  have e1 := is_sized_J h 2 2
  unfold m_is_land
  cases hz : isSz 2 2 d with
  | false =>
    rw [hz] at e1
    unfold isLand
    rw [landA_sz hz, Bool.false_and]
    exact fnP_ret [.v d, .no] rfl (seq_ret (if_t (tOr_t (tNot_of (b := false) (tOf_b (eV_v (eCall_of (ar_cons (f := eVar 0) rfl (ar_cons (f := eC (.int 2)) rfl (ar_cons (f := eC (.int 2)) rfl ar_nil))) e1))))) (ret_v (vE_of rfl))))
  | true =>
    rw [hz] at e1
    obtain ⟨x, y, rfl⟩ := sz2 hz
    obtain ⟨gx, gy⟩ := gd2 h
    obtain ⟨T, hT⟩ : ∃ T : D, T = .tuple [x, y] := ⟨_, rfl⟩
    have e2 := is_positive_J gx
    have e3 := is_sized_J gy 1 6
    have v0 : eIxV 0 (eC (.int 0)) [.v T, .no] = some (x, [.v T, .no]) := by subst hT; exact ixV_v rfl rfl rfl rfl
    have v1 : eIxV 0 (eC (.int 1)) [.v T, .no] = some (y, [.v T, .no]) := by subst hT; exact ixV_v rfl rfl rfl rfl
    rw [← hT] at e1
    have t := tOrB (tNot_of (tOf_b (eV_v (eCall_of (ar_cons (f := eVar 0) (g := [.v T, .no]) rfl (ar_cons (f := eC (.int 2)) rfl (ar_cons (f := eC (.int 2)) rfl ar_nil))) e1)))) (fun _ => tOrB (tNot_of (tOf_b (eV_v (eCall_of (ar_cons v0 ar_nil) e2)))) (fun _ => tNot_of (tOf_b (eV_v (eCall_of (ar_cons v1 (ar_cons (f := eC (.int 1)) rfl (ar_cons (f := eC k_MOST_GOODS) rfl ar_nil))) e3)))))
    by_cases hi : isFr 1 x = true ∧ isSz 1 6 y = true
    · obtain ⟨hx, hy⟩ := hi
      obtain ⟨ws, rfl⟩ : ∃ ws, y = .tuple ws := by
        cases y <;> simp [isSz] at hy
        exact ⟨_, rfl⟩
      rw [hx, hy] at t
      have hl : ws.length ≤ 1000 := (gd_tup.mp gy).1
      have c1 := vLc_map (fi := iSeq (eIxV 0 (eC (.int 1)))) (t := gVar 1) (c := cYes) (f := eOr (eBin isND (eVar 1) (eC .none)) (eV (eCall m_is_positive (aCons (eVar 1) aNil)))) (vs := [1]) (g := [.v T, .no]) (g0 := [.v T, .no]) (xs := ws) (fun d => d) (fun w => .bool (isWk w)) (by rw [List.map_id']; exact iSeq_of v1 rfl) rfl (by omega) (fun w hw =>
        ⟨[.v T, .v w], [.v T, .v w], rfl, rfl, eOrB (f := eBin isND (eVar 1) (eC .none)) (eBin_of (f := eVar 1) (h := eC .none) rfl rfl (isN_J w)) (fun _ => eV_v (eCall_of (ar_cons (f := eVar 1) rfl ar_nil) (is_positive_J (gd_in gy hw)))), rfl⟩)
      have c2 := vLc_map (fi := iSeq (eIxV 0 (eC (.int 1)))) (t := gVar 1) (c := cYes) (f := eBin notND (eVar 1) (eC .none)) (vs := [1]) (g := [.v T, .no]) (g0 := [.v T, .no]) (xs := ws) (fun d => d) (fun w => .bool (!isN w)) (by rw [List.map_id']; exact iSeq_of v1 rfl) rfl (by omega) (fun w hw =>
        ⟨[.v T, .v w], [.v T, .v w], rfl, rfl, eBin_of (f := eVar 1) (h := eC .none) rfl rfl (notN_J w), rfl⟩)
      have a1 := allD_map isWk ws
      have a2 := anyD_map (fun w => !isN w) ws
      have t2 := tNot_of (tOf_b (eUn_of (eV_o c1) a1))
      have sz : (decide (1 ≤ ws.length) && decide (ws.length ≤ 6)) = true := (isSz_tup 1 6 ws).symm.trans hy
      have w : isLand T = (ws.all isWk && ws.any (fun w => !isN w)) := by
        subst hT
        simp only [isLand, landA, wksD, hx, sz, Bool.true_and]
      rw [← hT, w]
      cases qa : ws.all isWk with
      | true =>
        rw [qa] at t2
        exact fnP_ret [.v T, .no] rfl (seq_nx (if_f (h := sNil) t rfl) (seq_nx (if_f (h := sNil) t2 rfl) (ret_v (vE_of (eUn_of (eV_o c2) a2)))))
      | false =>
        rw [qa] at t2
        exact fnP_ret [.v T, .no] rfl (seq_nx (if_f (h := sNil) t rfl) (seq_ret (if_t t2 (ret_v (vE_of rfl)))))
    · have z : (!true || (!isFr 1 x || !isSz 1 6 y)) = true := by
        cases q1 : isFr 1 x <;> cases q2 : isSz 1 6 y <;> simp_all
      rw [z] at t
      have w : isLand T = false := by
        subst hT
        cases q1 : isFr 1 x with
        | false => cases y <;> simp [isLand, landA, q1]
        | true =>
          have q2 : isSz 1 6 y = false := by
            cases q2 : isSz 1 6 y with
            | false => rfl
            | true => exact absurd ⟨q1, q2⟩ hi
          cases y with
          | tuple ws =>
            have := (isSz_tup 1 6 ws).symm.trans q2
            simp only [isLand, landA, this, Bool.false_and, Bool.and_false]
          | _ => simp [isLand, landA]
      rw [← hT, w]
      exact fnP_ret [.v T, .no] rfl (seq_ret (if_t t (ret_v (vE_of rfl))))
/-! ### lands -/
def wat (d : D) (g : Nat) : D := (wksD d).getD g .none
def goodsD (ls : List D) : Nat := (wksD (ls.headD .none)).length
def isLands : D → Bool
  | .tuple ls => (decide (1 ≤ ls.length) && decide (ls.length ≤ 6)) && (ls.all isLand && (ls.all (fun l => decide ((wksD l).length = goodsD ls)) && (List.range (goodsD ls)).all fun g => ls.any fun l => !isN (wat l g)))
  | _ => false
theorem isLand_of {d : D} (h : isLand d = true) : ∃ x ws, d = .tuple [x, .tuple ws] ∧ ws.length ≤ 6 := by
  unfold isLand at h
  simp only [Bool.and_eq_true] at h
  obtain ⟨x, ws, rfl, _, _, h3, _⟩ := landA_of h.1
  exact ⟨x, ws, rfl, h3⟩
theorem is_lands_J {k : Nat} {d : D} (h : gd k d = true) : m_is_lands [d] = some (.v (.bool (isLands d))) := by
  have e1 := is_sized_J h 1 6
  unfold m_is_lands
  cases hz : isSz 1 6 d with
  | false =>
    rw [hz] at e1
    have w : isLands d = false := by
      cases d with
      | tuple ls =>
        have := (isSz_tup 1 6 ls).symm.trans hz
        simp only [isLands, this, Bool.false_and]
      | _ => rfl
    rw [w]
    exact fnP_ret [.v d, .no, .no] rfl (seq_ret (if_t (tOr_t (tNot_of (b := false) (tOf_b (eV_v (eCall_of (ar_cons (f := eVar 0) rfl (ar_cons (f := eC (.int 1)) rfl (ar_cons (f := eC k_MOST_LANDS) rfl ar_nil))) e1))))) (ret_v (vE_of rfl))))
  | true =>
    rw [hz] at e1
    obtain ⟨ls, rfl⟩ : ∃ ws, d = .tuple ws := by
      cases d <;> simp [isSz] at hz
      exact ⟨_, rfl⟩
    have sz : (decide (1 ≤ ls.length) && decide (ls.length ≤ 6)) = true := (isSz_tup 1 6 ls).symm.trans hz
    obtain ⟨T, hT⟩ : ∃ T : D, T = .tuple ls := ⟨_, rfl⟩
    have w : isLands T = (ls.all isLand && (ls.all (fun l => decide ((wksD l).length = goodsD ls)) && (List.range (goodsD ls)).all fun g => ls.any fun l => !isN (wat l g))) := by
      subst hT
      simp only [isLands, sz, Bool.true_and]
    rw [← hT] at e1 ⊢
    rw [w]
    have hs : ∀ z1 z2, iSeq (eVar 0) [.v T, z1, z2] = some (ls.map (fun d => d), [.v T, z1, z2]) := fun z1 z2 => by
      subst hT
      rw [List.map_id']
      exact iSeq_of (f := eVar 0) rfl rfl
    have hl6 : ls.length ≤ 6 := by simp at sz; exact sz.2
    have hl1 : 1 ≤ ls.length := by simp at sz; omega
    have c1 := vLc_map (fi := iSeq (eVar 0)) (t := gVar 2) (c := cYes) (f := eV (eCall m_is_land (aCons (eVar 2) aNil))) (vs := [2]) (g := [.v T, .no, .no]) (g0 := [.v T, .no, .no]) (xs := ls) (fun d => d) (fun l => .bool (isLand l)) (hs _ _) rfl (by omega) (fun l hl =>
      ⟨[.v T, .no, .v l], [.v T, .no, .v l], rfl, rfl, eV_v (eCall_of (ar_cons (f := eVar 2) rfl ar_nil) (is_land_J (gd_in h hl))), rfl⟩)
    have a1 := allD_map isLand ls
    have t := tOrB (tNot_of (tOf_b (eV_v (eCall_of (ar_cons (f := eVar 0) (g := [.v T, .no, .no]) rfl (ar_cons (f := eC (.int 1)) rfl (ar_cons (f := eC k_MOST_LANDS) rfl ar_nil))) e1)))) (fun _ => tNot_of (tOf_b (eUn_of (eV_o c1) a1)))
    cases qa : ls.all isLand with
    | false =>
      rw [qa] at t
      exact fnP_ret [.v T, .no, .no] rfl (seq_ret (if_t t (ret_v (vE_of rfl))))
    | true =>
      rw [qa] at t
      have hL : ∀ l ∈ ls, ∃ x ws, l = .tuple [x, .tuple ws] ∧ ws.length ≤ 6 := fun l hl => isLand_of (List.all_eq_true.mp qa l hl)
      obtain ⟨l0, r0, hls⟩ : ∃ l0 r0, ls = l0 :: r0 := by
        match ls, hl1 with
        | a :: b, _ => exact ⟨a, b, rfl⟩
      have hg6 : goodsD ls ≤ 6 := by
        rw [hls]
        obtain ⟨x, ws, h1, h2⟩ := hL l0 (by rw [hls]; simp)
        rw [h1]
        exact h2
      have v0 : ∀ z1 z2, eUn lenD (eBin atD (eIxV 0 (eC (.int 0))) (eC (.int 1))) [.v T, z1, z2] = some (.int (goodsD ls : Nat), [.v T, z1, z2]) := fun z1 z2 => by
        obtain ⟨x, ws, h1, h2⟩ := hL l0 (by rw [hls]; simp)
        have w1 : eIxV 0 (eC (.int 0)) [.v T, z1, z2] = some (l0, [.v T, z1, z2]) := by
          subst hT; subst hls
          exact ixV_v rfl rfl rfl (by have := atI_map (f := fun d : D => d) (l := l0 :: r0) (i := 0) rfl; rw [List.map_id'] at this; exact this)
        rw [h1] at w1
        have w2 := eBin_of (op := atD) (h := eC (.int 1)) w1 rfl (d3 := .tuple ws) rfl
        refine eUn_of w2 ?_
        rw [hls, h1]
        simp [lenD, goodsD, wksD]
      have c2 := vLc_map (fi := iSeq (eVar 0)) (t := gVar 2) (c := cYes) (f := eBin eqD (eUn lenD (eIxV 2 (eC (.int 1)))) (eUn lenD (eBin atD (eIxV 0 (eC (.int 0))) (eC (.int 1))))) (vs := [2]) (g := [.v T, .no, .no]) (g0 := [.v T, .no, .no]) (xs := ls) (fun d => d) (fun l => .bool (decide ((wksD l).length = goodsD ls))) (hs _ _) rfl (by omega) (fun l hl => by
        refine ⟨[.v T, .no, .v l], [.v T, .no, .v l], rfl, rfl, ?_, rfl⟩
        obtain ⟨x, ws, h1, h2⟩ := hL l hl
        subst h1
        have w1 : eIxV 2 (eC (.int 1)) [.v T, .no, .v (.tuple [x, .tuple ws])] = some (.tuple ws, [.v T, .no, .v (.tuple [x, .tuple ws])]) := ixV_v rfl rfl rfl rfl
        have w2 := eUn_of (op := lenD) (d2 := .int (ws.length : Nat)) w1 (by simp [lenD])
        refine eBin_of w2 (v0 _ _) ?_
        rw [eqD_ii]
        congr 2
        exact decide_eq_decide.mpr (by simp [wksD]; omega))
      have a2 := allD_map (fun l => decide ((wksD l).length = goodsD ls)) ls
      have t2 := tNot_of (tOf_b (eUn_of (eV_o c2) a2))
      cases qb : ls.all (fun l => decide ((wksD l).length = goodsD ls)) with
      | false =>
        rw [qb] at t2
        exact fnP_ret [.v T, .no, .no] rfl (seq_nx (if_f (h := sNil) t rfl) (seq_ret (if_t t2 (ret_v (vE_of rfl)))))
      | true =>
        rw [qb] at t2
        have hlen : ∀ l ∈ ls, (wksD l).length = goodsD ls := fun l hl => by
          have := List.all_eq_true.mp qb l hl
          simpa using this
        have F := forGo_guard (t := gVar 1) (b := sIf (tOf (eUn allD (eV (vLc (iSeq (eVar 0)) (gVar 2) cYes (eBin isND (eBin atD (eIxV 2 (eC (.int 1))) (eVar 1)) (eC .none)) [2])))) (sRet (vE (eC (.bool false)))) sNil)
          (fun g => ∃ z, g = [.v T, z, .no]) (fun (i : Nat) => (.int (i : Int) : D)) (fun g => ls.any fun l => !isN (wat l g)) (List.range (goodsD ls)) (fun i hi g hg => by
            obtain ⟨z, rfl⟩ := hg
            have hi := List.mem_range.mp hi
            have c3 := vLc_map (fi := iSeq (eVar 0)) (t := gVar 2) (c := cYes) (f := eBin isND (eBin atD (eIxV 2 (eC (.int 1))) (eVar 1)) (eC .none)) (vs := [2]) (g := [.v T, .v (.int (i : Int)), .no]) (g0 := [.v T, .v (.int (i : Int)), .no]) (xs := ls) (fun d => d) (fun l => .bool (isN (wat l i))) (hs _ _) rfl (by omega) (fun l hl => by
              refine ⟨[.v T, .v (.int (i : Int)), .v l], [.v T, .v (.int (i : Int)), .v l], rfl, rfl, ?_, rfl⟩
              obtain ⟨x, ws, h1, h2⟩ := hL l hl
              have h3 := hlen l hl
              subst h1
              have w1 : eIxV 2 (eC (.int 1)) [.v T, .v (.int (i : Int)), .v (.tuple [x, .tuple ws])] = some (.tuple ws, [.v T, .v (.int (i : Int)), .v (.tuple [x, .tuple ws])]) := ixV_v rfl rfl rfl rfl
              have hu : ws[i]? = some (ws.getD i .none) := by
                have : i < ws.length := by have h3 : ws.length = goodsD ls := h3; omega
                simp [this]
              have w2 := eBin_of (op := atD) (h := eVar 1) (d2 := .int (i : Int)) w1 rfl (d3 := ws.getD i .none) (by have := atI_map (f := fun d : D => d) hu; rw [List.map_id'] at this; exact this)
              exact eBin_of (h := eC .none) w2 rfl (isN_J _))
            have a3 := allD_map (fun l => isN (wat l i)) ls
            have k := tOf_b (eUn_of (eV_o c3) a3)
            refine ⟨[.v T, .v (.int (i : Int)), .no], rfl, fun q => ?_, fun q => ?_⟩
            · have z3 : (ls.all fun l => isN (wat l i)) = false := by
                cases z4 : ls.all fun l => isN (wat l i) with
                | false => rfl
                | true =>
                  obtain ⟨l, m1, m2⟩ := List.any_eq_true.mp q
                  have := List.all_eq_true.mp z4 l m1
                  rw [this] at m2
                  cases m2
              rw [z3] at k
              exact ⟨[.v T, .v (.int (i : Int)), .no], if_f k rfl, _, rfl⟩
            · have z3 : (ls.all fun l => isN (wat l i)) = true := by
                refine List.all_eq_true.mpr fun l m1 => ?_
                have := List.any_eq_false.mp q l m1
                simpa using this
              rw [z3] at k
              exact ⟨_, if_t k (ret_v (vE_of rfl))⟩) [.v T, .no, .no] ⟨_, rfl⟩
        cases qc : (List.range (goodsD ls)).all (fun g => ls.any fun l => !isN (wat l g)) with
        | true =>
          obtain ⟨g', f1, z, rfl⟩ := F.1 qc
          exact fnP_ret [.v T, .no, .no] rfl (seq_nx (if_f (h := sNil) t rfl) (seq_nx (if_f (h := sNil) t2 rfl) (seq_nx (for_of (rng_of (n := goodsD ls) (ar_cons (v0 _ _) ar_nil) (by omega)) f1) (ret_v rfl))))
        | false =>
          obtain ⟨g', f1⟩ := F.2 qc
          exact fnP_ret [.v T, .no, .no] rfl (seq_nx (if_f (h := sNil) t rfl) (seq_nx (if_f (h := sNil) t2 rfl) (seq_ret (for_of (rng_of (n := goodsD ls) (ar_cons (v0 _ _) ar_nil) (by omega)) f1))))
end K64
set_option Elab.async false
set_option linter.all false
set_option maxRecDepth 100000
namespace K64
open PySem Dl
def Pl (z : Sl) : Prop := z = .no ∨ ∃ d, z = .v d
theorem chain_sz (lo hi : Int) {d : D} {i : Nat} {g : G} (hg : bVar i g = some (d, g)) (ht : isTup d = true) : eChain leD leD (eC (.int lo)) (eUn lenD (bVar i)) (eC (.int hi)) g = some (.bool (isSz lo hi d), g) := by
  obtain ⟨ds, rfl⟩ := isTup_of ht
  have h1 : eUn lenD (bVar i) g = some (.int (ds.length : Nat), g) := eUn_of hg (by simp [lenD])
  unfold eChain
  by_cases q : lo ≤ (ds.length : Nat) <;> simp [eC, h1, leD_ii, isSz, q]
theorem chain_szE (lo hi : Int) {d : D} {f : Fe} {g : G} (hg : f g = some (d, g)) (ht : isTup d = true) : eChain leD leD (eC (.int lo)) (eUn lenD f) (eC (.int hi)) g = some (.bool (isSz lo hi d), g) := by
  obtain ⟨ds, rfl⟩ := isTup_of ht
  have h1 : eUn lenD f g = some (.int (ds.length : Nat), g) := eUn_of hg (by simp [lenD])
  unfold eChain
  by_cases q : lo ≤ (ds.length : Nat) <;> simp [eC, h1, leD_ii, isSz, q]
theorem tup_sz (lo hi : Int) (d : D) : (!isTup d || !isSz lo hi d) = !isSz lo hi d := by cases d <;> simp [isTup, isSz]
theorem len_ne2 {d : D} {f : Fe} {g : G} (hg : f g = some (d, g)) (ht : isTup d = true) : tOf (eBin neD (eUn lenD f) (eC (.int 2))) g = some (!isSz 2 2 d, g) := by
  obtain ⟨ds, rfl⟩ := isTup_of ht
  refine tOf_b (eBin_of (h := eC (.int 2)) (eUn_of hg (show lenD (.tuple ds) = some (.int (ds.length : Nat)) from by simp [lenD])) rfl ?_)
  rw [neD_ii]
  simp [isSz]
  congr 1
  rw [← Bool.decide_and]
  exact decide_eq_decide.mpr (by omega)
theorem landA_pair (x y : D) : landA (.tuple [x, y]) = (isFr 1 x && (isSz 1 6 y && (match y with | .tuple ws => ws.all isWk | _ => false))) := by
  cases y with
  | tuple ws => rw [show isSz 1 6 (.tuple ws) = _ from isSz_tup 1 6 ws]; rfl
  | _ => simp [landA, isSz]
noncomputable def bA : Fs := (sSeq (sIf (tOrT (tNotT (tOf (eUn (isiD "tuple") (eVar 1)))) (tOrT (tOf (eBin neD (eUn lenD (bVar 1)) (eC (.int 2)))) (tNotT (tOf (eV (eCall m__law_is_fraction (aCons (eIxV 1 (eC (.int 0))) (aCons (eC (.int 1)) aNil)))))))) (sRet (vE (eC (.bool false)))) sNil)
    (sSeq (sIf (tOrT (tNotT (tOf (eUn (isiD "tuple") (eIxV 1 (eC (.int 1)))))) (tNotT (tOf (eChain leD leD (eC (.int 1)) (eUn lenD (eIxV 1 (eC (.int 1)))) (eC (.int 6)))))) (sRet (vE (eC (.bool false)))) sNil)
    (sIf (tNotT (tOf (eUn allD (eV (vLc (iSeq (eIxV 1 (eC (.int 1)))) (gVar 4) cYes (eOr (eBin isND (eVar 4) (eC .none)) (eV (eCall m__law_is_fraction (aCons (eVar 4) (aCons (eC (.int 1)) aNil))))) [4]))))) (sRet (vE (eC (.bool false)))) sNil)))
theorem bA_ok {k : Nat} (hk : k ≤ 8000) {l : D} (h : gd k l = true) (T : D) (z2 z3 : Sl) : (landA l = true → bA [.v T, .v l, z2, z3, .no] = some (.nx [.v T, .v l, z2, z3, .no])) ∧ (landA l = false → bA [.v T, .v l, z2, z3, .no] = some (.ret (.v (.bool false)) [.v T, .v l, z2, z3, .no])) := by
  unfold bA
  obtain ⟨g, hg⟩ : ∃ g : G, g = [.v T, .v l, z2, z3, .no] := ⟨_, rfl⟩
  rw [← hg]
  have x1 : eVar 1 g = some (l, g) := by subst hg; rfl
  have x2 : bVar 1 g = some (l, g) := by subst hg; rfl
  have t0 : tNotT (tOf (eUn (isiD "tuple") (eVar 1))) g = some (!isTup l, g) := tNot_of (tOf_b (eUn_of x1 (isi_tupJ h)))
  by_cases hz : isSz 2 2 l = true
  · obtain ⟨x, y, rfl⟩ := sz2 hz
    obtain ⟨gx, gy⟩ := gd2 h
    have v0 : eIxV 1 (eC (.int 0)) g = some (x, g) := by subst hg; exact ixV_v rfl rfl rfl rfl
    have v1 : eIxV 1 (eC (.int 1)) g = some (y, g) := by subst hg; exact ixV_v rfl rfl rfl rfl
    have t1 := tOrB t0 (fun q => tOrB (len_ne2 x2 (by simpa using q)) (fun _ => tNot_of (tOf_b (eV_v (eCall_of (ar_cons v0 (ar_cons (f := eC (.int 1)) rfl ar_nil)) (law_fr_J hk gx 1))))))
    rw [hz] at t1
    simp only [isTup, Bool.not_true, Bool.false_or] at t1
    rw [landA_pair]
    cases qx : isFr 1 x with
    | false =>
      rw [qx] at t1
      exact ⟨fun q => by simp at q, fun _ => seq_ret (if_t t1 (ret_v (vE_of rfl)))⟩
    | true =>
      rw [qx] at t1
      have t2 := tOrB (tNot_of (tOf_b (eUn_of v1 (isi_tupJ gy)))) (fun q => tNot_of (tOf_b (chain_szE 1 6 v1 (by simpa using q))))
      rw [tup_sz] at t2
      cases qy : isSz 1 6 y with
      | false =>
        rw [qy] at t2
        exact ⟨fun q => by simp at q, fun _ => seq_nx (if_f (h := sNil) t1 rfl) (seq_ret (if_t t2 (ret_v (vE_of rfl))))⟩
      | true =>
        rw [qy] at t2
        obtain ⟨ws, rfl⟩ : ∃ ws, y = .tuple ws := by
          cases y <;> simp [isSz] at qy
          exact ⟨_, rfl⟩
        have hl : ws.length ≤ 1000 := (gd_tup.mp gy).1
        have c1 := vLc_map (fi := iSeq (eIxV 1 (eC (.int 1)))) (t := gVar 4) (c := cYes) (f := eOr (eBin isND (eVar 4) (eC .none)) (eV (eCall m__law_is_fraction (aCons (eVar 4) (aCons (eC (.int 1)) aNil))))) (vs := [4]) (g := g) (g0 := g) (xs := ws) (fun d => d) (fun w => .bool (isWk w)) (by rw [List.map_id']; exact iSeq_of v1 rfl) (by subst hg; rfl) (by omega) (fun w hw => by
          subst hg
          exact ⟨[.v T, .v (.tuple [x, .tuple ws]), z2, z3, .v w], [.v T, .v (.tuple [x, .tuple ws]), z2, z3, .v w], rfl, rfl, eOrB (f := eBin isND (eVar 4) (eC .none)) (eBin_of (f := eVar 4) (h := eC .none) rfl rfl (isN_J w)) (fun _ => eV_v (eCall_of (ar_cons (f := eVar 4) rfl (ar_cons (f := eC (.int 1)) rfl ar_nil)) (law_fr_J hk (gd_in gy hw) 1))), rfl⟩)
        have cb : backG g (wipeG g [4]) [4] = g := by subst hg; rfl
        rw [cb] at c1
        have t3 := tNot_of (tOf_b (eUn_of (eV_o c1) (allD_map isWk ws)))
        refine ⟨fun q => ?_, fun q => ?_⟩
        · have q : ws.all isWk = true := by simpa only [Bool.true_and] using q
          rw [q] at t3
          exact seq_nx (if_f (h := sNil) t1 rfl) (seq_nx (if_f (h := sNil) t2 rfl) (if_f t3 rfl))
        · have q : ws.all isWk = false := by simpa only [Bool.true_and] using q
          rw [q] at t3
          exact seq_nx (if_f (h := sNil) t1 rfl) (seq_nx (if_f (h := sNil) t2 rfl) (if_t t3 (ret_v (vE_of rfl))))
  · have hz : isSz 2 2 l = false := by simpa using hz
    rw [landA_sz hz]
    refine ⟨fun q => (by cases q), fun _ => ?_⟩
    cases ht : isTup l with
    | false => 
      rw [ht] at t0
      exact seq_ret (if_t (tOr_t t0) (ret_v (vE_of rfl)))
    | true =>
      rw [ht] at t0
      have k := len_ne2 x2 ht
      rw [hz] at k
      exact seq_ret (if_t (tOr_f t0 (tOr_t k)) (ret_v (vE_of rfl)))
theorem law_lands_J {k : Nat} (hk : k ≤ 8000) {d : D} (h : gd k d = true) : m__law_is_lands [d] = some (.v (.bool (isLands d))) := by
  unfold m__law_is_lands
  have e1 := isi_tupJ h
  have t1 := tOrB (g := [.v d, .no, .no, .no, .no]) (f := tNotT (tOf (eUn (isiD "tuple") (eVar 0)))) (tNot_of (tOf_b (eUn_of rfl e1))) (fun z => tNot_of (tOf_b (chain_sz 1 6 (i := 0) rfl (by simpa using z))))
  rw [tup_sz] at t1
  cases hz : isSz 1 6 d with
  | false =>
    rw [hz] at t1
    have w : isLands d = false := by
      cases d with
      | tuple ls =>
        have := (isSz_tup 1 6 ls).symm.trans hz
        simp only [isLands, this, Bool.false_and]
      | _ => rfl
    rw [w]
    exact fnP_ret [.v d, .no, .no, .no, .no] rfl (seq_ret (if_t t1 (ret_v (vE_of rfl))))
  | true =>
    rw [hz] at t1
    obtain ⟨ls, rfl⟩ : ∃ ws, d = .tuple ws := by
      cases d <;> simp [isSz] at hz
      exact ⟨_, rfl⟩
    have sz : (decide (1 ≤ ls.length) && decide (ls.length ≤ 6)) = true := (isSz_tup 1 6 ls).symm.trans hz
    obtain ⟨T, hT⟩ : ∃ T : D, T = .tuple ls := ⟨_, rfl⟩
    have w : isLands T = (ls.all landA && (ls.all (fun l => decide ((wksD l).length = goodsD ls) && (wksD l).any (fun w => !isN w)) && (List.range (goodsD ls)).all fun g => ls.any fun l => !isN (wat l g))) := by
      subst hT
      simp only [isLands, sz, Bool.true_and]
      rw [← Bool.and_assoc, ← Bool.and_assoc]
      congr 1
      rw [Bool.eq_iff_iff]
      simp only [Bool.and_eq_true, List.all_eq_true, isLand]
      exact ⟨fun ⟨h1, h2⟩ => ⟨fun l hl => (h1 l hl).1, fun l hl => ⟨h2 l hl, (h1 l hl).2⟩⟩, fun ⟨h1, h2⟩ => ⟨fun l hl => ⟨h1 l hl, (h2 l hl).2⟩, fun l hl => (h2 l hl).1⟩⟩
    rw [← hT] at t1 ⊢
    rw [w]
    have hs : ∀ z1 z2 z3, iSeq (eVar 0) [.v T, z1, z2, z3, .no] = some (ls.map (fun d => d), [.v T, z1, z2, z3, .no]) := fun z1 z2 z3 => by
      subst hT
      rw [List.map_id']
      exact iSeq_of (f := eVar 0) rfl rfl
    have hl6 : ls.length ≤ 6 := by simp at sz; exact sz.2
    have hl1 : 1 ≤ ls.length := by simp at sz; omega
    have F := forGo_guard (t := gVar 1) (b := bA) (fun g => ∃ z, Pl z ∧ g = [.v T, z, .no, .no, .no]) (fun d : D => d) landA ls (fun l hl g hg => by
      obtain ⟨z, _, rfl⟩ := hg
      obtain ⟨p1, p2⟩ := bA_ok hk (gd_in h hl) T .no .no
      exact ⟨[.v T, .v l, .no, .no, .no], rfl, fun q => ⟨_, p1 q, _, .inr ⟨_, rfl⟩, rfl⟩, fun q => ⟨_, p2 q⟩⟩) [.v T, .no, .no, .no, .no] ⟨_, .inl rfl, rfl⟩
    cases qa : ls.all landA with
    | false =>
      obtain ⟨g', f1⟩ := F.2 qa
      exact fnP_ret [.v T, .no, .no, .no, .no] rfl (seq_nx (if_f (h := sNil) t1 rfl) (seq_ret (for_of (hs _ _ _) f1)))
    | true =>
      obtain ⟨g', f1, z, pz, rfl⟩ := F.1 qa
      have hL : ∀ l ∈ ls, ∃ x ws, l = .tuple [x, .tuple ws] ∧ ws.length ≤ 6 := fun l hl => by
        obtain ⟨x, ws, rfl, _, _, h3, _⟩ := landA_of (List.all_eq_true.mp qa l hl)
        exact ⟨x, ws, rfl, h3⟩
      obtain ⟨l0, r0, hls⟩ : ∃ l0 r0, ls = l0 :: r0 := by
        match ls, hl1 with
        | a :: b, _ => exact ⟨a, b, rfl⟩
      have hg6 : goodsD ls ≤ 6 := by
        rw [hls]
        obtain ⟨x, ws, h1, h2⟩ := hL l0 (by rw [hls]; simp)
        rw [h1]
        exact h2
      have v0 : eUn lenD (eBin atD (eIxV 0 (eC (.int 0))) (eC (.int 1))) [.v T, z, .no, .no, .no] = some (.int (goodsD ls : Nat), [.v T, z, .no, .no, .no]) := by
        obtain ⟨x, ws, h1, h2⟩ := hL l0 (by rw [hls]; simp)
        have w1 : eIxV 0 (eC (.int 0)) [.v T, z, .no, .no, .no] = some (l0, [.v T, z, .no, .no, .no]) := by
          subst hT; subst hls
          exact ixV_v rfl rfl rfl (by have := atI_map (f := fun d : D => d) (l := l0 :: r0) (i := 0) rfl; rw [List.map_id'] at this; exact this)
        rw [h1] at w1
        have w2 := eBin_of (op := atD) (h := eC (.int 1)) w1 rfl (d3 := .tuple ws) rfl
        refine eUn_of w2 ?_
        rw [hls, h1]
        simp [lenD, goodsD, wksD]
      obtain ⟨N, hN⟩ : ∃ N : D, N = .int (goodsD ls : Nat) := ⟨_, rfl⟩
      obtain ⟨g, hg⟩ : ∃ g : G, g = [.v T, z, .v N, .no, .no] := ⟨_, rfl⟩
      have ok1 : okW g [1] = true := by
        subst hg
        rcases pz with rfl | ⟨e, rfl⟩ <;> rfl
      have c2 := vLc_map (fi := iSeq (eVar 0)) (t := gVar 1) (c := cYes) (f := eAnd (eBin eqD (eUn lenD (eIxV 1 (eC (.int 1)))) (eVar 2)) (eUn anyD (eV (vLc (iSeq (eIxV 1 (eC (.int 1)))) (gVar 4) cYes (eBin notND (eVar 4) (eC .none)) [4])))) (vs := [1]) (g := g) (g0 := g) (xs := ls) (fun d => d) (fun l => .bool (decide ((wksD l).length = goodsD ls) && (wksD l).any (fun w => !isN w))) (by subst hg; exact hs _ _ _) ok1 (by omega) (fun l hl => by
        subst hg
        obtain ⟨x, ws, h1, h2⟩ := hL l hl
        subst h1
        refine ⟨[.v T, .v (.tuple [x, .tuple ws]), .v N, .no, .no], [.v T, .v (.tuple [x, .tuple ws]), .v N, .no, .no], rfl, rfl, ?_, rfl⟩
        have w1 : eIxV 1 (eC (.int 1)) [.v T, .v (.tuple [x, .tuple ws]), .v N, .no, .no] = some (.tuple ws, [.v T, .v (.tuple [x, .tuple ws]), .v N, .no, .no]) := ixV_v rfl rfl rfl rfl
        have w2 := eUn_of (op := lenD) (d2 := .int (ws.length : Nat)) w1 (by simp [lenD])
        have c3 := vLc_map (fi := iSeq (eIxV 1 (eC (.int 1)))) (t := gVar 4) (c := cYes) (f := eBin notND (eVar 4) (eC .none)) (vs := [4]) (g := [.v T, .v (.tuple [x, .tuple ws]), .v N, .no, .no]) (g0 := [.v T, .v (.tuple [x, .tuple ws]), .v N, .no, .no]) (xs := ws) (fun d => d) (fun w => .bool (!isN w)) (by rw [List.map_id']; exact iSeq_of w1 rfl) rfl (by omega) (fun w hw =>
          ⟨[.v T, .v (.tuple [x, .tuple ws]), .v N, .no, .v w], [.v T, .v (.tuple [x, .tuple ws]), .v N, .no, .v w], rfl, rfl, eBin_of (f := eVar 4) (h := eC .none) rfl rfl (notN_J w), rfl⟩)
        refine eAndB (eBin_of (d3 := .bool (decide ((wksD (.tuple [x, .tuple ws])).length = goodsD ls))) w2 (h := eVar 2) (d2 := N) rfl ?_) (fun _ => eUn_of (eV_o c3) (anyD_map (fun w => !isN w) ws))
        rw [hN, eqD_ii]
        congr 2
        exact decide_eq_decide.mpr (by simp [wksD]; omega))
      have cb : backG g (wipeG g [1]) [1] = g := by subst hg; rfl
      rw [cb] at c2
      have t2 := tNot_of (tOf_b (eUn_of (eV_o c2) (allD_map (fun l => decide ((wksD l).length = goodsD ls) && (wksD l).any (fun w => !isN w)) ls)))
      have hset : sSet 2 (vE (eUn lenD (eBin atD (eIxV 0 (eC (.int 0))) (eC (.int 1))))) [.v T, z, .no, .no, .no] = some (.nx g) := by
        subst hg; subst hN
        exact set_v (vE_of v0)
      cases qb : ls.all (fun l => decide ((wksD l).length = goodsD ls) && (wksD l).any (fun w => !isN w)) with
      | false =>
        rw [qb] at t2
        exact fnP_ret [.v T, .no, .no, .no, .no] rfl (seq_nx (if_f (h := sNil) t1 rfl) (seq_nx (for_of (hs _ _ _) f1) (seq_nx hset (seq_ret (if_t t2 (ret_v (vE_of rfl)))))))
      | true =>
        rw [qb] at t2
        have hlen : ∀ l ∈ ls, (wksD l).length = goodsD ls := fun l hl => by
          have := List.all_eq_true.mp qb l hl
          simp only [Bool.and_eq_true, decide_eq_true_eq] at this
          exact this.1
        have c4 := vLc_map (fi := iRange1 (aCons (eVar 2) aNil)) (t := gVar 3) (c := cYes) (f := eUn anyD (eV (vLc (iSeq (eVar 0)) (gVar 1) cYes (eBin notND (eBin atD (eIxV 1 (eC (.int 1))) (eVar 3)) (eC .none)) [1]))) (vs := [3]) (g := g) (g0 := g) (xs := List.range (goodsD ls)) (fun (i : Nat) => .int (i : Int)) (fun i => .bool (ls.any fun l => !isN (wat l i))) (by subst hg; subst hN; exact rng_of (n := goodsD ls) (ar_cons (f := eVar 2) rfl ar_nil) (by omega)) (by subst hg; rfl) (by simp; omega) (fun i hi => by
          subst hg
          have hi := List.mem_range.mp hi
          obtain ⟨h0, hh⟩ : ∃ h0 : G, h0 = [.v T, z, .v N, .v (.int (i : Int)), .no] := ⟨_, rfl⟩
          refine ⟨h0, h0, by rw [hh]; rfl, rfl, ?_, by rw [hh]; rfl⟩
          have c5 := vLc_map (fi := iSeq (eVar 0)) (t := gVar 1) (c := cYes) (f := eBin notND (eBin atD (eIxV 1 (eC (.int 1))) (eVar 3)) (eC .none)) (vs := [1]) (g := h0) (g0 := h0) (xs := ls) (fun d => d) (fun l => .bool (!isN (wat l i))) (by rw [hh, hT, List.map_id']; exact iSeq_of (f := eVar 0) rfl rfl) (by rw [hh]; rcases pz with rfl | ⟨e, rfl⟩ <;> rfl) (by omega) (fun l hl => by
            obtain ⟨x, ws, h1, h2⟩ := hL l hl
            have h3 := hlen l hl
            subst h1
            rw [hh]
            refine ⟨[.v T, .v (.tuple [x, .tuple ws]), .v N, .v (.int (i : Int)), .no], [.v T, .v (.tuple [x, .tuple ws]), .v N, .v (.int (i : Int)), .no], rfl, rfl, ?_, rfl⟩
            have w1 : eIxV 1 (eC (.int 1)) [.v T, .v (.tuple [x, .tuple ws]), .v N, .v (.int (i : Int)), .no] = some (.tuple ws, [.v T, .v (.tuple [x, .tuple ws]), .v N, .v (.int (i : Int)), .no]) := ixV_v rfl rfl rfl rfl
            have hu : ws[i]? = some (ws.getD i .none) := by
              have : i < ws.length := by have h3 : ws.length = goodsD ls := h3; omega
              simp [this]
            have w2 := eBin_of (op := atD) (h := eVar 3) (d2 := .int (i : Int)) w1 rfl (d3 := ws.getD i .none) (by have := atI_map (f := fun d : D => d) hu; rw [List.map_id'] at this; exact this)
            exact eBin_of (h := eC .none) w2 rfl (notN_J _))
          have cb5 : backG h0 (wipeG h0 [1]) [1] = h0 := by rw [hh]; rfl
          rw [cb5] at c5
          exact eUn_of (eV_o c5) (anyD_map (fun l => !isN (wat l i)) ls))
        have a4 := allD_map (fun g => ls.any fun l => !isN (wat l g)) (List.range (goodsD ls))
        exact fnP_ret [.v T, .no, .no, .no, .no] rfl (seq_nx (if_f (h := sNil) t1 rfl) (seq_nx (for_of (hs _ _ _) f1) (seq_nx hset (seq_nx (if_f (h := sNil) t2 rfl) (ret_v (vE_of (eUn_of (eV_o c4) a4)))))))
end K64
set_option Elab.async false
set_option linter.all false
set_option maxRecDepth 100000
namespace K64
open PySem Dl

/-! ### lands as data -/
structure La where
  hands : Rat
  works : List (Option Rat)
def wkD : Option Rat → D
  | none => .none
  | some r => qD r
def rowD (l : List Rat) : D := .tuple (l.map qD)
def laD (l : La) : D := .tuple [qD l.hands, .tuple (l.works.map wkD)]
def lsD (ls : List La) : D := .tuple (ls.map laD)
structure Po (k : Nat) (r : Rat) : Prop where
  b : B0 k r
  p : 0 < r
structure LaOk (m : Nat) (l : La) : Prop where
  hands : Po 30 l.hands
  len : l.works.length = m
  wok : ∀ r, some r ∈ l.works → Po 30 r
  some : ∃ r, some r ∈ l.works
structure LsOk (m : Nat) (ls : List La) : Prop where
  lo : 1 ≤ ls.length
  hi : ls.length ≤ 6
  mlo : 1 ≤ m
  mhi : m ≤ 6
  ok : ∀ l ∈ ls, LaOk m l
  able : ∀ g, g < m → ∃ l ∈ ls, ∃ r, l.works[g]? = some (some r)
theorem is_integer_ok (i : Int) : m_is_integer [.int i] = some (.v (.bool true)) := by
  unfold m_is_integer b_is_integer
  simp [fnP, runG, sSeq, sIf, sNil, sRet, sRetV, sSet, setOut, sPar, parOut, sEx, eVar, bVar, eC, eV, dat, vE, eBin, eUn, eTup, vLst, aCons, aNil, eIxV, slD, atD, L2.atI, L2.ixN, eCall, tOf, truD, Dl.tAndT, Dl.tOrT, Dl.tNotT, eAnd, eOr, eIf, notD, eChain, addA_int, subD, negD, absD, lenD, Dl.intD, tupD, cmpD, eqD_ii, neD_ii, eqD_ss, neD_ss, isi_ii, isi_ib, isi_is, isi_it, isi_tt, isi_ti, isi_ts, isi_ss, isi_si, isi_st]
theorem is_sized_ok (l : List D) (lo hi : Int) (h1 : lo ≤ (l.length : Nat)) (h2 : ((l.length : Nat) : Int) ≤ hi) : m_is_sized [.tuple l, .int lo, .int hi] = some (.v (.bool true)) := by
  unfold m_is_sized b_is_sized
  simp [fnP, runG, sSeq, sIf, sNil, sRet, sRetV, sSet, setOut, sPar, parOut, sEx, eVar, bVar, eC, eV, dat, vE, eBin, eUn, eTup, vLst, aCons, aNil, eIxV, slD, atD, L2.atI, L2.ixN, eCall, tOf, truD, Dl.tAndT, Dl.tOrT, Dl.tNotT, eAnd, eOr, eIf, notD, eChain, addA_int, subD, negD, absD, lenD, Dl.intD, tupD, cmpD, eqD_ii, neD_ii, eqD_ss, neD_ss, isi_ii, isi_ib, isi_is, isi_it, isi_tt, isi_ti, isi_ts, isi_ss, isi_si, isi_st, h1, h2]
theorem is_share_ok (r : Rat) : m_is_share [qD r] = some (.v (.bool true)) := by
  have h1 := is_sized_ok [.int r.num, .int (r.den : Int)] 2 2 (by simp) (by simp)
  have h2 := common_ok r.num (r.den : Int)
  have h3 : 0 < r.den := r.den_pos
  rw [red] at h2
  unfold m_is_share b_is_share qD
  simp [fnP, runG, sSeq, sIf, sNil, sRet, sRetV, sSet, setOut, sPar, parOut, sEx, eVar, bVar, eC, eV, dat, vE, eBin, eUn, eTup, vLst, aCons, aNil, eIxV, slD, atD, L2.atI, L2.ixN, eCall, tOf, truD, Dl.tAndT, Dl.tOrT, Dl.tNotT, eAnd, eOr, eIf, notD, eChain, addA_int, subD, negD, absD, lenD, Dl.intD, tupD, cmpD, eqD_ii, neD_ii, eqD_ss, neD_ss, isi_ii, isi_ib, isi_is, isi_it, isi_tt, isi_ti, isi_ts, isi_ss, isi_si, isi_st, h1, h2, is_integer_ok, h3]
theorem is_amount_ok {r : Rat} (h : 0 ≤ r) : m_is_amount [qD r] = some (.v (.bool true)) := by
  have h1 := is_share_ok r
  have h2 := Rat.num_nonneg.mpr h
  unfold qD at h1
  unfold m_is_amount b_is_amount qD
  simp [fnP, runG, sSeq, sIf, sNil, sRet, sRetV, sSet, setOut, sPar, parOut, sEx, eVar, bVar, eC, eV, dat, vE, eBin, eUn, eTup, vLst, aCons, aNil, eIxV, slD, atD, L2.atI, L2.ixN, eCall, tOf, truD, Dl.tAndT, Dl.tOrT, Dl.tNotT, eAnd, eOr, eIf, notD, eChain, addA_int, subD, negD, absD, lenD, Dl.intD, tupD, cmpD, eqD_ii, neD_ii, eqD_ss, neD_ss, isi_ii, isi_ib, isi_is, isi_it, isi_tt, isi_ti, isi_ts, isi_ss, isi_si, isi_st, h1, h2]
theorem is_positive_ok {r : Rat} (h : 0 < r) : m_is_positive [qD r] = some (.v (.bool true)) := by
  have h1 := is_share_ok r
  have h2 := num_pos h
  unfold qD at h1
  unfold m_is_positive b_is_positive qD
  simp [fnP, runG, sSeq, sIf, sNil, sRet, sRetV, sSet, setOut, sPar, parOut, sEx, eVar, bVar, eC, eV, dat, vE, eBin, eUn, eTup, vLst, aCons, aNil, eIxV, slD, atD, L2.atI, L2.ixN, eCall, tOf, truD, Dl.tAndT, Dl.tOrT, Dl.tNotT, eAnd, eOr, eIf, notD, eChain, addA_int, subD, negD, absD, lenD, Dl.intD, tupD, cmpD, eqD_ii, neD_ii, eqD_ss, neD_ss, isi_ii, isi_ib, isi_is, isi_it, isi_tt, isi_ti, isi_ts, isi_ss, isi_si, isi_st, h1, h2]
theorem are_amounts_ok {l : List Rat} {n : Nat} (h : ∀ r ∈ l, 0 ≤ r) (hn : l.length = n) (hl : n ≤ 1000) : m_are_amounts [rowD l, .int n] = some (.v (.bool true)) := by
  have h1 := is_sized_ok (l.map qD) n n (by simp [hn]) (by simp [hn])
  have h2 := vLc_map (fi := iSeq (eVar 0)) (t := gVar 2) (c := cYes) (f := eV (eCall m_is_amount (aCons (eVar 2) aNil))) (vs := [2]) (g := [.v (rowD l), .v (.int n), .no]) (g0 := [.v (rowD l), .v (.int n), .no]) (xs := l) qD (fun _ => .bool true)
    (by simp [iSeq, fnP, runG, sSeq, sIf, sNil, sRet, sRetV, sSet, setOut, sPar, parOut, sEx, eVar, bVar, eC, eV, dat, vE, eBin, eUn, eTup, vLst, aCons, aNil, eIxV, slD, atD, L2.atI, L2.ixN, eCall, tOf, truD, Dl.tAndT, Dl.tOrT, Dl.tNotT, eAnd, eOr, eIf, notD, eChain, addA_int, subD, negD, absD, lenD, Dl.intD, tupD, cmpD, eqD_ii, neD_ii, eqD_ss, neD_ss, isi_ii, isi_ib, isi_is, isi_it, isi_tt, isi_ti, isi_ts, isi_ss, isi_si, isi_st, rowD, seqD]) (by simp [okW]) (by omega) (fun x hx => by
      have := is_amount_ok (h x hx)
      exact ⟨[.v (rowD l), .v (.int n), .v (qD x)], [.v (rowD l), .v (.int n), .v (qD x)], rfl, rfl, by simp [fnP, runG, sSeq, sIf, sNil, sRet, sRetV, sSet, setOut, sPar, parOut, sEx, eVar, bVar, eC, eV, dat, vE, eBin, eUn, eTup, vLst, aCons, aNil, eIxV, slD, atD, L2.atI, L2.ixN, eCall, tOf, truD, Dl.tAndT, Dl.tOrT, Dl.tNotT, eAnd, eOr, eIf, notD, eChain, addA_int, subD, negD, absD, lenD, Dl.intD, tupD, cmpD, eqD_ii, neD_ii, eqD_ss, neD_ss, isi_ii, isi_ib, isi_is, isi_it, isi_tt, isi_ti, isi_ts, isi_ss, isi_si, isi_st, this], rfl⟩)
  have h3 := allD_map (fun _ : Rat => true) l
  unfold m_are_amounts b_are_amounts
  unfold rowD at h2 ⊢
  simp [fnP, runG, sSeq, sIf, sNil, sRet, sRetV, sSet, setOut, sPar, parOut, sEx, eVar, bVar, eC, eV, dat, vE, eBin, eUn, eTup, vLst, aCons, aNil, eIxV, slD, atD, L2.atI, L2.ixN, eCall, tOf, truD, Dl.tAndT, Dl.tOrT, Dl.tNotT, eAnd, eOr, eIf, notD, eChain, addA_int, subD, negD, absD, lenD, Dl.intD, tupD, cmpD, eqD_ii, neD_ii, eqD_ss, neD_ss, isi_ii, isi_ib, isi_is, isi_it, isi_tt, isi_ti, isi_ts, isi_ss, isi_si, isi_st, h1, h2, h3, backG, wipeG]
theorem isN_q (r : Rat) : isND (qD r) .none = some (.bool false) := rfl
theorem isN_w (w : Option Rat) : isND (wkD w) .none = some (.bool w.isNone) := by cases w <;> rfl
theorem notN_w (w : Option Rat) : notND (wkD w) .none = some (.bool w.isSome) := by cases w <;> rfl
theorem is_land_ok {m : Nat} {l : La} (hm : 1 ≤ m) (hm6 : m ≤ 6) (h : LaOk m l) : m_is_land [laD l] = some (.v (.bool true)) := by
  have hl := h.len
  have e1 := is_sized_ok [qD l.hands, .tuple (l.works.map wkD)] 2 2 (by simp) (by simp)
  have e2 := is_positive_ok h.hands.p
  have e3 := is_sized_ok (l.works.map wkD) 1 6 (by simp; omega) (by simp; omega)
  have v1 : ∀ z, eIxV 0 (eC (.int 1)) [.v (laD l), z] = some (.tuple (l.works.map wkD), [.v (laD l), z]) := fun z => ixV_v rfl rfl rfl rfl
  have v0 : ∀ z, eIxV 0 (eC (.int 0)) [.v (laD l), z] = some (qD l.hands, [.v (laD l), z]) := fun z => ixV_v rfl rfl rfl rfl
  have c1 := vLc_map (fi := iSeq (eIxV 0 (eC (.int 1)))) (t := gVar 1) (c := cYes) (f := eOr (eBin isND (eVar 1) (eC .none)) (eV (eCall m_is_positive (aCons (eVar 1) aNil)))) (vs := [1]) (g := [.v (laD l), .no]) (g0 := [.v (laD l), .no]) (xs := l.works) wkD (fun _ => .bool true) (iSeq_of (v1 .no) rfl) rfl (by omega) (fun w hw => by
    refine ⟨[.v (laD l), .v (wkD w)], [.v (laD l), .v (wkD w)], rfl, rfl, ?_, rfl⟩
    cases w with
    | none => exact eOr_t (eBin_of (f := eVar 1) (h := eC .none) rfl rfl (isN_w none))
    | some r => exact eOr_f (eBin_of (f := eVar 1) (h := eC .none) rfl rfl (isN_w (some r))) (eV_v (eCall_of (ar_cons (f := eVar 1) rfl ar_nil) (is_positive_ok (h.wok r hw).p))))
  have c2 := vLc_map (fi := iSeq (eIxV 0 (eC (.int 1)))) (t := gVar 1) (c := cYes) (f := eBin notND (eVar 1) (eC .none)) (vs := [1]) (g := [.v (laD l), .no]) (g0 := [.v (laD l), .no]) (xs := l.works) wkD (fun w => .bool w.isSome) (iSeq_of (v1 .no) rfl) rfl (by omega) (fun w hw =>
    ⟨[.v (laD l), .v (wkD w)], [.v (laD l), .v (wkD w)], rfl, rfl, eBin_of (f := eVar 1) (h := eC .none) rfl rfl (notN_w w), rfl⟩)
  have a1 := allD_map (fun _ : Option Rat => true) l.works
  have a2 := anyD_map (fun w : Option Rat => w.isSome) l.works
  have t2 : (l.works.any fun w => w.isSome) = true := by
    obtain ⟨r, hr⟩ := h.some
    exact List.any_eq_true.mpr ⟨_, hr, rfl⟩
  have t1 : (l.works.all fun _ => true) = true := by simp
  rw [t1] at a1
  rw [t2] at a2
  unfold m_is_land
  refine fnP_ret [.v (laD l), .no] rfl (seq_nx (if_f (h := sNil) (tOr_f (tNot_of (b := true) (tOf_b (eV_v (eCall_of (ar_cons (f := eVar 0) rfl (ar_cons rfl (ar_cons rfl ar_nil))) e1)))) (tOr_f (tNot_of (b := true) (tOf_b (eV_v (eCall_of (ar_cons (v0 .no) ar_nil) e2)))) (tNot_of (b := true) (tOf_b (eV_v (eCall_of (ar_cons (v1 .no) (ar_cons rfl (ar_cons rfl ar_nil))) e3)))))) rfl)
    (seq_nx (if_f (h := sNil) (tNot_of (b := true) (tOf_b (eUn_of (eV_o c1) a1))) rfl) (ret_v (vE_of (eUn_of (eV_o c2) a2)))))
theorem len_row {α : Type} (f : α → D) (l : List α) : lenD (.tuple (l.map f)) = some (.int (l.length : Nat)) := by simp [lenD]
theorem is_lands_ok {m : Nat} {ls : List La} (h : LsOk m ls) : m_is_lands [lsD ls] = some (.v (.bool true)) := by
  have hlo := h.lo
  have hhi := h.hi
  have hmhi := h.mhi
  have e1 := is_sized_ok (ls.map laD) 1 6 (by simp; omega) (by simp; omega)
  obtain ⟨l0, r0, rfl⟩ : ∃ l0 r0, ls = l0 :: r0 := by
    match ls, hlo with
    | a :: b, _ => exact ⟨a, b, rfl⟩
  obtain ⟨L, hL⟩ : ∃ L, L = l0 :: r0 := ⟨_, rfl⟩
  have k0 := h.ok l0 (List.mem_cons_self ..)
  have v0 : ∀ z1 z2, eUn lenD (eBin atD (eIxV 0 (eC (.int 0))) (eC (.int 1))) [.v (lsD (l0 :: r0)), z1, z2] = some (.int (m : Nat), [.v (lsD (l0 :: r0)), z1, z2]) := fun z1 z2 => by
    have w1 : eIxV 0 (eC (.int 0)) [.v (lsD (l0 :: r0)), z1, z2] = some (laD l0, [.v (lsD (l0 :: r0)), z1, z2]) := ixV_v rfl rfl rfl (atD_map (f := laD) (l := l0 :: r0) (i := 0) rfl)
    have w2 := eBin_of (op := atD) (h := eC (.int 1)) w1 rfl (d3 := .tuple (l0.works.map wkD)) rfl
    refine eUn_of w2 ?_
    rw [len_row, k0.len]
  rw [← hL] at h e1 v0 ⊢
  have c1 := vLc_map (fi := iSeq (eVar 0)) (t := gVar 2) (c := cYes) (f := eV (eCall m_is_land (aCons (eVar 2) aNil))) (vs := [2]) (g := [.v (lsD L), .no, .no]) (g0 := [.v (lsD L), .no, .no]) (xs := L) laD (fun _ => .bool true) (iSeq_of (f := eVar 0) rfl rfl) rfl (by rw [hL]; omega) (fun l hl =>
    ⟨[.v (lsD L), .no, .v (laD l)], [.v (lsD L), .no, .v (laD l)], rfl, rfl, eV_v (eCall_of (ar_cons (f := eVar 2) rfl ar_nil) (is_land_ok h.mlo h.mhi (h.ok l hl))), rfl⟩)
  have c2 := vLc_map (fi := iSeq (eVar 0)) (t := gVar 2) (c := cYes) (f := eBin eqD (eUn lenD (eIxV 2 (eC (.int 1)))) (eUn lenD (eBin atD (eIxV 0 (eC (.int 0))) (eC (.int 1))))) (vs := [2]) (g := [.v (lsD L), .no, .no]) (g0 := [.v (lsD L), .no, .no]) (xs := L) laD (fun _ => .bool true) (iSeq_of (f := eVar 0) rfl rfl) rfl (by rw [hL]; omega) (fun l hl => by
    refine ⟨[.v (lsD L), .no, .v (laD l)], [.v (lsD L), .no, .v (laD l)], rfl, rfl, ?_, rfl⟩
    have w1 : eIxV 2 (eC (.int 1)) [.v (lsD L), .no, .v (laD l)] = some (.tuple (l.works.map wkD), [.v (lsD L), .no, .v (laD l)]) := ixV_v rfl rfl rfl rfl
    have w2 := eUn_of (op := lenD) w1 (len_row _ _)
    rw [(h.ok l hl).len] at w2
    exact eBin_of w2 (v0 _ _) (eqD_t rfl))
  have a1 := allD_map (fun _ : La => true) L
  have t1 : (L.all fun _ => true) = true := by simp
  rw [t1] at a1
  obtain ⟨g', F, z, hE⟩ := forGo_inv (t := gVar 1) (b := sIf (tOf (eUn allD (eV (vLc (iSeq (eVar 0)) (gVar 2) cYes (eBin isND (eBin atD (eIxV 2 (eC (.int 1))) (eVar 1)) (eC .none)) [2])))) (sRet (vE (eC (.bool false)))) sNil)
    (fun g => ∃ z, g = [.v (lsD L), z, .no]) ((List.range m).map fun (i : Nat) => .int (i : Int)) (fun d hd g hg => by
      obtain ⟨z, rfl⟩ := hg
      obtain ⟨i, hi, rfl⟩ := List.mem_map.mp hd
      have hi := List.mem_range.mp hi
      refine ⟨[.v (lsD L), .v (.int (i : Int)), .no], [.v (lsD L), .v (.int (i : Int)), .no], rfl, ?_, _, rfl⟩
      have c3 := vLc_map (fi := iSeq (eVar 0)) (t := gVar 2) (c := cYes) (f := eBin isND (eBin atD (eIxV 2 (eC (.int 1))) (eVar 1)) (eC .none)) (vs := [2]) (g := [.v (lsD L), .v (.int (i : Int)), .no]) (g0 := [.v (lsD L), .v (.int (i : Int)), .no]) (xs := L) laD (fun l => .bool (l.works.getD i none).isNone) (iSeq_of (f := eVar 0) rfl rfl) rfl (by rw [hL]; omega) (fun l hl => by
        refine ⟨[.v (lsD L), .v (.int (i : Int)), .v (laD l)], [.v (lsD L), .v (.int (i : Int)), .v (laD l)], rfl, rfl, ?_, rfl⟩
        have w1 : eIxV 2 (eC (.int 1)) [.v (lsD L), .v (.int (i : Int)), .v (laD l)] = some (.tuple (l.works.map wkD), [.v (lsD L), .v (.int (i : Int)), .v (laD l)]) := ixV_v rfl rfl rfl rfl
        have hu : l.works[i]? = some (l.works.getD i none) := by
          have : i < l.works.length := by rw [(h.ok l hl).len]; exact hi
          simp [this]
        have w2 := eBin_of (op := atD) (h := eVar 1) (d2 := .int (i : Int)) w1 rfl (atD_map hu)
        exact eBin_of (h := eC .none) w2 rfl (isN_w _))
      have a3 := allD_map (fun l : La => (l.works.getD i none).isNone) L
      have t3 : (L.all fun l => (l.works.getD i none).isNone) = false := by
        obtain ⟨l, hl, r, hr⟩ := h.able i hi
        rw [List.all_eq_false]
        exact ⟨l, hl, by simp [List.getD_eq_getElem?_getD, hr]⟩
      rw [t3] at a3
      exact if_f (tOf_b (eUn_of (eV_o c3) a3)) rfl) [.v (lsD L), .no, .no] ⟨_, rfl⟩
  subst hE
  unfold m_is_lands
  exact fnP_ret [.v (lsD L), .no, .no] rfl (seq_nx (if_f (h := sNil) (tOr_f (tNot_of (b := true) (tOf_b (eV_v (eCall_of (ar_cons (f := eVar 0) rfl (ar_cons rfl (ar_cons rfl ar_nil))) e1)))) (tNot_of (b := true) (tOf_b (eUn_of (eV_o c1) a1)))) rfl)
    (seq_nx (if_f (h := sNil) (tNot_of (b := true) (tOf_b (eUn_of (eV_o c2) a1))) rfl) (seq_nx (for_of (rng_of (n := m) (ar_cons (v0 _ _) ar_nil) (by omega)) F) (ret_v rfl))))
theorem check_lands_ok {m : Nat} {ls : List La} (h : LsOk m ls) : m_check_lands [lsD ls] = some (.v .none) := by
  have h1 := is_lands_ok h
  unfold m_check_lands b_check_lands
  simp [fnP, runG, sSeq, sIf, sNil, sRet, sRetV, sSet, setOut, sPar, parOut, sEx, eVar, bVar, eC, eV, dat, vE, eBin, eUn, eTup, vLst, aCons, aNil, eIxV, slD, atD, L2.atI, L2.ixN, eCall, tOf, truD, Dl.tAndT, Dl.tOrT, Dl.tNotT, eAnd, eOr, eIf, notD, eChain, addA_int, subD, negD, absD, lenD, Dl.intD, tupD, cmpD, eqD_ii, neD_ii, eqD_ss, neD_ss, isi_ii, isi_ib, isi_is, isi_it, isi_tt, isi_ti, isi_ts, isi_ss, isi_si, isi_st, h1]
theorem goods_of_ok {m : Nat} {ls : List La} (h : LsOk m ls) : m_goods_of [lsD ls] = some (.v (.int m)) := by
  have hlo := h.lo
  obtain ⟨l0, r0, rfl⟩ : ∃ l0 r0, ls = l0 :: r0 := by
    match ls, hlo with
    | a :: b, _ => exact ⟨a, b, rfl⟩
  have k0 := h.ok l0 (List.mem_cons_self ..)
  unfold m_goods_of
  have w1 : eIxV 0 (eC (.int 0)) [.v (lsD (l0 :: r0))] = some (laD l0, [.v (lsD (l0 :: r0))]) := ixV_v rfl rfl rfl (atD_map (f := laD) (l := l0 :: r0) (i := 0) rfl)
  have w2 := eBin_of (op := atD) (h := eC (.int 1)) w1 rfl (d3 := .tuple (l0.works.map wkD)) rfl
  have w3 := eUn_of (op := lenD) w2 (len_row _ _)
  rw [k0.len] at w3
  exact fnP_ret [.v (lsD (l0 :: r0))] rfl (ret_v (vE_of w3))
end K64
set_option Elab.async false
set_option linter.all false
set_option maxRecDepth 100000
namespace K64
open PySem Dl

theorem lay_q (r : Rat) : (qD r).canLay0 = true := by simp [qD, PyData.canLay0, PyData.canLayAll0]
theorem dep_q (r : Rat) : (qD r).depth = 1 := by simp [qD, PyData.depth, PyData.depthAll]
theorem neD_q (r s : Rat) : neD (qD r) (qD s) = some (.bool (!decide (r = s))) := neD_sh (shaped_of (lay_q r) (by rw [dep_q]; decide)) (shaped_of (lay_q s) (by rw [dep_q]; decide)) (eqv_q r s) rfl
theorem eqD_q (r s : Rat) : eqD (qD r) (qD s) = some (.bool (decide (r = s))) := eqD_sh (shaped_of (lay_q r) (by rw [dep_q]; decide)) (shaped_of (lay_q s) (by rw [dep_q]; decide)) (eqv_q r s) rfl
def S {α : Type} (f : α → Rat) : List α → Rat
  | [] => 0
  | x :: xs => f x + S f xs
theorem foldl_S {α : Type} (f : α → Rat) : ∀ (l : List α) (acc : Rat), (l.map f).foldl (· + ·) acc = acc + S f l
  | [], acc => by simp [S, Rat.add_zero]
  | x :: xs, acc => by
    simp only [List.map_cons, List.foldl_cons, S]
    rw [foldl_S f xs, Rat.add_assoc]
theorem S_congr {α : Type} {f h : α → Rat} : ∀ {l : List α}, (∀ x ∈ l, f x = h x) → S f l = S h l
  | [], _ => rfl
  | x :: xs, H => by
    simp only [S]
    rw [H x (List.mem_cons_self ..), S_congr fun y hy => H y (List.mem_cons_of_mem _ hy)]
theorem S_zero {α : Type} : ∀ (l : List α), S (fun _ => (0 : Rat)) l = 0
  | [] => rfl
  | x :: xs => by simp only [S]; rw [S_zero xs, Rat.add_zero]
theorem S_add {α : Type} (f h : α → Rat) : ∀ (l : List α), S (fun x => f x + h x) l = S f l + S h l
  | [] => by simp only [S, Rat.add_zero]
  | x :: xs => by simp only [S]; rw [S_add f h xs]; grind
theorem S_mul {α : Type} (c : Rat) (f : α → Rat) : ∀ (l : List α), S (fun x => c * f x) l = c * S f l
  | [] => by simp [S]
  | x :: xs => by simp only [S]; rw [S_mul c f xs]; grind
theorem S_swap {α β : Type} (f : α → β → Rat) (m : List β) : ∀ (l : List α), S (fun x => S (fun y => f x y) m) l = S (fun y => S (fun x => f x y) l) m
  | [] => by simp only [S]; rw [S_zero]
  | x :: xs => by simp only [S]; rw [S_swap f m xs, S_add]
theorem S_app {α : Type} (f : α → Rat) : ∀ (l m : List α), S f (l ++ m) = S f l + S f m
  | [], m => by simp [S, Rat.zero_add]
  | x :: xs, m => by simp only [S, List.cons_append]; rw [S_app f xs m]; grind
def B0L (k : Nat) (l : List Rat) : Prop := ∀ r ∈ l, B0 k r
theorem S_b0 {α : Type} {k : Nat} {f : α → Rat} : ∀ {l : List α} {acc : Rat} {j : Nat}, B0 j acc → (∀ x ∈ l, B0 k (f x)) → B0 (j + l.length * (k + 1)) (acc + S f l)
  | [], acc, j, h, _ => by simpa [S, Rat.add_zero] using h
  | x :: xs, acc, j, h, H => by
    have h1 := h.add (H x (List.mem_cons_self ..))
    have h2 := S_b0 (l := xs) h1 fun y hy => H y (List.mem_cons_of_mem _ hy)
    simp only [S]
    rw [← Rat.add_assoc]
    refine B0.mono h2 ?_
    simp only [List.length_cons, Nat.add_mul]
    omega
theorem S_b1 {α : Type} {k : Nat} {f : α → Rat} {l : List α} (h : ∀ x ∈ l, B0 k (f x)) : B0 (1 + l.length * (k + 1)) (S f l) := by
  have := S_b0 (acc := 0) (j := 1) (b0_zero (by decide)) h
  rwa [Rat.zero_add] at this
theorem law_sum_loop {k : Nat} (L : Sl) : ∀ (rs : List Rat) (acc : Rat) (z : Sl) (j : Nat), B0 j acc → B0L k rs → k ≤ 4400 → j + rs.length * (k + 1) ≤ 400000 →
    ∃ z', forGo (gVar 2) (sSet 1 (eCall m__law_plus (aCons (eVar 1) (aCons (eVar 2) aNil)))) (rs.map qD) [L, .v (qD acc), z] = some (.nx [L, .v (qD (rs.foldl (· + ·) acc)), z'])
  | [], acc, z, j, _, _, _, _ => ⟨z, rfl⟩
  | r :: rs, acc, z, j, h, hr, hk, hl => by
    have hr0 := hr r (List.mem_cons_self ..)
    simp only [List.length_cons, Nat.add_mul] at hl
    have h1 := law_plus_ok (h.mono (k := 400000) (by omega)) (hr0.mono hk)
    obtain ⟨z', h2⟩ := law_sum_loop L rs (acc + r) (.v (qD r)) _ (h.add hr0) (fun x hx => hr x (List.mem_cons_of_mem _ hx)) hk (by omega)
    refine ⟨z', ?_⟩
    rw [List.map_cons, forGo]
    simp [gVar, fnP, runG, sSeq, sIf, sNil, sRet, sRetV, sSet, setOut, sPar, parOut, sEx, eVar, bVar, eC, eV, dat, vE, eBin, eUn, eTup, vLst, aCons, aNil, eIxV, slD, atD, L2.atI, L2.ixN, eCall, tOf, truD, Dl.tAndT, Dl.tOrT, Dl.tNotT, eAnd, eOr, eIf, notD, eChain, addA_int, subD, negD, absD, lenD, Dl.intD, tupD, cmpD, eqD_ii, neD_ii, eqD_ss, neD_ss, isi_ii, isi_ib, isi_is, isi_it, isi_tt, isi_ti, isi_ts, isi_ss, isi_si, isi_st, h1, h2]
theorem summed_loop {k : Nat} (L : Sl) : ∀ (rs : List Rat) (acc : Rat) (z : Sl) (j : Nat), B0 j acc → B0L k rs → k ≤ 4400 → j + rs.length * (k + 1) ≤ 400000 →
    ∃ z', forGo (gVar 2) (sSet 1 (eCall m_plus (aCons (eVar 1) (aCons (eVar 2) aNil)))) (rs.map qD) [L, .v (qD acc), z] = some (.nx [L, .v (qD (rs.foldl (· + ·) acc)), z'])
  | [], acc, z, j, _, _, _, _ => ⟨z, rfl⟩
  | r :: rs, acc, z, j, h, hr, hk, hl => by
    have hr0 := hr r (List.mem_cons_self ..)
    simp only [List.length_cons, Nat.add_mul] at hl
    have h1 := plus_ok (h.mono (k := 400000) (by omega)) (hr0.mono hk)
    obtain ⟨z', h2⟩ := summed_loop L rs (acc + r) (.v (qD r)) _ (h.add hr0) (fun x hx => hr x (List.mem_cons_of_mem _ hx)) hk (by omega)
    refine ⟨z', ?_⟩
    rw [List.map_cons, forGo]
    simp [gVar, fnP, runG, sSeq, sIf, sNil, sRet, sRetV, sSet, setOut, sPar, parOut, sEx, eVar, bVar, eC, eV, dat, vE, eBin, eUn, eTup, vLst, aCons, aNil, eIxV, slD, atD, L2.atI, L2.ixN, eCall, tOf, truD, Dl.tAndT, Dl.tOrT, Dl.tNotT, eAnd, eOr, eIf, notD, eChain, addA_int, subD, negD, absD, lenD, Dl.intD, tupD, cmpD, eqD_ii, neD_ii, eqD_ss, neD_ss, isi_ii, isi_ib, isi_is, isi_it, isi_tt, isi_ti, isi_ts, isi_ss, isi_si, isi_st, h1, h2]
theorem q_zero : qD 0 = .tuple [.int 0, .int 1] := rfl
theorem total_ok {α : Type} {k : Nat} {f : α → Rat} {l : List α} (h : ∀ x ∈ l, B0 k (f x)) (hk : k ≤ 4400) (hl : l.length ≤ 20) :
    m__law_sum [.list (l.map fun x => qD (f x))] = some (.v (qD (S f l))) ∧ m_summed [.list (l.map fun x => qD (f x))] = some (.v (qD (S f l))) := by
  have hB : B0L k (l.map f) := fun r hr => by
    obtain ⟨x, hx, rfl⟩ := List.mem_map.mp hr
    exact h x hx
  have h3 : l.length * (k + 1) ≤ 20 * (k + 1) := Nat.mul_le_mul_right _ hl
  have e : (l.map fun x => qD (f x)) = (l.map f).map qD := by simp
  have e2 := foldl_S f l 0
  rw [Rat.zero_add] at e2
  rw [e]
  refine ⟨?_, ?_⟩
  · obtain ⟨z, h1⟩ := law_sum_loop (.v (.list ((l.map f).map qD))) (l.map f) 0 .no 1 (b0_zero (by decide)) hB hk (by simp; omega)
    rw [q_zero, e2] at h1
    unfold m__law_sum b__law_sum
    simp [fnP, runG, sSeq, sIf, sNil, sRet, sRetV, sSet, setOut, sPar, parOut, sEx, eVar, bVar, eC, eV, dat, vE, eBin, eUn, eTup, vLst, aCons, aNil, eIxV, slD, atD, L2.atI, L2.ixN, eCall, tOf, truD, Dl.tAndT, Dl.tOrT, Dl.tNotT, eAnd, eOr, eIf, notD, eChain, addA_int, subD, negD, absD, lenD, Dl.intD, tupD, cmpD, eqD_ii, neD_ii, eqD_ss, neD_ss, isi_ii, isi_ib, isi_is, isi_it, isi_tt, isi_ti, isi_ts, isi_ss, isi_si, isi_st, sFor, iSeq, seqD] at h1 ⊢
    simp [fnP, runG, sSeq, sIf, sNil, sRet, sRetV, sSet, setOut, sPar, parOut, sEx, eVar, bVar, eC, eV, dat, vE, eBin, eUn, eTup, vLst, aCons, aNil, eIxV, slD, atD, L2.atI, L2.ixN, eCall, tOf, truD, Dl.tAndT, Dl.tOrT, Dl.tNotT, eAnd, eOr, eIf, notD, eChain, addA_int, subD, negD, absD, lenD, Dl.intD, tupD, cmpD, eqD_ii, neD_ii, eqD_ss, neD_ss, isi_ii, isi_ib, isi_is, isi_it, isi_tt, isi_ti, isi_ts, isi_ss, isi_si, isi_st, h1]
  · obtain ⟨z, h1⟩ := summed_loop (.v (.list ((l.map f).map qD))) (l.map f) 0 .no 1 (b0_zero (by decide)) hB hk (by simp; omega)
    rw [q_zero, e2] at h1
    unfold m_summed b_summed
    simp [fnP, runG, sSeq, sIf, sNil, sRet, sRetV, sSet, setOut, sPar, parOut, sEx, eVar, bVar, eC, eV, dat, vE, eBin, eUn, eTup, vLst, aCons, aNil, eIxV, slD, atD, L2.atI, L2.ixN, eCall, tOf, truD, Dl.tAndT, Dl.tOrT, Dl.tNotT, eAnd, eOr, eIf, notD, eChain, addA_int, subD, negD, absD, lenD, Dl.intD, tupD, cmpD, eqD_ii, neD_ii, eqD_ss, neD_ss, isi_ii, isi_ib, isi_is, isi_it, isi_tt, isi_ti, isi_ts, isi_ss, isi_si, isi_st, sFor, iSeq, seqD, k_ZERO] at h1 ⊢
    simp [fnP, runG, sSeq, sIf, sNil, sRet, sRetV, sSet, setOut, sPar, parOut, sEx, eVar, bVar, eC, eV, dat, vE, eBin, eUn, eTup, vLst, aCons, aNil, eIxV, slD, atD, L2.atI, L2.ixN, eCall, tOf, truD, Dl.tAndT, Dl.tOrT, Dl.tNotT, eAnd, eOr, eIf, notD, eChain, addA_int, subD, negD, absD, lenD, Dl.intD, tupD, cmpD, eqD_ii, neD_ii, eqD_ss, neD_ss, isi_ii, isi_ib, isi_is, isi_it, isi_tt, isi_ti, isi_ts, isi_ss, isi_si, isi_st, h1]
theorem zipU_of {α β : Type} {f : Fa} {g g1 : G} {d e : D} {F : α → D} {H : β → D} {l : List α} {m : List β} (e0 : f g = some ([d, e], g1)) (h1 : seqD d = some (l.map F)) (h2 : seqD e = some (m.map H)) :
    iZipU f g = some ((l.zip m).map fun p => .tuple [F p.1, H p.2], g1) := by
  unfold iZipU
  simp only [e0, h1, h2, Option.bind_some, Option.map_some, zipL_map]
theorem lcGo_filter {α : Type} {t : Fg} {c : Ft} {f : Fe} {vs : List Nat} {g : G} (enc : α → D) (h : α → D) (p : α → Bool) : ∀ (xs : List α), (∀ x ∈ xs, ∃ g1 g2, t (enc x) g = some g1 ∧ c g1 = some (p x, g2) ∧ wipeG g2 vs = g ∧ ∃ g3, f g2 = some (h x, g3) ∧ wipeG g3 vs = g) → lcGo t c f vs (xs.map enc) g = some ((xs.filter p).map h, g)
  | [], _ => rfl
  | d :: r, H => by
    obtain ⟨g1, g2, h1, h2, h3, g3, h4, h5⟩ := H d (List.mem_cons_self ..)
    have ih := lcGo_filter enc h p r fun d hd => H d (List.mem_cons_of_mem _ hd)
    by_cases e : p d = true
    · simp [lcGo, h1, h2, h4, h5, ih, e]
    · simp only [Bool.not_eq_true] at e
      simp [lcGo, h1, h2, h3, ih, e]
theorem vLc_filter {α : Type} {fi : Fa} {t : Fg} {c : Ft} {f : Fe} {vs : List Nat} {g g0 : G} {xs : List α} (enc : α → D) (h : α → D) (p : α → Bool) (hi : fi g = some (xs.map enc, g0)) (ok : okW g0 vs = true) (hl : xs.length ≤ 1000000)
    (H : ∀ x ∈ xs, ∃ g1 g2, t (enc x) (wipeG g0 vs) = some g1 ∧ c g1 = some (p x, g2) ∧ wipeG g2 vs = wipeG g0 vs ∧ ∃ g3, f g2 = some (h x, g3) ∧ wipeG g3 vs = wipeG g0 vs) : vLc fi t c f vs g = some (.own none ((xs.filter p).map h), backG g0 (wipeG g0 vs) vs) := by
  have e := lcGo_filter enc h p xs H
  have l : (xs.filter p).length ≤ xs.length := List.length_filter_le ..
  exact vLc_of hi ok e (by simp; omega)
theorem zip_self {α : Type} : ∀ l : List α, l.zip l = l.map fun d => (d, d)
  | [] => rfl
  | x :: xs => by simp [zip_self xs]
theorem call2 {m : List D → Option Sl} {a b d : D} {g : G} (i j : Nat) (h1 : eVar i g = some (a, g)) (h2 : eVar j g = some (b, g)) (h : m [a, b] = some (.v d)) : eV (eCall m (aCons (eVar i) (aCons (eVar j) aNil))) g = some (d, g) := eV_v (eCall_of (ar_cons h1 (ar_cons h2 ar_nil)) h)
theorem ext_of {i : Nat} {f : Fv} {g g1 : G} {t : Option Addr} {ds ds0 es : List D} (e0 : ownD g[i]? = some ds0) (e : f g = some (.own none es, g1)) (e1 : g1[i]? = some (.own t ds)) (hl : ds.length + es.length ≤ 1000000) : eExt i f g = some (.none, g1.set i (.own t (ds ++ es))) := by
  unfold eExt
  simp only [e0, e, e1, hl, Option.bind_some, if_true]

end K64
set_option Elab.async false
set_option linter.all false
set_option maxRecDepth 100000
namespace K64
open PySem Dl
theorem less_big {r s : Rat} (hr : B0 4400 r) (hs : B0 4400 s) : m_is_less [qD r, qD s] = some (.v (.bool (decide (r < s)))) := (less_ok hr hs).1
/-! ### the work that a row takes -/
def fW (p : Option Rat × Rat) : Rat := p.1.getD 0 * p.2
def wkS (ws : List (Option Rat)) (rs : List Rat) : Rat := S fW (ws.zip rs)
def fits (ws : List (Option Rat)) (rs : List Rat) : Bool := (ws.zip rs).all fun p => p.1.isSome || decide (p.2 = 0)
def okRow (l : La) (rs : List Rat) : Bool := fits l.works rs && !decide (l.hands < wkS l.works rs)
theorem asked_loop (A B : Sl) : ∀ (ps : List (Option Rat × Rat)) (acc : Rat) (j : Nat) (z3 z4 : Sl), B0 j acc → (∀ p ∈ ps, B0 400 p.2 ∧ ∀ u, p.1 = some u → B0 30 u) → j + ps.length * 432 ≤ 4400 →
    ((ps.all fun p => p.1.isSome || decide (p.2 = 0)) = true → ∃ z3' z4', forGo (gTup (gsCons (gVar 3) (gsCons (gVar 4) gsNil)) 2) (sSeq (sIf (tAndT (tOf (eBin isND (eVar 3) (eC .none))) (tOf (eBin neD (eVar 4) (eC k_ZERO)))) (sRet (vE (eC .none))) sNil)
    (sIf (tOf (eBin notND (eVar 3) (eC .none))) (sSet 2 (eCall m_plus (aCons (eVar 2) (aCons (eV (eCall m_times (aCons (eVar 3) (aCons (eVar 4) aNil)))) aNil)))) sNil)) (ps.map fun p => .tuple [wkD p.1, qD p.2]) [A, B, .v (qD acc), z3, z4] = some (.nx [A, B, .v (qD (acc + S fW ps)), z3', z4'])) ∧
    ((ps.all fun p => p.1.isSome || decide (p.2 = 0)) = false → ∃ g', forGo (gTup (gsCons (gVar 3) (gsCons (gVar 4) gsNil)) 2) (sSeq (sIf (tAndT (tOf (eBin isND (eVar 3) (eC .none))) (tOf (eBin neD (eVar 4) (eC k_ZERO)))) (sRet (vE (eC .none))) sNil)
    (sIf (tOf (eBin notND (eVar 3) (eC .none))) (sSet 2 (eCall m_plus (aCons (eVar 2) (aCons (eV (eCall m_times (aCons (eVar 3) (aCons (eVar 4) aNil)))) aNil)))) sNil)) (ps.map fun p => .tuple [wkD p.1, qD p.2]) [A, B, .v (qD acc), z3, z4] = some (.ret (.v .none) g'))
  | [], acc, j, z3, z4, _, _, _ => ⟨fun _ => ⟨z3, z4, by simp [forGo, S, Rat.add_zero]⟩, fun h => by simp at h⟩
  | (w, r) :: ps, acc, j, z3, z4, ha, hp, hl => by
    simp only [List.length_cons, Nat.add_mul] at hl
    obtain ⟨hr, hu⟩ := hp (w, r) (by simp)
    have hps : ∀ p ∈ ps, B0 400 p.2 ∧ ∀ u, p.1 = some u → B0 30 u := fun p h => hp p (List.mem_cons_of_mem _ h)
    obtain ⟨b, hb⟩ : ∃ b, b = (sSeq (sIf (tAndT (tOf (eBin isND (eVar 3) (eC .none))) (tOf (eBin neD (eVar 4) (eC k_ZERO)))) (sRet (vE (eC .none))) sNil)
    (sIf (tOf (eBin notND (eVar 3) (eC .none))) (sSet 2 (eCall m_plus (aCons (eVar 2) (aCons (eV (eCall m_times (aCons (eVar 3) (aCons (eVar 4) aNil)))) aNil)))) sNil)) := ⟨_, rfl⟩
    have t : gTup (gsCons (gVar 3) (gsCons (gVar 4) gsNil)) 2 (.tuple [wkD w, qD r]) [A, B, .v (qD acc), z3, z4] = some [A, B, .v (qD acc), .v (wkD w), .v (qD r)] := rfl
    cases w with
    | none =>
      have n1 : eBin isND (eVar 3) (eC .none) [A, B, .v (qD acc), .v (wkD none), .v (qD r)] = some (.bool true, [A, B, .v (qD acc), .v (wkD none), .v (qD r)]) := eBin_of (f := eVar 3) (h := eC .none) rfl rfl rfl
      have n2 : eBin neD (eVar 4) (eC k_ZERO) [A, B, .v (qD acc), .v (wkD none), .v (qD r)] = some (.bool (!decide (r = 0)), [A, B, .v (qD acc), .v (wkD none), .v (qD r)]) := eBin_of (f := eVar 4) (h := eC k_ZERO) rfl rfl (neD_q r 0)
      have n3 : eBin notND (eVar 3) (eC .none) [A, B, .v (qD acc), .v (wkD none), .v (qD r)] = some (.bool false, [A, B, .v (qD acc), .v (wkD none), .v (qD r)]) := eBin_of (f := eVar 3) (h := eC .none) rfl rfl rfl
      by_cases h0 : r = 0
      · rw [decide_eq_true h0] at n2
        have e : b [A, B, .v (qD acc), .v (wkD none), .v (qD r)] = some (.nx [A, B, .v (qD acc), .v (wkD none), .v (qD r)]) := by
          rw [hb]
          exact seq_nx (if_f (tAnd_t (tOf_b n1) (tOf_b n2)) rfl) (if_f (tOf_b n3) rfl)
        obtain ⟨i1, i2⟩ := asked_loop A B ps acc j (.v (wkD none)) (.v (qD r)) ha hps (by omega)
        rw [← hb] at i1 i2 ⊢
        have s : S fW ((none, r) :: ps) = S fW ps := by simp only [S, fW]; rw [h0]; simp [Rat.zero_add]
        rw [s]
        refine ⟨fun q => ?_, fun q => ?_⟩
        · obtain ⟨a, c, k⟩ := i1 (by simpa [h0] using q)
          exact ⟨a, c, by simp [forGo, t, e, k]⟩
        · obtain ⟨a, k⟩ := i2 (by simpa only [List.all_cons, h0, decide_true, Bool.or_true, Bool.true_and] using q)
          exact ⟨a, by simp [forGo, t, e, k]⟩
      · rw [decide_eq_false h0] at n2
        have e : b [A, B, .v (qD acc), .v (wkD none), .v (qD r)] = some (.ret (.v .none) [A, B, .v (qD acc), .v (wkD none), .v (qD r)]) := by
          rw [hb]
          exact seq_ret (if_t (tAnd_t (tOf_b n1) (tOf_b n2)) (ret_v (vE_of rfl)))
        rw [← hb]
        exact ⟨fun q => by simp [h0] at q, fun _ => ⟨_, by simp [forGo, t, e]; rfl⟩⟩
    | some u =>
      have hu := hu u rfl
      have n1 : eBin isND (eVar 3) (eC .none) [A, B, .v (qD acc), .v (wkD (some u)), .v (qD r)] = some (.bool false, [A, B, .v (qD acc), .v (wkD (some u)), .v (qD r)]) := eBin_of (f := eVar 3) (h := eC .none) rfl rfl rfl
      have n3 : eBin notND (eVar 3) (eC .none) [A, B, .v (qD acc), .v (wkD (some u)), .v (qD r)] = some (.bool true, [A, B, .v (qD acc), .v (wkD (some u)), .v (qD r)]) := eBin_of (f := eVar 3) (h := eC .none) rfl rfl rfl
      have hm : B0 430 (u * r) := (hu.mul hr).mono (by decide)
      have m1 := times_ok (hu.mono (k := 4400) (by decide)) (hr.mono (k := 4400) (by decide))
      have m2 := plus_ok (ha.mono (k := 400000) (by omega)) (hm.mono (k := 4400) (by decide))
      have e : b [A, B, .v (qD acc), .v (wkD (some u)), .v (qD r)] = some (.nx [A, B, .v (qD (acc + u * r)), .v (wkD (some u)), .v (qD r)]) := by
        rw [hb]
        have c : eCall m_plus (aCons (eVar 2) (aCons (eV (eCall m_times (aCons (eVar 3) (aCons (eVar 4) aNil)))) aNil)) [A, B, .v (qD acc), .v (wkD (some u)), .v (qD r)] = some (.v (qD (acc + u * r)), [A, B, .v (qD acc), .v (wkD (some u)), .v (qD r)]) := eCall_of (ar_cons (f := eVar 2) rfl (ar_cons (eV_v (eCall_of (ar_cons (f := eVar 3) rfl (ar_cons (f := eVar 4) rfl ar_nil)) m1)) ar_nil)) m2
        exact seq_nx (if_f (tAnd_f (tOf_b n1)) rfl) (if_t (tOf_b n3) (set_v c))
      obtain ⟨i1, i2⟩ := asked_loop A B ps (acc + u * r) (j + 430 + 1) (.v (wkD (some u))) (.v (qD r)) (ha.add hm) hps (by omega)
      rw [← hb] at i1 i2 ⊢
      have s : acc + u * r + S fW ps = acc + S fW ((some u, r) :: ps) := by simp only [S, fW, Option.getD_some]; grind
      rw [s] at i1
      refine ⟨fun q => ?_, fun q => ?_⟩
      · obtain ⟨a, c, k⟩ := i1 (by simpa using q)
        exact ⟨a, c, by simp [forGo, t, e, k]⟩
      · obtain ⟨a, k⟩ := i2 (by simpa only [List.all_cons, Option.isSome_some, Bool.true_or, Bool.true_and] using q)
        exact ⟨a, by simp [forGo, t, e, k]⟩
theorem zip_b {l : La} {m : Nat} (h : LaOk m l) {rs : List Rat} (hr : ∀ r ∈ rs, B0 400 r) : ∀ p ∈ l.works.zip rs, B0 400 p.2 ∧ ∀ u, p.1 = some u → B0 30 u := fun p hp => by
  have := List.of_mem_zip hp
  exact ⟨hr _ this.2, fun u hu => (h.wok u (by rw [← hu]; exact this.1)).b⟩
theorem wkS_b {l : La} {m : Nat} (hm : m ≤ 6) (h : LaOk m l) {rs : List Rat} (hr : ∀ r ∈ rs, B0 400 r) : B0 3000 (wkS l.works rs) := by
  have hz := zip_b h hr
  have hl : (l.works.zip rs).length ≤ 6 := by rw [List.length_zip]; have := h.len; omega
  have := S_b1 (k := 430) (f := fW) (l := l.works.zip rs) (fun p hp => by
    obtain ⟨h1, h2⟩ := hz p hp
    unfold fW
    cases q : p.1 with
    | none => simpa [Rat.zero_mul] using b0_zero (k := 430) (by decide)
    | some u => exact ((h2 u q).mul h1).mono (by decide))
  refine this.mono ?_
  have : (l.works.zip rs).length * (430 + 1) ≤ 6 * 431 := Nat.mul_le_mul_right _ hl
  omega
theorem asked_ok {l : La} {m : Nat} (hm : m ≤ 6) (h : LaOk m l) {rs : List Rat} (hr : ∀ r ∈ rs, B0 400 r) :
    m_asked [.tuple (l.works.map wkD), rowD rs] = some (.v (if fits l.works rs = true then qD (wkS l.works rs) else .none)) := by
  have hz := zip_b h hr
  have hl : (l.works.zip rs).length ≤ 6 := by rw [List.length_zip]; have := h.len; omega
  obtain ⟨i1, i2⟩ := asked_loop (.v (.tuple (l.works.map wkD))) (.v (rowD rs)) (l.works.zip rs) 0 1 .no .no (b0_zero (by decide)) hz (by omega)
  have it := zipU_of (f := aCons (eVar 0) (aCons (eVar 1) aNil)) (g := [.v (.tuple (l.works.map wkD)), .v (rowD rs), .v (qD 0), .no, .no]) (F := wkD) (H := qD) (l := l.works) (m := rs) (ar_cons rfl (ar_cons (f := eVar 1) rfl ar_nil)) rfl rfl
  unfold m_asked
  cases q : fits l.works rs with
  | true =>
    obtain ⟨z3, z4, k⟩ := i1 q
    rw [Rat.zero_add] at k
    exact fnP_ret [.v (.tuple (l.works.map wkD)), .v (rowD rs), .no, .no, .no] rfl (seq_nx (set_v (d := qD 0) (vE_of rfl)) (seq_nx (for_of it k) (retV_v rfl)))
  | false =>
    obtain ⟨g', k⟩ := i2 q
    exact fnP_ret [.v (.tuple (l.works.map wkD)), .v (rowD rs), .no, .no, .no] rfl (seq_nx (set_v (d := qD 0) (vE_of rfl)) (seq_ret (for_of it k)))
/-! ### a part -/
def isAms (n : Nat) : D → Bool
  | .tuple ds => decide (ds.length = n) && ds.all (isFr 0)
  | _ => false
theorem are_amounts_J {d : D} {n : Nat} (h : gd 400 d = true) : m_are_amounts [d, .int n] = some (.v (.bool (isAms n d))) := by
  have e1 := is_sized_J h n n
  unfold m_are_amounts
  have e := eAndB (c := isAms n d) (g := [.v d, .v (.int n), .no]) (f := eV (eCall m_is_sized (aCons (eVar 0) (aCons (eVar 1) (aCons (eVar 1) aNil))))) (h := eUn allD (eV (vLc (iSeq (eVar 0)) (gVar 2) cYes (eV (eCall m_is_amount (aCons (eVar 2) aNil))) [2])))
    (eV_v (eCall_of (ar_cons (f := eVar 0) rfl (ar_cons (f := eVar 1) rfl (ar_cons (f := eVar 1) rfl ar_nil))) e1)) (fun z => by
      obtain ⟨ds, rfl⟩ : ∃ ws, d = .tuple ws := by
        cases d <;> simp [isSz] at z
        exact ⟨_, rfl⟩
      have hl : ds.length ≤ 1000 := (gd_tup.mp h).1
      have c1 := vLc_map (fi := iSeq (eVar 0)) (t := gVar 2) (c := cYes) (f := eV (eCall m_is_amount (aCons (eVar 2) aNil))) (vs := [2]) (g := [.v (.tuple ds), .v (.int n), .no]) (g0 := [.v (.tuple ds), .v (.int n), .no]) (xs := ds) (fun d => d) (fun w => .bool (isFr 0 w)) (by rw [List.map_id']; exact iSeq_of (f := eVar 0) rfl rfl) rfl (by omega) (fun w hw =>
        ⟨[.v (.tuple ds), .v (.int n), .v w], [.v (.tuple ds), .v (.int n), .v w], rfl, rfl, eV_v (eCall_of (ar_cons (f := eVar 2) rfl ar_nil) (is_amount_J (gd_in h hw))), rfl⟩)
      have a1 := allD_map (isFr 0) ds
      have e2 : isAms n (.tuple ds) = ds.all (isFr 0) := by
        rw [show isSz n n (.tuple ds) = _ from isSz_tup n n ds] at z
        simp only [Bool.and_eq_true, decide_eq_true_eq] at z
        simp only [isAms, decide_eq_true (show ds.length = n by omega), Bool.true_and]
      rw [e2]
      exact eUn_of (eV_o c1) a1)
  have e2 : (isSz n n d && isAms n d) = isAms n d := by
    cases d with
    | tuple ds =>
      rw [show isSz n n (.tuple ds) = _ from isSz_tup n n ds]
      simp only [isAms]
      by_cases q : ds.length = n
      · simp [q]
      · rw [decide_eq_false q]; simp
    | _ => simp [isAms]
  rw [e2] at e
  exact fnP_ret [.v d, .v (.int n), .no] rfl (ret_v (vE_of e))
theorem isFr_of {l : Int} {k : Nat} {d : D} (h : isFr l d = true) (g : gd k d = true) : ∃ r : Rat, d = qD r ∧ l ≤ r.num ∧ B0 k r := by
  unfold isFr at h
  split at h
  · rename_i a b
    simp only [Bool.and_eq_true, decide_eq_true_eq] at h
    obtain ⟨h1, h2, h3⟩ := h
    have f := fdiv_gcd (a := a) h1
    rw [h3] at f
    simp at f
    obtain ⟨ga, gb⟩ := gd2 g
    have ga : a.natAbs < 2 ^ k := by simpa [gd] using ga
    have gb : b.natAbs < 2 ^ k := by simpa [gd] using gb
    refine ⟨Rat.divInt a b, by unfold qD; rw [← f.1, ← f.2], by rw [← f.1]; exact h2, ⟨by rw [← f.1]; exact ga, by have := f.2; omega⟩⟩
  · cases h
theorem isFr_q (l : Int) (r : Rat) : isFr l (qD r) = decide (l ≤ r.num) := by
  have h1 := r.den_pos
  have h2 := red r
  simp [qD, isFr, h1, h2]
theorem isAms_of {n : Nat} {d : D} (h : isAms n d = true) (g : gd 400 d = true) : ∃ rs : List Rat, d = rowD rs ∧ rs.length = n ∧ ∀ r ∈ rs, 0 ≤ r ∧ B0 400 r := by
  cases d with
  | tuple ds =>
    simp only [isAms, Bool.and_eq_true, decide_eq_true_eq, List.all_eq_true] at h
    obtain ⟨rs, rfl, hp⟩ := mapOf (f := qD) (P := fun r => 0 ≤ r ∧ B0 400 r) (ds := ds) (fun d hd => by
      obtain ⟨r, h1, h2, h3⟩ := isFr_of (h.2 d hd) (gd_in g hd)
      exact ⟨r, h1, Rat.num_nonneg.mp h2, h3⟩)
    exact ⟨rs, rfl, by simpa using h.1, hp⟩
  | _ => simp [isAms] at h
theorem isAms_row {rs : List Rat} {n : Nat} (h : rs.length = n) (h0 : ∀ r ∈ rs, 0 ≤ r) : isAms n (rowD rs) = true := by
  simp only [rowD, isAms, Bool.and_eq_true, decide_eq_true_eq, List.length_map, List.all_map, List.all_eq_true]
  refine ⟨h, fun r hr => ?_⟩
  show isFr 0 (qD r) = true
  rw [isFr_q]
  simpa using Rat.num_nonneg.mpr (h0 r hr)
theorem qD_inj {r s : Rat} (h : qD r = qD s) : r = s := by
  have e := eqv_q r s
  rw [h, eqv_q] at e
  simpa using e.symm
theorem rowD_inj {rs ss : List Rat} (h : rowD rs = rowD ss) : rs = ss := by
  unfold rowD at h
  injection h with h
  exact (List.map_inj_right (fun _ _ => qD_inj)).mp h
noncomputable def isPart (m : Nat) (l : La) (d : D) : Bool := @decide (∃ rs, d = rowD rs ∧ rs.length = m ∧ (∀ r ∈ rs, 0 ≤ r) ∧ okRow l rs = true) (Classical.propDecidable _)
theorem isPart_iff {m : Nat} {l : La} {d : D} : isPart m l d = true ↔ ∃ rs, d = rowD rs ∧ rs.length = m ∧ (∀ r ∈ rs, 0 ≤ r) ∧ okRow l rs = true := @decide_eq_true_iff _ (Classical.propDecidable _)
theorem isPart_row {m : Nat} {l : La} {rs : List Rat} (h : rs.length = m) (h0 : ∀ r ∈ rs, 0 ≤ r) : isPart m l (rowD rs) = okRow l rs := by
  rw [Bool.eq_iff_iff, isPart_iff]
  exact ⟨fun ⟨ss, e, _, _, k⟩ => by rw [rowD_inj e]; exact k, fun k => ⟨rs, rfl, h, h0, k⟩⟩
theorem isPart_no {m : Nat} {l : La} {d : D} (h : isAms m d = false) : isPart m l d = false := by
  refine Bool.eq_false_iff.mpr fun q => ?_
  obtain ⟨rs, rfl, h1, h2, _⟩ := isPart_iff.mp q
  rw [isAms_row h1 h2] at h
  cases h
theorem is_part_J {m : Nat} {ls : List La} (h : LsOk m ls) {i : Nat} {l : La} (hi : ls[i]? = some l) {d : D} (hd : gd 400 d = true) : m_is_part [lsD ls, .int (i : Int), d] = some (.v (.bool (isPart m l d))) := by
  have e1 := goods_of_ok h
  have e2 := are_amounts_J (n := m) hd
  have hl := h.ok l (List.mem_of_getElem? hi)
  unfold m_is_part
  have t : tNotT (tOf (eV (eCall m_are_amounts (aCons (eVar 2) (aCons (eV (eCall m_goods_of (aCons (eVar 0) aNil))) aNil))))) [.v (lsD ls), .v (.int (i : Int)), .v d, .no] = some (!isAms m d, [.v (lsD ls), .v (.int (i : Int)), .v d, .no]) :=
    tNot_of (tOf_b (eV_v (eCall_of (ar_cons (f := eVar 2) rfl (ar_cons (eV_v (eCall_of (ar_cons (f := eVar 0) rfl ar_nil) e1)) ar_nil)) e2)))
  cases q : isAms m d with
  | false =>
    rw [q] at t
    rw [isPart_no q]
    exact fnP_ret [.v (lsD ls), .v (.int (i : Int)), .v d, .no] rfl (seq_ret (if_t t (ret_v (vE_of rfl))))
  | true =>
    rw [q] at t
    obtain ⟨rs, rfl, hn, hp⟩ := isAms_of q hd
    rw [isPart_row hn fun r hr => (hp r hr).1]
    have e3 := asked_ok h.mhi hl (rs := rs) fun r hr => (hp r hr).2
    have v0 : ∀ z, eIxV 0 (eVar 1) [.v (lsD ls), .v (.int (i : Int)), .v (rowD rs), z] = some (laD l, [.v (lsD ls), .v (.int (i : Int)), .v (rowD rs), z]) := fun z => ixV_v (f := eVar 1) rfl rfl rfl (atD_map hi)
    have v1 : ∀ z, eBin atD (eIxV 0 (eVar 1)) (eC (.int 1)) [.v (lsD ls), .v (.int (i : Int)), .v (rowD rs), z] = some (.tuple (l.works.map wkD), [.v (lsD ls), .v (.int (i : Int)), .v (rowD rs), z]) := fun z => eBin_of (h := eC (.int 1)) (v0 z) rfl rfl
    have v2 : ∀ z, eBin atD (eIxV 0 (eVar 1)) (eC (.int 0)) [.v (lsD ls), .v (.int (i : Int)), .v (rowD rs), z] = some (qD l.hands, [.v (lsD ls), .v (.int (i : Int)), .v (rowD rs), z]) := fun z => eBin_of (h := eC (.int 0)) (v0 z) rfl rfl
    have st := set_v (i := 3) (eCall_of (ar_cons (v1 .no) (ar_cons (f := eVar 2) rfl ar_nil)) e3)
    unfold okRow
    cases qf : fits l.works rs with
    | false =>
      rw [qf] at st
      exact fnP_ret [.v (lsD ls), .v (.int (i : Int)), .v (rowD rs), .no] rfl (seq_nx (if_f (h := sNil) t rfl) (seq_nx st (ret_v (vE_of (eAnd_f (eBin_of (f := eVar 3) (h := eC .none) rfl rfl rfl))))))
    | true =>
      rw [qf] at st
      have lt := less_big (hl.hands.b.mono (k := 4400) (by decide)) ((wkS_b h.mhi hl (rs := rs) fun r hr => (hp r hr).2).mono (k := 4400) (by decide))
      exact fnP_ret [.v (lsD ls), .v (.int (i : Int)), .v (rowD rs), .no] rfl (seq_nx (if_f (h := sNil) t rfl) (seq_nx st (ret_v (vE_of (eAnd_t (eBin_of (f := eVar 3) (h := eC .none) rfl rfl rfl) (eUn_of (eV_v (eCall_of (ar_cons (v2 _) (ar_cons (f := eVar 3) rfl ar_nil)) lt)) rfl))))))
end K64
set_option Elab.async false
set_option linter.all false
set_option maxRecDepth 100000
namespace K64
open PySem Dl
noncomputable def isSharing (m : Nat) (ls : List La) : D → Bool
  | .tuple rows => decide (rows.length = ls.length) && (ls.zip rows).all fun p => isPart m p.1 p.2
  | _ => false
theorem all_zipIdx (m : Nat) (L : List La) : ∀ (rows : List D) (ls : List La) (k : Nat), rows.length = ls.length → (∀ i, L[k + i]? = ls[i]?) →
    ((rows.zipIdx k).all fun p => isPart m (L.getD p.2 ⟨0, []⟩) p.1) = (ls.zip rows).all fun p => isPart m p.1 p.2
  | [], [], _, _, _ => rfl
  | [], _ :: _, _, h, _ => by simp at h
  | _ :: _, [], _, h, _ => by simp at h
  | r :: rows, l :: ls, k, h, hL => by
    have h0 := hL 0
    simp only [Nat.add_zero, List.getElem?_cons_zero] at h0
    have ih := all_zipIdx m L rows ls (k + 1) (by simpa using h) (fun i => by
      have := hL (i + 1)
      rw [List.getElem?_cons_succ] at this
      rw [← this]
      congr 1
      omega)
    simp only [List.zipIdx_cons, List.all_cons, List.zip_cons_cons]
    rw [ih]
    congr 2
    simp [List.getD_eq_getElem?_getD, h0]
theorem is_sharing_of_J {m : Nat} {ls : List La} (h : LsOk m ls) {d : D} (hd : gd 400 d = true) : m_is_sharing_of [lsD ls, d] = some (.v (.bool (isSharing m ls d))) := by
  have e1 := is_sized_J hd (ls.length : Nat) (ls.length : Nat)
  unfold m_is_sharing_of
  have s1 : sSet 2 (vE (eUn lenD (bVar 0))) [.v (lsD ls), .v d, .no, .no, .no] = some (.nx [.v (lsD ls), .v d, .v (.int (ls.length : Nat)), .no, .no]) := by
    have c0 : vE (eUn lenD (bVar 0)) [.v (lsD ls), .v d, .no, .no, .no] = some (.v (.int (ls.length : Nat)), [.v (lsD ls), .v d, .no, .no, .no]) := vE_of (eUn_of (f := bVar 0) rfl (len_row laD ls))
    exact set_v c0
  have t : tNotT (tOf (eV (eCall m_is_sized (aCons (eVar 1) (aCons (eVar 2) (aCons (eVar 2) aNil)))))) [.v (lsD ls), .v d, .v (.int (ls.length : Nat)), .no, .no] = some (!isSz ls.length ls.length d, [.v (lsD ls), .v d, .v (.int (ls.length : Nat)), .no, .no]) :=
    tNot_of (tOf_b (eV_v (eCall_of (ar_cons (f := eVar 1) rfl (ar_cons (f := eVar 2) rfl (ar_cons (f := eVar 2) rfl ar_nil))) e1)))
  cases q : isSz ls.length ls.length d with
  | false =>
    rw [q] at t
    have w : isSharing m ls d = false := by
      cases d with
      | tuple rows =>
        rw [show isSz ls.length ls.length (.tuple rows) = _ from isSz_tup ls.length ls.length rows] at q
        simp only [isSharing]
        have : ¬ rows.length = ls.length := fun e => by rw [e] at q; simp at q
        rw [decide_eq_false this, Bool.false_and]
      | _ => rfl
    rw [w]
    exact fnP_ret [.v (lsD ls), .v d, .no, .no, .no] rfl (seq_nx s1 (seq_ret (if_t t (ret_v (vE_of rfl)))))
  | true =>
    rw [q] at t
    obtain ⟨rows, rfl⟩ : ∃ ws, d = .tuple ws := by
      cases d <;> simp [isSz] at q
      exact ⟨_, rfl⟩
    rw [show isSz ls.length ls.length (.tuple rows) = _ from isSz_tup ls.length ls.length rows] at q
    have hn : rows.length = ls.length := by simp at q; omega
    have w : isSharing m ls (.tuple rows) = (rows.zipIdx.all fun p => isPart m (ls.getD p.2 ⟨0, []⟩) p.1) := by
      rw [all_zipIdx m ls rows ls 0 hn (fun i => by rw [Nat.zero_add])]
      simp only [isSharing, decide_eq_true hn, Bool.true_and]
    rw [w]
    have hl := h.hi
    have c := vLc_map (fi := iEnum' (aCons (eVar 1) aNil)) (t := gTup (gsCons (gVar 3) (gsCons (gVar 4) gsNil)) 2) (c := cYes) (f := eV (eCall m_is_part (aCons (eVar 0) (aCons (eVar 3) (aCons (eVar 4) aNil))))) (vs := [3, 4]) (g := [.v (lsD ls), .v (.tuple rows), .v (.int (ls.length : Nat)), .no, .no]) (g0 := [.v (lsD ls), .v (.tuple rows), .v (.int (ls.length : Nat)), .no, .no]) (xs := rows.zipIdx) (fun p : D × Nat => .tuple [.int (p.2 : Nat), p.1]) (fun p => .bool (isPart m (ls.getD p.2 ⟨0, []⟩) p.1))
      (by
        have := pairL_map (f := fun d : D => d) rows 0
        rw [List.map_id'] at this
        rw [← this]
        exact enum_of (ar_cons (f := eVar 1) rfl ar_nil) rfl) rfl (by simp; omega) (fun p hp => by
        obtain ⟨r, i⟩ := p
        have hm := List.mem_zipIdx hp
        simp only [Nat.zero_add, Nat.sub_zero] at hm
        have hi : ls[i]? = some (ls.getD i ⟨0, []⟩) := by
          have : i < ls.length := by omega
          simp [this]
        have hr : r ∈ rows := hm.2.2 ▸ List.getElem_mem ..
        exact ⟨[.v (lsD ls), .v (.tuple rows), .v (.int (ls.length : Nat)), .v (.int (i : Nat)), .v r], [.v (lsD ls), .v (.tuple rows), .v (.int (ls.length : Nat)), .v (.int (i : Nat)), .v r], rfl, rfl, eV_v (eCall_of (ar_cons (f := eVar 0) rfl (ar_cons (f := eVar 3) rfl (ar_cons (f := eVar 4) rfl ar_nil))) (is_part_J h hi (gd_in hd hr))), rfl⟩)
    have a := allD_map (fun p : D × Nat => isPart m (ls.getD p.2 ⟨0, []⟩) p.1) rows.zipIdx
    exact fnP_ret [.v (lsD ls), .v (.tuple rows), .no, .no, .no] rfl (seq_nx s1 (seq_nx (if_f (h := sNil) t rfl) (ret_v (vE_of (eUn_of (eV_o c) a)))))
theorem is_sharing_J {m : Nat} {ls : List La} (h : LsOk m ls) {d : D} (hd : gd 400 d = true) : m_is_sharing [lsD ls, d] = some (.v (.bool (isSharing m ls d))) := by
  have h1 := check_lands_ok h
  have h2 := is_sharing_of_J h hd
  unfold m_is_sharing
  exact fnP_ret [.v (lsD ls), .v d] rfl (seq_nx (ex_of (eV_v (eCall_of (ar_cons (f := eVar 0) rfl ar_nil) h1))) (ret_v (eCall_of (ar_cons (f := eVar 0) rfl (ar_cons (f := eVar 1) rfl ar_nil)) h2)))
theorem check_sharing_ok {m : Nat} {ls : List La} (h : LsOk m ls) {d : D} (hd : gd 400 d = true) (hs : isSharing m ls d = true) : m_check_sharing [lsD ls, d] = some (.v .none) := by
  have h1 := check_lands_ok h
  have h2 := is_sharing_of_J h hd
  rw [hs] at h2
  unfold m_check_sharing
  exact fnP_nx [.v (lsD ls), .v d] rfl (seq_nx (ex_of (eV_v (eCall_of (ar_cons (f := eVar 0) rfl ar_nil) h1))) (if_f (h := sNil) (tNot_of (b := true) (tOf_b (eV_v (eCall_of (ar_cons (f := eVar 0) rfl (ar_cons (f := eVar 1) rfl ar_nil)) h2)))) rfl))
/-! ### the law's own judge -/
def fL (p : Rat × Option Rat) : Rat := p.1 * p.2.getD 0
theorem S_filter {p : Rat × Option Rat → Bool} (hp : ∀ x, p x = x.2.isSome) : ∀ l : List (Rat × Option Rat), S fL (l.filter p) = S fL l
  | [] => rfl
  | x :: l => by
    rw [List.filter_cons]
    cases q : p x with
    | true => simp only [S, if_true]; rw [S_filter hp l]
    | false =>
      rw [hp] at q
      have : fL x = 0 := by
        obtain ⟨r, w⟩ := x
        cases w with
        | none => simp [fL, Rat.mul_zero]
        | some u => simp at q
      simp only [S, this, Rat.zero_add]
      rw [← S_filter hp l]
      rfl
theorem wk_swap : ∀ (ws : List (Option Rat)) (rs : List Rat), S fL (rs.zip ws) = wkS ws rs
  | [], rs => by cases rs <;> rfl
  | _ :: _, [] => rfl
  | w :: ws, r :: rs => by
    have := wk_swap ws rs
    unfold wkS at this ⊢
    simp only [List.zip_cons_cons, S, this]
    unfold fL fW
    rw [Rat.mul_comm]
theorem at_work_ok {l : La} {m : Nat} (hm : m ≤ 6) (h : LaOk m l) {rs : List Rat} (hr : ∀ r ∈ rs, B0 400 r) : m__law_at_work [laD l, rowD rs] = some (.v (qD (wkS l.works rs))) := by
  have hl : (rs.zip l.works).length ≤ 6 := by rw [List.length_zip]; have := h.len; omega
  have hz : ∀ p ∈ rs.zip l.works, B0 400 p.1 ∧ ∀ u, p.2 = some u → B0 30 u := fun p hp => by
    have := List.of_mem_zip hp
    exact ⟨hr _ this.1, fun u hu => (h.wok u (by rw [← hu]; exact this.2)).b⟩
  have v1 : eIxV 0 (eC (.int 1)) [.v (laD l), .v (rowD rs), .no, .no] = some (.tuple (l.works.map wkD), [.v (laD l), .v (rowD rs), .no, .no]) := ixV_v rfl rfl rfl rfl
  have it := zipU_of (f := aCons (eVar 1) (aCons (eIxV 0 (eC (.int 1))) aNil)) (g := [.v (laD l), .v (rowD rs), .no, .no]) (F := qD) (H := wkD) (l := rs) (m := l.works) (ar_cons (f := eVar 1) rfl (ar_cons v1 ar_nil)) rfl rfl
  have c := vLc_filt (fi := iZipU (aCons (eVar 1) (aCons (eIxV 0 (eC (.int 1))) aNil))) (t := gTup (gsCons (gVar 2) (gsCons (gVar 3) gsNil)) 2) (c := tOf (eBin notND (eVar 3) (eC .none))) (f := eV (eCall m__law_times (aCons (eVar 2) (aCons (eVar 3) aNil)))) (vs := [2, 3]) (g := [.v (laD l), .v (rowD rs), .no, .no]) (g0 := [.v (laD l), .v (rowD rs), .no, .no]) (xs := rs.zip l.works) (fun p => .tuple [qD p.1, wkD p.2]) (fun p => qD (fL p)) (fun p => p.2.isSome) it rfl (by omega) (fun p hp => by
    obtain ⟨r, w⟩ := p
    obtain ⟨h1, h2⟩ := hz _ hp
    refine ⟨[.v (laD l), .v (rowD rs), .v (qD r), .v (wkD w)], [.v (laD l), .v (rowD rs), .v (qD r), .v (wkD w)], rfl, tOf_b (eBin_of (f := eVar 3) (h := eC .none) rfl rfl (notN_w w)), rfl, fun q => ?_⟩
    cases w with
    | none => simp at q
    | some u =>
      exact ⟨_, eV_v (eCall_of (ar_cons (f := eVar 2) rfl (ar_cons (f := eVar 3) rfl ar_nil)) (law_times_ok (h1.mono (by decide)) ((h2 u rfl).mono (by decide)))), rfl⟩)
  have tt := (total_ok (k := 430) (f := fL) (l := (rs.zip l.works).filter fun p => p.2.isSome) (fun p hp => by
    obtain ⟨h1, h2⟩ := hz p (List.mem_filter.mp hp).1
    have h3 := (List.mem_filter.mp hp).2
    obtain ⟨r, w⟩ := p
    cases w with
    | none => simp at h3
    | some u => exact (h1.mul (h2 u rfl)).mono (by decide)) (by decide) (Nat.le_trans (List.length_filter_le ..) (by omega))).1
  rw [S_filter (fun _ => rfl), wk_swap] at tt
  unfold m__law_at_work
  exact fnP_ret [.v (laD l), .v (rowD rs), .no, .no] rfl (ret_v (eCall_of (ar_cons (eV_o c) ar_nil) tt))
end K64
set_option Elab.async false
set_option linter.all false
set_option maxRecDepth 100000
namespace K64
open PySem Dl
def isTm (m : Nat) : D → Bool
  | .tuple ds => decide (ds.length = m)
  | _ => false
theorem num_iff {r : Rat} (h : 0 ≤ r) : decide (0 < r.num) = !decide (r = 0) := by
  have h1 := Rat.num_nonneg.mpr h
  rw [Bool.eq_iff_iff]
  simp only [decide_eq_true_eq, Bool.not_eq_true', decide_eq_false_iff_not]
  constructor
  · rintro h2 rfl
    exact absurd h2 (by decide)
  · intro h2
    have : r.num ≠ 0 := fun e => h2 (Rat.num_eq_zero.mp e)
    omega
theorem any_fits : ∀ (ws : List (Option Rat)) (rs : List Rat), (∀ r ∈ rs, 0 ≤ r) → ((rs.zip ws).any fun p => decide (0 < p.1.num) && p.2.isNone) = !fits ws rs
  | [], rs, _ => by cases rs <;> simp [fits]
  | _ :: _, [], _ => by simp [fits]
  | w :: ws, r :: rs, h => by
    have ih := any_fits ws rs fun x hx => h x (List.mem_cons_of_mem _ hx)
    unfold fits at ih ⊢
    simp only [List.zip_cons_cons, List.any_cons, List.all_cons]
    rw [ih, num_iff (h r (by simp))]
    cases w <;> cases decide (r = 0) <;> simp
noncomputable def bS : Fs := (sSeq (sIf (tOrT (tNotT (tOf (eUn (isiD "tuple") (eVar 3)))) (tOf (eBin neD (eUn lenD (bVar 3)) (eUn lenD (eIxV 2 (eC (.int 1))))))) (sRet (vE (eC (.bool false)))) sNil)
    (sSeq (sIf (tNotT (tOf (eUn allD (eV (vLc (iSeq (eVar 3)) (gVar 4) cYes (eV (eCall m__law_is_fraction (aCons (eVar 4) (aCons (eC (.int 0)) aNil)))) [4]))))) (sRet (vE (eC (.bool false)))) sNil)
    (sSeq (sIf (tOf (eUn anyD (eV (vLc (iZipU (aCons (eVar 3) (aCons (eIxV 2 (eC (.int 1))) aNil))) (gTup (gsCons (gVar 4) (gsCons (gVar 5) gsNil)) 2) cYes (eAnd (eBin gtD (eIxV 4 (eC (.int 0))) (eC (.int 0))) (eBin isND (eVar 5) (eC .none))) [4, 5])))) (sRet (vE (eC (.bool false)))) sNil)
    (sIf (tOf (eV (eCall m__law_less (aCons (eIxV 2 (eC (.int 0))) (aCons (eV (eCall m__law_at_work (aCons (eVar 2) (aCons (eVar 3) aNil)))) aNil))))) (sRet (vE (eC (.bool false)))) sNil))))
theorem bS_ok {m : Nat} (hm : m ≤ 6) {l : La} (h : LaOk m l) {r : D} (hr : gd 400 r = true) (A B : Sl) :
    (isPart m l r = true → bS [A, B, .v (laD l), .v r, .no, .no] = some (.nx [A, B, .v (laD l), .v r, .no, .no])) ∧ (isPart m l r = false → bS [A, B, .v (laD l), .v r, .no, .no] = some (.ret (.v (.bool false)) [A, B, .v (laD l), .v r, .no, .no])) := by
  unfold bS
  obtain ⟨G, hG⟩ : ∃ G : G, G = [A, B, .v (laD l), .v r, .no, .no] := ⟨_, rfl⟩
  rw [← hG]
  have x3 : eVar 3 G = some (r, G) := by subst hG; rfl
  have x3b : bVar 3 G = some (r, G) := by subst hG; rfl
  have x2 : eVar 2 G = some (laD l, G) := by subst hG; rfl
  have v1 : eIxV 2 (eC (.int 1)) G = some (.tuple (l.works.map wkD), G) := by subst hG; exact ixV_v rfl rfl rfl rfl
  have v0 : eIxV 2 (eC (.int 0)) G = some (qD l.hands, G) := by subst hG; exact ixV_v rfl rfl rfl rfl
  have ln : eUn lenD (eIxV 2 (eC (.int 1))) G = some (.int (m : Nat), G) := by
    have := eUn_of v1 (len_row wkD l.works)
    rw [h.len] at this
    exact this
  have t1 := tOrB (c := !isTm m r) (tNot_of (tOf_b (eUn_of x3 (isi_tupJ hr)))) (fun z => by
    obtain ⟨ds, rfl⟩ := isTup_of (d := r) (by simpa using z)
    refine tOf_b (eBin_of (op := neD) (eUn_of x3b (show lenD (.tuple ds) = some (.int (ds.length : Nat)) from by simp [lenD])) ln ?_)
    rw [neD_ii]
    simp only [isTm]
    congr 3
    exact decide_eq_decide.mpr (by omega))
  have z1 : (!isTup r || !isTm m r) = !isTm m r := by cases r <;> simp [isTup, isTm]
  rw [z1] at t1
  cases q1 : isTm m r with
  | false =>
    rw [q1] at t1
    have w : isPart m l r = false := isPart_no (by
      cases r with
      | tuple ds => simp only [isTm] at q1; simp only [isAms, q1, Bool.false_and]
      | _ => rfl)
    rw [w]
    exact ⟨fun q => (by cases q), fun _ => seq_ret (if_t t1 (ret_v (vE_of rfl)))⟩
  | true =>
    rw [q1] at t1
    obtain ⟨ds, rfl⟩ : ∃ ds, r = .tuple ds := by
      cases r <;> simp [isTm] at q1
      exact ⟨_, rfl⟩
    have hl : ds.length ≤ 1000 := (gd_tup.mp hr).1
    have cb4 : backG G (wipeG G [4]) [4] = G := by subst hG; rfl
    have cb5 : backG G (wipeG G [4, 5]) [4, 5] = G := by subst hG; rfl
    have c1 := vLc_map (fi := iSeq (eVar 3)) (t := gVar 4) (c := cYes) (f := eV (eCall m__law_is_fraction (aCons (eVar 4) (aCons (eC (.int 0)) aNil)))) (vs := [4]) (g := G) (g0 := G) (xs := ds) (fun d => d) (fun w => .bool (isFr 0 w)) (by rw [List.map_id']; exact iSeq_of x3 rfl) (by subst hG; rfl) (by omega) (fun w hw => by
      subst hG
      exact ⟨[A, B, .v (laD l), .v (.tuple ds), .v w, .no], [A, B, .v (laD l), .v (.tuple ds), .v w, .no], rfl, rfl, eV_v (eCall_of (ar_cons (f := eVar 4) rfl (ar_cons (f := eC (.int 0)) rfl ar_nil)) (law_fr_J (by decide) (gd_in hr hw) 0)), rfl⟩)
    rw [cb4] at c1
    have t2 := tNot_of (tOf_b (eUn_of (eV_o c1) (allD_map (isFr 0) ds)))
    have ea : isAms m (.tuple ds) = ds.all (isFr 0) := by
      simp only [isTm] at q1
      simp only [isAms, q1, Bool.true_and]
    cases q2 : ds.all (isFr 0) with
    | false =>
      rw [q2] at t2 ea
      rw [isPart_no ea]
      exact ⟨fun q => (by cases q), fun _ => seq_nx (if_f (h := sNil) t1 rfl) (seq_ret (if_t t2 (ret_v (vE_of rfl))))⟩
    | true =>
      rw [q2] at t2 ea
      obtain ⟨rs, e, hn, hp⟩ := isAms_of ea hr
      have hp0 : ∀ r ∈ rs, 0 ≤ r := fun r hr => (hp r hr).1
      have hpb : ∀ r ∈ rs, B0 400 r := fun r hr => (hp r hr).2
      rw [e] at hG x3 x3b ⊢
      rw [isPart_row hn hp0]
      have it := zipU_of (f := aCons (eVar 3) (aCons (eIxV 2 (eC (.int 1))) aNil)) (g := G) (F := qD) (H := wkD) (l := rs) (m := l.works) (ar_cons x3 (ar_cons v1 ar_nil)) rfl rfl
      have c2 := vLc_map (fi := iZipU (aCons (eVar 3) (aCons (eIxV 2 (eC (.int 1))) aNil))) (t := gTup (gsCons (gVar 4) (gsCons (gVar 5) gsNil)) 2) (c := cYes) (f := eAnd (eBin gtD (eIxV 4 (eC (.int 0))) (eC (.int 0))) (eBin isND (eVar 5) (eC .none))) (vs := [4, 5]) (g := G) (g0 := G) (xs := rs.zip l.works) (fun p => .tuple [qD p.1, wkD p.2]) (fun p => .bool (decide (0 < p.1.num) && p.2.isNone)) it (by subst hG; rfl) (by rw [List.length_zip]; omega) (fun p hp => by
        subst hG
        obtain ⟨r, w⟩ := p
        have w1 : eIxV 4 (eC (.int 0)) [A, B, .v (laD l), .v (rowD rs), .v (qD r), .v (wkD w)] = some (.int r.num, [A, B, .v (laD l), .v (rowD rs), .v (qD r), .v (wkD w)]) := ixV_v rfl rfl rfl rfl
        exact ⟨[A, B, .v (laD l), .v (rowD rs), .v (qD r), .v (wkD w)], [A, B, .v (laD l), .v (rowD rs), .v (qD r), .v (wkD w)], rfl, rfl, eAndB (eBin_of (h := eC (.int 0)) w1 rfl (gtD_ii _ _)) (fun _ => eBin_of (f := eVar 5) (h := eC .none) rfl rfl (isN_w w)), rfl⟩)
      rw [cb5] at c2
      have t3 := tOf_b (eUn_of (eV_o c2) (anyD_map (fun p : Rat × Option Rat => decide (0 < p.1.num) && p.2.isNone) (rs.zip l.works)))
      rw [any_fits l.works rs hp0] at t3
      have aw := at_work_ok hm h hpb
      have lt := (less_ok (h.hands.b.mono (k := 4400) (by decide)) ((wkS_b hm h hpb).mono (k := 4400) (by decide))).2
      have t4 : tOf (eV (eCall m__law_less (aCons (eIxV 2 (eC (.int 0))) (aCons (eV (eCall m__law_at_work (aCons (eVar 2) (aCons (eVar 3) aNil)))) aNil)))) G = some (decide (l.hands < wkS l.works rs), G) := tOf_b (eV_v (eCall_of (ar_cons v0 (ar_cons (eV_v (eCall_of (ar_cons x2 (ar_cons x3 ar_nil)) aw)) ar_nil)) lt))
      unfold okRow
      cases q3 : fits l.works rs with
      | false =>
        rw [q3] at t3
        exact ⟨fun q => by simp at q, fun _ => seq_nx (if_f (h := sNil) t1 rfl) (seq_nx (if_f (h := sNil) t2 rfl) (seq_ret (if_t t3 (ret_v (vE_of rfl)))))⟩
      | true =>
        rw [q3] at t3
        cases q4 : decide (l.hands < wkS l.works rs) with
        | true =>
          rw [q4] at t4
          exact ⟨fun q => by simp at q, fun _ => seq_nx (if_f (h := sNil) t1 rfl) (seq_nx (if_f (h := sNil) t2 rfl) (seq_nx (if_f (h := sNil) t3 rfl) (if_t t4 (ret_v (vE_of rfl)))))⟩
        | false =>
          rw [q4] at t4
          exact ⟨fun _ => seq_nx (if_f (h := sNil) t1 rfl) (seq_nx (if_f (h := sNil) t2 rfl) (seq_nx (if_f (h := sNil) t3 rfl) (if_f t4 rfl))), fun q => by simp at q⟩
theorem law_sharing_J {m : Nat} {ls : List La} (h : LsOk m ls) {d : D} (hd : gd 400 d = true) : m__law_is_sharing [lsD ls, d] = some (.v (.bool (isSharing m ls d))) := by
  unfold m__law_is_sharing
  have t1 := tOrB (c := !isTm ls.length d) (g := [.v (lsD ls), .v d, .no, .no, .no, .no]) (f := tNotT (tOf (eUn (isiD "tuple") (eVar 1)))) (h := tOf (eBin neD (eUn lenD (bVar 1)) (eUn lenD (bVar 0)))) (tNot_of (tOf_b (eUn_of (f := eVar 1) rfl (isi_tupJ hd)))) (fun z => by
    obtain ⟨ds, rfl⟩ := isTup_of (d := d) (by simpa using z)
    refine tOf_b (eBin_of (op := neD) (eUn_of (f := bVar 1) rfl (show lenD (.tuple ds) = some (.int (ds.length : Nat)) from by simp [lenD])) (eUn_of (f := bVar 0) rfl (len_row laD ls)) ?_)
    rw [neD_ii]
    simp only [isTm]
    congr 3
    exact decide_eq_decide.mpr (by omega))
  have z1 : (!isTup d || !isTm ls.length d) = !isTm ls.length d := by cases d <;> simp [isTup, isTm]
  rw [z1] at t1
  cases q1 : isTm ls.length d with
  | false =>
    rw [q1] at t1
    have w : isSharing m ls d = false := by
      cases d with
      | tuple ds => simp only [isTm] at q1; simp only [isSharing, q1, Bool.false_and]
      | _ => rfl
    rw [w]
    exact fnP_ret [.v (lsD ls), .v d, .no, .no, .no, .no] rfl (seq_ret (if_t t1 (ret_v (vE_of rfl))))
  | true =>
    rw [q1] at t1
    obtain ⟨rows, rfl⟩ : ∃ ds, d = .tuple ds := by
      cases d <;> simp [isTm] at q1
      exact ⟨_, rfl⟩
    have w : isSharing m ls (.tuple rows) = (ls.zip rows).all fun p => isPart m p.1 p.2 := by
      simp only [isTm] at q1
      simp only [isSharing, q1, Bool.true_and]
    rw [w]
    have it := zipU_of (f := aCons (eVar 0) (aCons (eVar 1) aNil)) (g := [.v (lsD ls), .v (.tuple rows), .no, .no, .no, .no]) (F := laD) (H := fun d : D => d) (l := ls) (m := rows) (ar_cons (f := eVar 0) rfl (ar_cons (f := eVar 1) rfl ar_nil)) rfl (by rw [List.map_id']; rfl)
    have F := forGo_guard (t := gTup (gsCons (gVar 2) (gsCons (gVar 3) gsNil)) 2) (b := bS) (fun g => ∃ z2 z3, g = [.v (lsD ls), .v (.tuple rows), z2, z3, .no, .no]) (fun p : La × D => .tuple [laD p.1, p.2]) (fun p => isPart m p.1 p.2) (ls.zip rows) (fun p hp g hg => by
      obtain ⟨z2, z3, rfl⟩ := hg
      have hz := List.of_mem_zip hp
      obtain ⟨k1, k2⟩ := bS_ok h.mhi (h.ok _ hz.1) (gd_in hd hz.2) (.v (lsD ls)) (.v (.tuple rows))
      exact ⟨[.v (lsD ls), .v (.tuple rows), .v (laD p.1), .v p.2, .no, .no], rfl, fun q => ⟨_, k1 q, _, _, rfl⟩, fun q => ⟨_, k2 q⟩⟩) [.v (lsD ls), .v (.tuple rows), .no, .no, .no, .no] ⟨_, _, rfl⟩
    cases qa : (ls.zip rows).all (fun p => isPart m p.1 p.2) with
    | false =>
      obtain ⟨g', f1⟩ := F.2 qa
      exact fnP_ret [.v (lsD ls), .v (.tuple rows), .no, .no, .no, .no] rfl (seq_nx (if_f (h := sNil) t1 rfl) (seq_ret (for_of it f1)))
    | true =>
      obtain ⟨g', f1, _⟩ := F.1 qa
      exact fnP_ret [.v (lsD ls), .v (.tuple rows), .no, .no, .no, .no] rfl (seq_nx (if_f (h := sNil) t1 rfl) (seq_nx (for_of it f1) (ret_v rfl)))
/-! ### the world -/
def shD (rows : List (List Rat)) : D := .tuple (rows.map rowD)
def wld (m : Nat) (rows : List (List Rat)) : List Rat := (List.range m).map fun g => S (fun r : List Rat => r.getD g 0) rows
structure ShOk (m : Nat) (ls : List La) (rows : List (List Rat)) : Prop where
  len : rows.length = ls.length
  rlen : ∀ r ∈ rows, r.length = m
  nn : ∀ r ∈ rows, ∀ x ∈ r, 0 ≤ x ∧ B0 250 x
  ok : ∀ p ∈ ls.zip rows, okRow p.1 p.2 = true
theorem b0_gd {k : Nat} {r : Rat} (h : B0 k r) : gd k (qD r) = true := by
  have h1 := h.num
  have h2 := h.den
  simp [qD, gd, gdAll, h1, h2]
theorem gd_row {k : Nat} {r : List Rat} (hl : r.length ≤ 1000) (h : ∀ x ∈ r, B0 k x) : gd k (rowD r) = true := by
  refine gd_tup.mpr ⟨by simpa using hl, fun d hd => ?_⟩
  obtain ⟨x, hx, rfl⟩ := List.mem_map.mp hd
  exact b0_gd (h x hx)
theorem ShOk.gd {m : Nat} {ls : List La} (h : LsOk m ls) {rows : List (List Rat)} (hs : ShOk m ls rows) : gd 400 (shD rows) = true := by
  have := h.hi
  have := h.mhi
  refine gd_tup.mpr ⟨by simp [hs.len]; omega, fun d hd => ?_⟩
  obtain ⟨x, hx, rfl⟩ := List.mem_map.mp hd
  exact gd_row (by rw [hs.rlen x hx]; omega) fun y hy => (hs.nn x hx y hy).2.mono (by decide)
theorem ShOk.is {m : Nat} {ls : List La} {rows : List (List Rat)} (hs : ShOk m ls rows) : isSharing m ls (shD rows) = true := by
  have e : ls.zip (rows.map rowD) = (ls.zip rows).map fun p => (p.1, rowD p.2) := by
    rw [List.zip_map_right]
    rfl
  simp only [shD, isSharing, List.length_map, decide_eq_true hs.len, Bool.true_and]
  rw [e, List.all_map, List.all_eq_true]
  intro p hp
  have hz := List.of_mem_zip hp
  show isPart m p.1 (rowD p.2) = true
  rw [isPart_row (hs.rlen _ hz.2) fun r hr => (hs.nn _ hz.2 r hr).1]
  exact hs.ok p hp
theorem col_ok {m : Nat} {ls : List La} (h : LsOk m ls) {rows : List (List Rat)} (hs : ShOk m ls rows) {i : Nat} (hi : i < m) (A : Sl) : vLc (iSeq (eVar 1)) (gVar 3) cYes (eIxV 3 (eVar 2)) [3] [A, .v (shD rows), .v (.int (i : Int)), .no] = some (.own none (rows.map fun r => qD (r.getD i 0)), [A, .v (shD rows), .v (.int (i : Int)), .no]) :=
  vLc_map (fi := iSeq (eVar 1)) (t := gVar 3) (c := cYes) (f := eIxV 3 (eVar 2)) (vs := [3]) (g := [A, .v (shD rows), .v (.int (i : Int)), .no]) (g0 := [A, .v (shD rows), .v (.int (i : Int)), .no]) (xs := rows) rowD (fun r => qD (r.getD i 0)) (iSeq_of (f := eVar 1) rfl rfl) rfl (by rw [hs.len]; have := h.hi; omega) (fun r hr => by
    have hu : r[i]? = some (r.getD i 0) := by
      have : i < r.length := by rw [hs.rlen r hr]; exact hi
      simp [this]
    exact ⟨[A, .v (shD rows), .v (.int (i : Int)), .v (rowD r)], [A, .v (shD rows), .v (.int (i : Int)), .v (rowD r)], rfl, rfl, ixV_v (f := eVar 2) rfl rfl rfl (atD_map hu), rfl⟩)
theorem tot_col {m : Nat} {ls : List La} (h : LsOk m ls) {rows : List (List Rat)} (hs : ShOk m ls rows) {i : Nat} (hi : i < m) :
    m__law_sum [.list (rows.map fun r => qD (r.getD i 0))] = some (.v (qD (S (fun r : List Rat => r.getD i 0) rows))) ∧ m_summed [.list (rows.map fun r => qD (r.getD i 0))] = some (.v (qD (S (fun r : List Rat => r.getD i 0) rows))) :=
  total_ok (k := 250) (fun r hr => by
    have hu : r.getD i 0 ∈ r := by
      have : i < r.length := by rw [hs.rlen r hr]; exact hi
      exact List.mem_of_getElem? (i := i) (by simp [this])
    exact (hs.nn r hr _ hu).2) (by decide) (by rw [hs.len]; have := h.hi; omega)
theorem world_ok {m : Nat} {ls : List La} (h : LsOk m ls) {rows : List (List Rat)} (hs : ShOk m ls rows) : m_world [lsD ls, shD rows] = some (.v (rowD (wld m rows))) ∧ m__law_world [lsD ls, shD rows] = some (.v (rowD (wld m rows))) := by
  have hm := h.mhi
  have e : rowD (wld m rows) = .tuple ((List.range m).map fun g => qD (S (fun r : List Rat => r.getD g 0) rows)) := by simp [rowD, wld]
  rw [e]
  obtain ⟨G, hG⟩ : ∃ G : G, G = [.v (lsD ls), .v (shD rows), .no, .no] := ⟨_, rfl⟩
  have cb : backG G (wipeG G [2]) [2] = G := by subst hG; rfl
  refine ⟨?_, ?_⟩
  · have h1 := check_sharing_ok h (hs.gd h) hs.is
    have h2 : m_raw_world [lsD ls, shD rows] = some (.v (.tuple ((List.range m).map fun g => qD (S (fun r : List Rat => r.getD g 0) rows)))) := by
      have g1 := goods_of_ok h
      have c := vLc_map (fi := iRange1 (aCons (eV (eCall m_goods_of (aCons (eVar 0) aNil))) aNil)) (t := gVar 2) (c := cYes) (f := eV (eCall m_summed (aCons (eV (vLc (iSeq (eVar 1)) (gVar 3) cYes (eIxV 3 (eVar 2)) [3])) aNil))) (vs := [2]) (g := G) (g0 := G) (xs := List.range m) (fun (i : Nat) => .int (i : Int)) (fun g => qD (S (fun r : List Rat => r.getD g 0) rows))
        (by subst hG; exact rng_of (n := m) (ar_cons (eV_v (eCall_of (ar_cons (f := eVar 0) rfl ar_nil) g1)) ar_nil) (by omega)) (by subst hG; rfl) (by simp; omega) (fun i hi => by
        subst hG
        have hi := List.mem_range.mp hi
        exact ⟨[.v (lsD ls), .v (shD rows), .v (.int (i : Int)), .no], [.v (lsD ls), .v (shD rows), .v (.int (i : Int)), .no], rfl, rfl, eV_v (eCall_of (ar_cons (eV_o (col_ok h hs hi _)) ar_nil) (tot_col h hs hi).2), rfl⟩)
      rw [cb] at c
      unfold m_raw_world
      exact fnP_ret G (by subst hG; rfl) (ret_v (vE_of (eUn_of (eV_o c) rfl)))
    unfold m_world
    exact fnP_ret [.v (lsD ls), .v (shD rows)] rfl (seq_nx (ex_of (eV_v (eCall_of (ar_cons (f := eVar 0) rfl (ar_cons (f := eVar 1) rfl ar_nil)) h1))) (ret_v (eCall_of (ar_cons (f := eVar 0) rfl (ar_cons (f := eVar 1) rfl ar_nil)) h2)))
  · obtain ⟨l0, r0, hls⟩ : ∃ l0 r0, ls = l0 :: r0 := by
      have := h.lo
      match ls, this with
      | a :: b, _ => exact ⟨a, b, rfl⟩
    have k0 := h.ok l0 (by rw [hls]; simp)
    have v0 : eUn lenD (eBin atD (eIxV 0 (eC (.int 0))) (eC (.int 1))) G = some (.int (m : Nat), G) := by
      have w1 : eIxV 0 (eC (.int 0)) G = some (laD l0, G) := by
        subst hG; subst hls
        exact ixV_v rfl rfl rfl (atD_map (f := laD) (l := l0 :: r0) (i := 0) rfl)
      have w2 := eBin_of (op := atD) (h := eC (.int 1)) w1 rfl (d3 := .tuple (l0.works.map wkD)) rfl
      have w3 := eUn_of w2 (len_row wkD l0.works)
      rw [k0.len] at w3
      exact w3
    have c := vLc_map (fi := iRange1 (aCons (eUn lenD (eBin atD (eIxV 0 (eC (.int 0))) (eC (.int 1)))) aNil)) (t := gVar 2) (c := cYes) (f := eV (eCall m__law_sum (aCons (eV (vLc (iSeq (eVar 1)) (gVar 3) cYes (eIxV 3 (eVar 2)) [3])) aNil))) (vs := [2]) (g := G) (g0 := G) (xs := List.range m) (fun (i : Nat) => .int (i : Int)) (fun g => qD (S (fun r : List Rat => r.getD g 0) rows))
      (rng_of (n := m) (ar_cons v0 ar_nil) (by omega)) (by subst hG; rfl) (by simp; omega) (fun i hi => by
      subst hG
      have hi := List.mem_range.mp hi
      exact ⟨[.v (lsD ls), .v (shD rows), .v (.int (i : Int)), .no], [.v (lsD ls), .v (shD rows), .v (.int (i : Int)), .no], rfl, rfl, eV_v (eCall_of (ar_cons (eV_o (col_ok h hs hi _)) ar_nil) (tot_col h hs hi).1), rfl⟩)
    rw [cb] at c
    unfold m__law_world
    exact fnP_ret G (by subst hG; rfl) (ret_v (vE_of (eUn_of (eV_o c) rfl)))
end K64
set_option Elab.async false
set_option linter.all false
set_option maxRecDepth 100000
namespace K64
open PySem Dl

/-! ### the hand -/
def handL (cs : List Int) (p q r s : Int) : List D := [.list (cs.map .int), .int p, .int q, .int r, .int s]
def Hand (es : List D) : Prop := ∃ (cs : List Int) (p q r s : Int), es = handL cs p q r s ∧ 0 ≤ p ∧ 0 ≤ q
theorem ten18 : powD (.int 10) (.int 18) = some (.int 1000000000000000000) := by
  show (if (0 : Int) ≤ 18 ∧ (18 : Int) ≤ 1000000 ∧ Int.natAbs 10 < 2 ^ 64 then some (PyData.int (10 ^ (18 : Int).toNat)) else none) = _
  rw [if_pos (by decide)]
  rfl
theorem draw_first (cs : List Int) (p q r s m : Int) (hp : 0 ≤ p) (hq : 0 ≤ q) : ∃ (p' q' r' : Int) (z : Sl), 0 ≤ p' ∧ 0 ≤ q' ∧ ∀ t,
    sIf (Dl.tAndT (tOf (eBin eqD (eIxV 0 (eC (.int 2))) (eC (.int 0)))) (tOf (eBin ltD (eIxV 0 (eC (.int 1))) (eUn lenD (eIxV 0 (eC (.int 0))))))) (sSeq (sSet 2 (vE (eBin atD (eIxV 0 (eC (.int 0))) (eIxV 0 (eC (.int 1))))))
    (sSeq (sPut 0 (eC (.int 1)) (vE (eBin addA (eIxV 0 (eC (.int 1))) (eC (.int 1)))))
    (sSeq (sPut 0 (eC (.int 3)) (vE (eBin modD (eUn Dl.intD (eBin addA (eBin addA (eBin mulD (eIxV 0 (eC (.int 3))) (eC (.int 69621))) (eVar 2)) (eC (.int 43)))) (eC (.int 2147483629)))))
    (sIf (tOf (eBin geD (eVar 2) (eBin powD (eC (.int 10)) (eC (.int 18))))) (sPut 0 (eC (.int 2)) (vE (eVar 2))) sNil)))) sNil
      [.own t (handL cs p q r s), .v (.int m), .no, .no, .no] = some (.nx [.own t (handL cs p' q' r' s), .v (.int m), z, .no, .no]) := by
  have hl : lenD (.list (cs.map PyData.int)) = some (.int (cs.length : Nat)) := by simp [lenD]
  by_cases h0 : q = 0
  · subst h0
    have c1 : ∀ t, tOf (eBin eqD (eIxV 0 (eC (.int 2))) (eC (.int 0))) [.own t (handL cs p 0 r s), .v (.int m), .no, .no, .no] = some (true, [.own t (handL cs p 0 r s), .v (.int m), .no, .no, .no]) := fun t =>
      tOf_b (eBin_of (g1 := [.own t (handL cs p 0 r s), .v (.int m), .no, .no, .no]) (ixV_v rfl rfl rfl rfl) rfl (eqD_t rfl))
    have c2 : ∀ t, eUn lenD (eIxV 0 (eC (.int 0))) [.own t (handL cs p 0 r s), .v (.int m), .no, .no, .no] = some (.int (cs.length : Nat), [.own t (handL cs p 0 r s), .v (.int m), .no, .no, .no]) := fun t =>
      eUn_of (ixV_v rfl rfl rfl rfl) hl
    have c3 : ∀ t, eIxV 0 (eC (.int 1)) [.own t (handL cs p 0 r s), .v (.int m), .no, .no, .no] = some (.int p, [.own t (handL cs p 0 r s), .v (.int m), .no, .no, .no]) := fun t => ixV_v rfl rfl rfl rfl
    by_cases h1 : p < (cs.length : Nat)
    · obtain ⟨n, hn⟩ := Int.eq_ofNat_of_zero_le hp
      have h1n : n < cs.length := by omega
      obtain ⟨c, hcc⟩ : ∃ c, cs[n]? = some c := ⟨_, List.getElem?_eq_getElem h1n⟩
      have hc : atD (.list (cs.map PyData.int)) (.int p) = some (.int c) := by rw [hn]; exact atD_mapL hcc
      have T0 : ∀ t, Dl.tAndT (tOf (eBin eqD (eIxV 0 (eC (.int 2))) (eC (.int 0)))) (tOf (eBin ltD (eIxV 0 (eC (.int 1))) (eUn lenD (eIxV 0 (eC (.int 0)))))) [.own t (handL cs p 0 r s), .v (.int m), .no, .no, .no] = some (true, [.own t (handL cs p 0 r s), .v (.int m), .no, .no, .no]) := fun t =>
        tAnd_t (c1 t) (tOf_b (eBin_of (c3 t) (c2 t) (ltD_t h1)))
      have A1 : ∀ t, sSet 2 (vE (eBin atD (eIxV 0 (eC (.int 0))) (eIxV 0 (eC (.int 1))))) [.own t (handL cs p 0 r s), .v (.int m), .no, .no, .no] = some (.nx [.own t (handL cs p 0 r s), .v (.int m), .v (.int c), .no, .no]) := fun t => by
        have v1 : eIxV 0 (eC (.int 0)) [.own t (handL cs p 0 r s), .v (.int m), .no, .no, .no] = some (.list (cs.map .int), [.own t (handL cs p 0 r s), .v (.int m), .no, .no, .no]) := ixV_v rfl rfl rfl rfl
        exact set_v (vE_of (eBin_of v1 (c3 t) hc))
      have A2 : ∀ t, sPut 0 (eC (.int 1)) (vE (eBin addA (eIxV 0 (eC (.int 1))) (eC (.int 1)))) [.own t (handL cs p 0 r s), .v (.int m), .v (.int c), .no, .no] = some (.nx [.own t (handL cs (p + 1) 0 r s), .v (.int m), .v (.int c), .no, .no]) := fun t => by
        have v1 : eIxV 0 (eC (.int 1)) [.own t (handL cs p 0 r s), .v (.int m), .v (.int c), .no, .no] = some (.int p, [.own t (handL cs p 0 r s), .v (.int m), .v (.int c), .no, .no]) := ixV_v rfl rfl rfl rfl
        have v2 := eV_v (vE_of (eBin_of (h := eC (.int 1)) v1 rfl (addA_int p 1)))
        exact put_of (i := 0) (fj := eC (.int 1)) (k := 1) (j := 1) (ds := handL cs p 0 r s) v2 rfl rfl rfl rfl
      have A3 : ∀ t, sPut 0 (eC (.int 3)) (vE (eBin modD (eUn Dl.intD (eBin addA (eBin addA (eBin mulD (eIxV 0 (eC (.int 3))) (eC (.int 69621))) (eVar 2)) (eC (.int 43)))) (eC (.int 2147483629)))) [.own t (handL cs (p + 1) 0 r s), .v (.int m), .v (.int c), .no, .no] =
          some (.nx [.own t (handL cs (p + 1) 0 ((r * 69621 + c + 43).fmod 2147483629) s), .v (.int m), .v (.int c), .no, .no]) := fun t => by
        have v1 : eIxV 0 (eC (.int 3)) [.own t (handL cs (p + 1) 0 r s), .v (.int m), .v (.int c), .no, .no] = some (.int r, [.own t (handL cs (p + 1) 0 r s), .v (.int m), .v (.int c), .no, .no]) := ixV_v rfl rfl rfl rfl
        have v2 := eBin_of (h := eC (.int 69621)) v1 rfl (mulD_of (i := r) (j := 69621) (mulOk_r (by decide)))
        have v3 : eVar 2 [.own t (handL cs (p + 1) 0 r s), .v (.int m), .v (.int c), .no, .no] = some (.int c, [.own t (handL cs (p + 1) 0 r s), .v (.int m), .v (.int c), .no, .no]) := rfl
        have v4 := eBin_of v2 v3 (addA_int _ _)
        have v5 := eBin_of (h := eC (.int 43)) v4 rfl (addA_int _ 43)
        have v6 := eBin_of (h := eC (.int 2147483629)) (eUn_of (op := Dl.intD) v5 rfl) rfl (modD_of (j := 2147483629) (by decide))
        exact put_of (i := 0) (fj := eC (.int 3)) (k := 3) (j := 3) (ds := handL cs (p + 1) 0 r s) (eV_v (vE_of v6)) rfl rfl rfl rfl
      have v7 : ∀ t r', eBin powD (eC (.int 10)) (eC (.int 18)) [.own t (handL cs (p + 1) 0 r' s), .v (.int m), .v (.int c), .no, .no] = some (.int 1000000000000000000, [.own t (handL cs (p + 1) 0 r' s), .v (.int m), .v (.int c), .no, .no]) := fun t r' => eBin_of rfl rfl ten18
      by_cases h2 : 1000000000000000000 ≤ c
      · refine ⟨p + 1, c, (r * 69621 + c + 43).fmod 2147483629, .v (.int c), by omega, by omega, fun t => if_t (T0 t) (seq_nx (A1 t) (seq_nx (A2 t) (seq_nx (A3 t) (if_t (tOf_b (eBin_of (f := eVar 2) rfl (v7 t _) (geD_t h2))) ?_))))⟩
        have v8 : eV (vE (eVar 2)) [.own t (handL cs (p + 1) 0 ((r * 69621 + c + 43).fmod 2147483629) s), .v (.int m), .v (.int c), .no, .no] = some (.int c, [.own t (handL cs (p + 1) 0 ((r * 69621 + c + 43).fmod 2147483629) s), .v (.int m), .v (.int c), .no, .no]) := rfl
        exact put_of (i := 0) (fj := eC (.int 2)) (k := 2) (j := 2) (ds := handL cs (p + 1) 0 ((r * 69621 + c + 43).fmod 2147483629) s) v8 rfl rfl rfl rfl
      · exact ⟨p + 1, 0, (r * 69621 + c + 43).fmod 2147483629, .v (.int c), by omega, by omega, fun t => if_t (T0 t) (seq_nx (A1 t) (seq_nx (A2 t) (seq_nx (A3 t) (if_f (tOf_b (eBin_of (f := eVar 2) rfl (v7 t _) (geD_f h2))) rfl))))⟩
    · exact ⟨p, 0, r, .no, hp, by omega, fun t => if_f (tAnd_t (c1 t) (tOf_b (eBin_of (c3 t) (c2 t) (ltD_f h1)))) rfl⟩
  · refine ⟨p, q, r, .no, hp, hq, fun t => ?_⟩
    have c1 : tOf (eBin eqD (eIxV 0 (eC (.int 2))) (eC (.int 0))) [.own t (handL cs p q r s), .v (.int m), .no, .no, .no] = some (false, [.own t (handL cs p q r s), .v (.int m), .no, .no, .no]) :=
      tOf_b (eBin_of (g1 := [.own t (handL cs p q r s), .v (.int m), .no, .no, .no]) (ixV_v rfl rfl rfl rfl) rfl (eqD_f h0))
    exact if_f (tAnd_f c1) rfl
theorem fmod_rng (a : Int) {m : Int} (hm : 0 < m) : 0 ≤ a.fmod m ∧ a.fmod m < m := ⟨Int.fmod_nonneg_of_pos a hm, Int.fmod_lt_of_pos a hm⟩
theorem draw_ok {es : List D} {m : Int} (h : Hand es) (hm : 0 < m) (hm2 : m < 18446744073709551616) : ∃ x es', m__law_draw es [.int m] = some (.v (.int x), es') ∧ 0 ≤ x ∧ x < m ∧ Hand es' := by
  obtain ⟨cs, p, q, r, s, rfl, hp, hq⟩ := h
  obtain ⟨p', q', r', z, hp', hq', F⟩ := draw_first cs p q r s m hp hq
  have hd : Dl.DivOk m = true := divOk_s (by omega) (by omega)
  have hm0 : m ≠ 0 := by omega
  have c2 : ∀ a, eIxV 0 (eC (.int 2)) [.own (some a) (handL cs p' q' r' s), .v (.int m), z, .no, .no] = some (.int q', [.own (some a) (handL cs p' q' r' s), .v (.int m), z, .no, .no]) := fun a => ixV_v rfl rfl rfl rfl
  by_cases h1 : 0 < q'
  · refine ⟨q'.fmod m, handL cs p' (q'.fdiv m) r' s, ?_, (fmod_rng q' hm).1, (fmod_rng q' hm).2, ⟨cs, p', _, r', s, rfl, hp', Int.fdiv_nonneg hq' (by omega)⟩⟩
    unfold m__law_draw
    refine fnI_of fun a => ⟨[.own (some a) (handL cs p' (q'.fdiv m) r' s), .v (.int m), z, .v (.int (q'.fmod m)), .no], ?_, rfl⟩
    have S1 : sSet 3 (vE (eBin modD (eUn Dl.intD (eIxV 0 (eC (.int 2)))) (eVar 1))) [.own (some a) (handL cs p' q' r' s), .v (.int m), z, .no, .no] = some (.nx [.own (some a) (handL cs p' q' r' s), .v (.int m), z, .v (.int (q'.fmod m)), .no]) :=
      set_v (vE_of (eBin_of (h := eVar 1) (eUn_of (op := Dl.intD) (c2 a) rfl) rfl (modD_of hm0)))
    have S2 : sPut 0 (eC (.int 2)) (vE (eBin fdivD (eIxV 0 (eC (.int 2))) (eVar 1))) [.own (some a) (handL cs p' q' r' s), .v (.int m), z, .v (.int (q'.fmod m)), .no] = some (.nx [.own (some a) (handL cs p' (q'.fdiv m) r' s), .v (.int m), z, .v (.int (q'.fmod m)), .no]) := by
      have v1 : eIxV 0 (eC (.int 2)) [.own (some a) (handL cs p' q' r' s), .v (.int m), z, .v (.int (q'.fmod m)), .no] = some (.int q', [.own (some a) (handL cs p' q' r' s), .v (.int m), z, .v (.int (q'.fmod m)), .no]) := ixV_v rfl rfl rfl rfl
      exact put_of (i := 0) (fj := eC (.int 2)) (k := 2) (j := 2) (ds := handL cs p' q' r' s) (eV_v (vE_of (eBin_of (h := eVar 1) v1 rfl (fdivD_of hd)))) rfl rfl rfl rfl
    have S3 : sRetV 3 [.own (some a) (handL cs p' (q'.fdiv m) r' s), .v (.int m), z, .v (.int (q'.fmod m)), .no] = some (.ret (.v (.int (q'.fmod m))) [.own (some a) (handL cs p' (q'.fdiv m) r' s), .v (.int m), z, .v (.int (q'.fmod m)), .no]) := retV_v rfl
    unfold runG b__law_draw
    have e := seq_nx (F (some a)) (seq_ret (h := sSeq (sPut 0 (eC (.int 4)) (vE (eBin addA (eIxV 0 (eC (.int 4))) (eC (.int 1)))))
    (sSeq (sSet 4 (vE (eBin modD (eUn Dl.intD (eBin mulD (eUn Dl.intD (eBin addA (eIxV 0 (eC (.int 3))) (eBin mulD (eC (.int 7919)) (eIxV 0 (eC (.int 4)))))) (eC (.int 48271)))) (eC (.int 2147483647)))))
    (sSeq (sSet 4 (vE (eBin modD (eUn Dl.intD (eBin mulD (eVar 4) (eBin addA (eBin fdivD (eVar 4) (eC (.int 1009))) (eC (.int 69621))))) (eC (.int 2147483647)))))
    (sSeq (sSet 4 (vE (eBin modD (eUn Dl.intD (eBin mulD (eVar 4) (eBin addA (eBin fdivD (eVar 4) (eC (.int 2003))) (eC (.int 40692))))) (eC (.int 2147483399)))))
    (sRet (vE (eBin modD (eUn Dl.intD (eBin fdivD (eVar 4) (eC (.int 16)))) (eVar 1)))))))) (if_t (h := sNil) (tOf_b (eBin_of (h := eC (.int 0)) (c2 a) rfl (gtD_t h1))) (seq_nx S1 (seq_nx S2 S3))))
    exact congrArg (fun o => match o with
      | some (.ret x g') => some (x, g')
      | some (.nx g') => some (.v .none, g')
      | _ => none) e
  · have h0 : q' = 0 := by omega
    subst h0
    obtain ⟨w1, hw1⟩ : ∃ w1, w1 = ((r' + 7919 * (s + 1)) * 48271).fmod 2147483647 := ⟨_, rfl⟩
    obtain ⟨w2, hw2⟩ : ∃ w2, w2 = (w1 * (w1.fdiv 1009 + 69621)).fmod 2147483647 := ⟨_, rfl⟩
    obtain ⟨w3, hw3⟩ : ∃ w3, w3 = (w2 * (w2.fdiv 2003 + 40692)).fmod 2147483399 := ⟨_, rfl⟩
    have b1 := fmod_rng ((r' + 7919 * (s + 1)) * 48271) (m := 2147483647) (by decide)
    have b2 := fmod_rng (w1 * (w1.fdiv 1009 + 69621)) (m := 2147483647) (by decide)
    rw [← hw1] at b1
    rw [← hw2] at b2
    refine ⟨(w3.fdiv 16).fmod m, handL cs p' 0 r' (s + 1), ?_, (fmod_rng _ hm).1, (fmod_rng _ hm).2, ⟨cs, p', _, r', s + 1, rfl, hp', Int.le_refl _⟩⟩
    unfold m__law_draw
    refine fnI_of fun a => ⟨[.own (some a) (handL cs p' 0 r' (s + 1)), .v (.int m), z, .no, .v (.int w3)], ?_, rfl⟩
    have S1 : sPut 0 (eC (.int 4)) (vE (eBin addA (eIxV 0 (eC (.int 4))) (eC (.int 1)))) [.own (some a) (handL cs p' 0 r' s), .v (.int m), z, .no, .no] = some (.nx [.own (some a) (handL cs p' 0 r' (s + 1)), .v (.int m), z, .no, .no]) := by
      have v1 : eIxV 0 (eC (.int 4)) [.own (some a) (handL cs p' 0 r' s), .v (.int m), z, .no, .no] = some (.int s, [.own (some a) (handL cs p' 0 r' s), .v (.int m), z, .no, .no]) := ixV_v rfl rfl rfl rfl
      exact put_of (i := 0) (fj := eC (.int 4)) (k := 4) (j := 4) (ds := handL cs p' 0 r' s) (eV_v (vE_of (eBin_of (h := eC (.int 1)) v1 rfl (addA_int s 1)))) rfl rfl rfl rfl
    have S2 : sSet 4 (vE (eBin modD (eUn Dl.intD (eBin mulD (eUn Dl.intD (eBin addA (eIxV 0 (eC (.int 3))) (eBin mulD (eC (.int 7919)) (eIxV 0 (eC (.int 4)))))) (eC (.int 48271)))) (eC (.int 2147483647)))) [.own (some a) (handL cs p' 0 r' (s + 1)), .v (.int m), z, .no, .no] = some (.nx [.own (some a) (handL cs p' 0 r' (s + 1)), .v (.int m), z, .no, .v (.int w1)]) := by
      have v1 : eIxV 0 (eC (.int 4)) [.own (some a) (handL cs p' 0 r' (s + 1)), .v (.int m), z, .no, .no] = some (.int (s + 1), [.own (some a) (handL cs p' 0 r' (s + 1)), .v (.int m), z, .no, .no]) := ixV_v rfl rfl rfl rfl
      have v2 : eIxV 0 (eC (.int 3)) [.own (some a) (handL cs p' 0 r' (s + 1)), .v (.int m), z, .no, .no] = some (.int r', [.own (some a) (handL cs p' 0 r' (s + 1)), .v (.int m), z, .no, .no]) := ixV_v rfl rfl rfl rfl
      have v3 := eBin_of (f := eC (.int 7919)) rfl v1 (mulD_of (i := 7919) (mulOk_l (by decide)))
      have v4 := eBin_of v2 v3 (addA_int _ _)
      have v5 := eBin_of (h := eC (.int 48271)) (eUn_of (op := Dl.intD) v4 rfl) rfl (mulD_of (j := 48271) (mulOk_r (by decide)))
      have v6 := eBin_of (h := eC (.int 2147483647)) (eUn_of (op := Dl.intD) v5 rfl) rfl (modD_of (j := 2147483647) (by decide))
      rw [hw1]
      exact set_v (vE_of v6)
    have S3 : sSet 4 (vE (eBin modD (eUn Dl.intD (eBin mulD (eVar 4) (eBin addA (eBin fdivD (eVar 4) (eC (.int 1009))) (eC (.int 69621))))) (eC (.int 2147483647)))) [.own (some a) (handL cs p' 0 r' (s + 1)), .v (.int m), z, .no, .v (.int w1)] = some (.nx [.own (some a) (handL cs p' 0 r' (s + 1)), .v (.int m), z, .no, .v (.int w2)]) := by
      have v1 : eBin fdivD (eVar 4) (eC (.int 1009)) [.own (some a) (handL cs p' 0 r' (s + 1)), .v (.int m), z, .no, .v (.int w1)] = some (.int (w1.fdiv 1009), [.own (some a) (handL cs p' 0 r' (s + 1)), .v (.int m), z, .no, .v (.int w1)]) := eBin_of rfl rfl (fdivD_of (divOk_s (by decide) (by decide)))
      have v2 := eBin_of (h := eC (.int 69621)) v1 rfl (addA_int _ _)
      have v3 := eBin_of (f := eVar 4) (g := [.own (some a) (handL cs p' 0 r' (s + 1)), .v (.int m), z, .no, .v (.int w1)]) (d := .int w1) rfl v2 (mulD_of (i := w1) (mulOk_l (by omega)))
      have v4 := eBin_of (h := eC (.int 2147483647)) (eUn_of (op := Dl.intD) v3 rfl) rfl (modD_of (j := 2147483647) (by decide))
      rw [hw2]
      exact set_v (vE_of v4)
    have S4 : sSet 4 (vE (eBin modD (eUn Dl.intD (eBin mulD (eVar 4) (eBin addA (eBin fdivD (eVar 4) (eC (.int 2003))) (eC (.int 40692))))) (eC (.int 2147483399)))) [.own (some a) (handL cs p' 0 r' (s + 1)), .v (.int m), z, .no, .v (.int w2)] = some (.nx [.own (some a) (handL cs p' 0 r' (s + 1)), .v (.int m), z, .no, .v (.int w3)]) := by
      have v1 : eBin fdivD (eVar 4) (eC (.int 2003)) [.own (some a) (handL cs p' 0 r' (s + 1)), .v (.int m), z, .no, .v (.int w2)] = some (.int (w2.fdiv 2003), [.own (some a) (handL cs p' 0 r' (s + 1)), .v (.int m), z, .no, .v (.int w2)]) := eBin_of rfl rfl (fdivD_of (divOk_s (by decide) (by decide)))
      have v2 := eBin_of (h := eC (.int 40692)) v1 rfl (addA_int _ _)
      have v3 := eBin_of (f := eVar 4) (g := [.own (some a) (handL cs p' 0 r' (s + 1)), .v (.int m), z, .no, .v (.int w2)]) (d := .int w2) rfl v2 (mulD_of (i := w2) (mulOk_l (by omega)))
      have v4 := eBin_of (h := eC (.int 2147483399)) (eUn_of (op := Dl.intD) v3 rfl) rfl (modD_of (j := 2147483399) (by decide))
      rw [hw3]
      exact set_v (vE_of v4)
    have S5 : sRet (vE (eBin modD (eUn Dl.intD (eBin fdivD (eVar 4) (eC (.int 16)))) (eVar 1))) [.own (some a) (handL cs p' 0 r' (s + 1)), .v (.int m), z, .no, .v (.int w3)] = some (.ret (.v (.int ((w3.fdiv 16).fmod m))) [.own (some a) (handL cs p' 0 r' (s + 1)), .v (.int m), z, .no, .v (.int w3)]) := by
      have v1 : eBin fdivD (eVar 4) (eC (.int 16)) [.own (some a) (handL cs p' 0 r' (s + 1)), .v (.int m), z, .no, .v (.int w3)] = some (.int (w3.fdiv 16), [.own (some a) (handL cs p' 0 r' (s + 1)), .v (.int m), z, .no, .v (.int w3)]) := eBin_of rfl rfl (fdivD_of (divOk_s (by decide) (by decide)))
      exact ret_v (vE_of (eBin_of (h := eVar 1) (eUn_of (op := Dl.intD) v1 rfl) rfl (modD_of hm0)))
    unfold runG b__law_draw
    have e := seq_nx (F (some a)) (seq_nx (if_f (f := sSeq (sSet 3 (vE (eBin modD (eUn Dl.intD (eIxV 0 (eC (.int 2)))) (eVar 1)))) (sSeq (sPut 0 (eC (.int 2)) (vE (eBin fdivD (eIxV 0 (eC (.int 2))) (eVar 1)))) (sRetV 3))) (h := sNil) (tOf_b (eBin_of (h := eC (.int 0)) (c2 a) rfl (gtD_f h1))) rfl) (seq_nx S1 (seq_nx S2 (seq_nx S3 (seq_nx S4 S5)))))
    exact congrArg (fun o => match o with
      | some (.ret x g') => some (x, g')
      | some (.nx g') => some (.v .none, g')
      | _ => none) e
theorem atI_mem {l : List D} {x : Int} (h0 : 0 ≤ x) (h : x < (l.length : Nat)) : ∃ d, L2.atI l x = some d ∧ d ∈ l := by
  obtain ⟨n, rfl⟩ := Int.eq_ofNat_of_zero_le h0
  have hn : n < l.length := by omega
  have := atI_map (f := id) (l := l) (i := n) (a := l[n]) (List.getElem?_eq_getElem hn)
  rw [List.map_id] at this
  exact ⟨l[n], this, List.getElem_mem hn⟩
theorem any_ok {es ds : List D} (h : Hand es) (hn : ds ≠ []) (hl : ds.length < 1000000) : ∃ d es', m__law_some es [.list ds] = some (.v d, es') ∧ d ∈ ds ∧ Hand es' := by
  have hp : 0 < ds.length := List.length_pos_iff.mpr hn
  obtain ⟨x, es', e, h0, h1, H⟩ := draw_ok h (m := (ds.length : Nat)) (by omega) (by omega)
  obtain ⟨d, hd, hm⟩ := atI_mem h0 h1
  refine ⟨d, es', ?_, hm, H⟩
  unfold m__law_some b__law_some
  refine fnI_ret fun a => ⟨[.own (some a) es', .v (.list ds)], ?_, rfl⟩
  have v1 : eCallI m__law_draw 0 (aCons (eUn lenD (bVar 1)) aNil) [.own (some a) es, .v (.list ds)] = some (.v (.int x), [.own (some a) es', .v (.list ds)]) := callI_of (i := 0) (g1 := [.own (some a) es, .v (.list ds)]) (t := some a) (ds := [.int (ds.length : Nat)]) rfl (ar_cons (eUn_of (op := lenD) (d := .list ds) rfl rfl) ar_nil) rfl e
  exact ret_v (vE_of (ixV_v rfl (eV_v v1) rfl hd))
theorem hand_ok (ns : List Int) (hl : ns.length ≤ 1000) : ∃ es, m__law_hand [.list (ns.map .int)] = some (.own none es) ∧ Hand es := by
  have hcl : (cutL ns none (some 63)).length ≤ 1000 := by
    unfold cutL
    simp only [List.length_take, List.length_drop]
    omega
  have v0 : eSlU (eVar 0) oNone (oSome (eC (.int 63))) [.v (.list (ns.map .int)), .no, .no] = some (.list ((cutL ns none (some 63)).map .int), [.v (.list (ns.map .int)), .no, .no]) := by
    have := eSlU_ofL (fa := eVar 0) (fl := oNone) (fh := oSome (eC (.int 63))) (g := [.v (.list (ns.map .int)), .no, .no]) (ds := ns.map .int) rfl rfl (oSome_of rfl)
    rw [cutL_map] at this
    exact this
  have v1 := vLc_map (fi := iSeq (eSlU (eVar 0) oNone (oSome (eC (.int 63))))) (t := gVar 2) (c := cYes) (f := eUn absD (eUn Dl.intD (bVar 2))) (vs := [2]) (g := [.v (.list (ns.map .int)), .no, .no]) (g0 := [.v (.list (ns.map .int)), .no, .no]) (xs := cutL ns none (some 63)) PyData.int (fun i => .int (if i < 0 then -i else i))
    (iSeq_of v0 rfl) rfl (by omega) (fun x hx => ⟨[.v (.list (ns.map .int)), .no, .v (.int x)], [.v (.list (ns.map .int)), .no, .v (.int x)], rfl, rfl, eUn_of (eUn_of rfl rfl) rfl, rfl⟩)
  obtain ⟨cs, hcs⟩ : ∃ cs : List Int, cs = (cutL ns none (some 63)).map fun i => if i < 0 then -i else i := ⟨_, rfl⟩
  have e : ((cutL ns none (some 63)).map fun i => PyData.int (if i < 0 then -i else i)) = cs.map PyData.int := by rw [hcs]; simp
  rw [e] at v1
  have s1 := set_o (i := 1) v1
  have l0 : lenD (.list (cs.map PyData.int)) = some (.int (cs.length : Nat)) := by simp [lenD]
  have w1 : eBin addA (eC (.int 109)) (eBin mulD (eC (.int 3)) (eUn lenD (bVar 1))) [.v (.list (ns.map .int)), .v (.list (cs.map .int)), .no] = some (.int (109 + 3 * (cs.length : Nat)), [.v (.list (ns.map .int)), .v (.list (cs.map .int)), .no]) := eBin_of rfl (eBin_of rfl (eUn_of rfl l0) (mulD_of (mulOk_l (by decide)))) (addA_int _ _)
  have w2 := vLst_of (f := aCons (eVar 1) (aCons (eC (.int 0)) (aCons (eC (.int 0)) (aCons (eBin addA (eC (.int 109)) (eBin mulD (eC (.int 3)) (eUn lenD (bVar 1)))) (aCons (eC (.int 0)) aNil))))) (g := [.v (.list (ns.map .int)), .own none (cs.map .int), .no])
    (ar_cons (d := .list (cs.map .int)) rfl (ar_cons rfl (ar_cons rfl (ar_cons w1 (ar_cons rfl ar_nil)))))
  refine ⟨handL cs 0 0 (109 + 3 * (cs.length : Nat)) 0, ?_, cs, 0, 0, _, 0, rfl, Int.le_refl _, Int.le_refl _⟩
  unfold m__law_hand b__law_hand
  exact fnP_ret _ rfl (seq_nx s1 (ret_o w2))
theorem drawV {i : Nat} {f : Fe} {g : G} {t : Option Addr} {es es' : List D} {m x : Int} (e0 : g[i]? = some (.own t es)) (ef : f g = some (.int m, g)) (e : m__law_draw es [.int m] = some (.v (.int x), es')) :
    eV (eCallI m__law_draw i (aCons f aNil)) g = some (.int x, g.set i (.own t es')) := eV_v (callI_of (by rw [e0]; rfl) (ar_cons ef ar_nil) e0 e)
theorem divInt_pos {a b : Int} (ha : 0 < a) (hb : 0 < b) : 0 < Rat.divInt a b := by
  have g0 : 0 < Int.gcd b a := Int.gcd_pos_of_ne_zero_left _ (by omega)
  have g1 : ((Int.gcd b a : Nat) : Int) ∣ a := Int.gcd_dvd_right ..
  have en : (Rat.divInt a b).num = a / (Int.gcd b a : Nat) := by rw [Rat.num_divInt, Int.sign_eq_one_of_pos hb, Int.one_mul]
  have h : 0 < (Rat.divInt a b).num := by
    rw [en]
    obtain ⟨c, hc⟩ := g1
    have hg : (0 : Int) < (Int.gcd b a : Nat) := by omega
    have e : a / ((Int.gcd b a : Nat) : Int) = c := Int.ediv_eq_of_eq_mul_right (by omega) hc
    rw [e]
    rw [hc] at ha
    exact Int.pos_of_mul_pos_right ha hg
  rw [Rat.lt_iff]
  simpa using h
theorem fraction_ok {es : List D} {m : Int} (h : Hand es) (hm : 0 < m) (hm2 : m ≤ 100) : ∃ r es', m__law_fraction es [.int m] = some (.v (qD r), es') ∧ Po 30 r ∧ Hand es' := by
  obtain ⟨x1, es1, e1, h10, h11, H1⟩ := draw_ok h (m := m) hm (by omega)
  obtain ⟨x2, es2, e2, h20, h21, H2⟩ := draw_ok H1 (m := 9) (by decide) (by decide)
  obtain ⟨d, es3, e3, hd, H3⟩ := any_ok (ds := [.int 0, .int 0, .int 0, .int 1, .int 2, .int x2]) H2 (by simp) (by simp)
  have hb : ∃ b : Int, d = .int b ∧ 0 ≤ b ∧ b < 9 := by
    simp only [List.mem_cons, List.not_mem_nil, or_false] at hd
    rcases hd with rfl | rfl | rfl | rfl | rfl | rfl
    · exact ⟨0, rfl, by decide, by decide⟩
    · exact ⟨0, rfl, by decide, by decide⟩
    · exact ⟨0, rfl, by decide, by decide⟩
    · exact ⟨1, rfl, by decide, by decide⟩
    · exact ⟨2, rfl, by decide, by decide⟩
    · exact ⟨x2, rfl, h20, h21⟩
  obtain ⟨b, rfl, hb0, hb1⟩ := hb
  have hg := gcd_le_den (1 + x1) (b := 1 + b) (by omega)
  have k1 := low_ok (a := 1 + x1) (b := 1 + b) (by omega) (Nat.lt_of_le_of_lt hg (Nat.lt_of_lt_of_le (m := 2 ^ 30) (by omega) (Nat.pow_le_pow_right (by decide) (by decide))))
  refine ⟨Rat.divInt (1 + x1) (1 + b), es3, ?_, ⟨divInt_b0 (by omega) (by omega) (by omega), ?_⟩, H3⟩
  · unfold m__law_fraction b__law_fraction
    refine fnI_ret fun a => ⟨[.own (some a) es3, .v (.int m)], ?_, rfl⟩
    have v1 := eBin_of (f := eC (.int 1)) rfl (drawV (i := 0) (f := eVar 1) (g := [.own (some a) es, .v (.int m)]) rfl rfl e1) (addA_int 1 x1)
    have v2 := drawV (i := 0) (f := eC (.int 9)) (g := [.own (some a) es1, .v (.int m)]) rfl rfl e2
    have v3 := vLst_of (ar_cons (f := eC (.int 0)) (g := [.own (some a) es1, .v (.int m)]) rfl (ar_cons (f := eC (.int 0)) rfl (ar_cons (f := eC (.int 0)) rfl (ar_cons (f := eC (.int 1)) rfl (ar_cons (f := eC (.int 2)) rfl (ar_cons v2 ar_nil))))))
    have v4 := eV_v (callI_of (m := m__law_some) (i := 0) (t := some a) rfl (ar_cons (eV_o v3) ar_nil) rfl e3)
    have v5 := eBin_of (f := eC (.int 1)) rfl v4 (addA_int 1 b)
    exact ret_v (eCall_of (ar_cons v1 (ar_cons v5 ar_nil)) k1)
  · exact divInt_pos (by omega) (by omega)
/-! ### the law's likeness -/
theorem isi2_of {d : D} {n T U : String} {a b : Bool} (h : tyD d = some n) (k : L2.kitB n T = some a) (k2 : L2.kitB n U = some b) : isi2D T U d = some (.bool (a || b)) := by
  unfold isi2D
  rw [h]
  simp only [Option.bind_some, k, k2]
theorem isi2_i {i : Int} : isi2D "tuple" "list" (.int i) = some (.bool false) := isi2_of (a := false) (b := false) rfl (by decide +kernel) (by decide +kernel)
theorem isi2_t {l : List D} : isi2D "tuple" "list" (.tuple l) = some (.bool true) := isi2_of (a := true) (b := false) rfl (by decide +kernel) (by decide +kernel)
theorem isi2_l {l : List D} : isi2D "tuple" "list" (.list l) = some (.bool true) := isi2_of (a := false) (b := true) rfl (by decide +kernel) (by decide +kernel)
theorem isi_tl {i : List D} : isiD "tuple" (.list i) = some (.bool false) := isiD_of rfl (by decide +kernel)
theorem neD_bb (b : Bool) : neD (.bool b) (.bool b) = some (.bool false) := by cases b <;> rfl
theorem isi_lt {i : List D} : isiD "list" (.tuple i) = some (.bool false) := isiD_of rfl (by decide +kernel)
theorem isi_ll {i : List D} : isiD "list" (.list i) = some (.bool true) := isiD_of rfl (by decide +kernel)
theorem eqD_bb (b : Bool) : eqD (.bool b) (.bool b) = some (.bool true) := by cases b <;> rfl
theorem is_int {me : List D → Option Sl} (i : Int) : fnP (b__law_is me) 4 [.int i, .int i] = some (.v (.bool true)) := by
  have c1 : tOf (eUn (isi2D "tuple" "list") (eVar 1)) [.v (.int i), .v (.int i), .no, .no] = some (false, [.v (.int i), .v (.int i), .no, .no]) := tOf_b (eUn_of (f := eVar 1) rfl isi2_i)
  have d1 : tOf (eBin isND (eVar 1) (eC .none)) [.v (.int i), .v (.int i), .no, .no] = some (false, [.v (.int i), .v (.int i), .no, .no]) := tOf_b (eBin_of (f := eVar 1) (h := eC .none) rfl rfl rfl)
  have d2 : tOf (eBin isND (eVar 0) (eC .none)) [.v (.int i), .v (.int i), .no, .no] = some (false, [.v (.int i), .v (.int i), .no, .no]) := tOf_b (eBin_of (f := eVar 0) (h := eC .none) rfl rfl rfl)
  have c2 : tOf (eBin neD (eUn (isiD "bool") (eVar 0)) (eUn (isiD "bool") (eVar 1))) [.v (.int i), .v (.int i), .no, .no] = some (false, [.v (.int i), .v (.int i), .no, .no]) := tOf_b (eBin_of (eUn_of (f := eVar 0) rfl isi_ib) (eUn_of (f := eVar 1) rfl isi_ib) (neD_bb false))
  have c3 : tOf (eBin neD (eUn (isiD "int") (eVar 0)) (eUn (isiD "int") (eVar 1))) [.v (.int i), .v (.int i), .no, .no] = some (false, [.v (.int i), .v (.int i), .no, .no]) := tOf_b (eBin_of (eUn_of (f := eVar 0) rfl isi_ii) (eUn_of (f := eVar 1) rfl isi_ii) (neD_bb true))
  have c4 : eBin eqD (eUn (isiD "str") (eVar 0)) (eUn (isiD "str") (eVar 1)) [.v (.int i), .v (.int i), .no, .no] = some (.bool true, [.v (.int i), .v (.int i), .no, .no]) := eBin_of (eUn_of (f := eVar 0) rfl isi_is) (eUn_of (f := eVar 1) rfl isi_is) (eqD_bb false)
  exact fnP_ret [.v (.int i), .v (.int i), .no, .no] rfl (seq_nx (if_f c1 rfl) (seq_nx (if_f (h := sNil) (tOr_f d1 d2) rfl) (seq_nx (if_f (tOr_f c2 c3) rfl) (ret_v (vE_of (eAnd_t c4 (eBin_of (f := eVar 0) (h := eVar 1) rfl rfl (eqD_t rfl))))))))
theorem is_seq {me : List D → Option Sl} {X : D} {ds : List D} {b c : Bool} (h2 : isi2D "tuple" "list" X = some (.bool true)) (h1 : isiD "tuple" X = some (.bool b)) (h3 : isiD "list" X = some (.bool c)) (hs : seqD X = some ds) (hl : lenD X = some (.int (ds.length : Nat))) (hn : ds.length ≤ 1000)
    (H : ∀ d ∈ ds, me [d, d] = some (.v (.bool true))) : fnP (b__law_is me) 4 [X, X] = some (.v (.bool true)) := by
  have c1 : tOf (eUn (isi2D "tuple" "list") (eVar 1)) [.v X, .v X, .no, .no] = some (true, [.v X, .v X, .no, .no]) := tOf_b (eUn_of (f := eVar 1) rfl h2)
  have c2 : tOf (eBin neD (eUn (isiD "tuple") (eVar 0)) (eUn (isiD "tuple") (eVar 1))) [.v X, .v X, .no, .no] = some (false, [.v X, .v X, .no, .no]) := tOf_b (eBin_of (eUn_of (f := eVar 0) rfl h1) (eUn_of (f := eVar 1) rfl h1) (neD_bb b))
  have c3 : tOf (eBin neD (eUn (isiD "list") (eVar 0)) (eUn (isiD "list") (eVar 1))) [.v X, .v X, .no, .no] = some (false, [.v X, .v X, .no, .no]) := tOf_b (eBin_of (eUn_of (f := eVar 0) rfl h3) (eUn_of (f := eVar 1) rfl h3) (neD_bb c))
  have c4 : eBin eqD (eUn lenD (bVar 0)) (eUn lenD (bVar 1)) [.v X, .v X, .no, .no] = some (.bool true, [.v X, .v X, .no, .no]) := eBin_of (eUn_of (f := bVar 0) rfl hl) (eUn_of (f := bVar 1) rfl hl) (eqD_t rfl)
  have e1 : iZipU (aCons (eVar 0) (aCons (eVar 1) aNil)) [.v X, .v X, .no, .no] = some (ds.map fun d => .tuple [d, d], [.v X, .v X, .no, .no]) := by
    have := zipU_of (f := aCons (eVar 0) (aCons (eVar 1) aNil)) (F := fun d : D => d) (H := fun d : D => d) (g := [.v X, .v X, .no, .no]) (g1 := [.v X, .v X, .no, .no]) (l := ds) (m := ds) rfl (by rw [hs, List.map_id']) (by rw [hs, List.map_id'])
    rw [zip_self, List.map_map] at this
    exact this
  have lc := vLc_map (t := gTup (gsCons (gVar 2) (gsCons (gVar 3) gsNil)) 2) (c := cYes) (f := eV (eCall me (aCons (eVar 2) (aCons (eVar 3) aNil)))) (vs := [2, 3]) (xs := ds) (fun d : D => .tuple [d, d]) (fun _ => .bool true) e1 (by simp [okW]) (by omega) (fun d hd =>
    ⟨[.v X, .v X, .v d, .v d], [.v X, .v X, .v d, .v d], rfl, rfl, eV_v (eCall_of (ar_cons (f := eVar 2) rfl (ar_cons (f := eVar 3) rfl ar_nil)) (H d hd)), rfl⟩)
  have a1 := allD_map (fun _ : D => true) ds
  have e2 : (ds.all fun _ => true) = true := by simp
  rw [e2] at a1
  exact fnP_ret [.v X, .v X, .no, .no] rfl (seq_ret (if_t c1 (seq_nx (if_f (h := sNil) (tOr_f c2 c3) rfl) (ret_v (vE_of (eAnd_t c4 (eUn_of (eV_o lc) a1)))))))
theorem is_tup {me : List D → Option Sl} {ds : List D} (hn : ds.length ≤ 1000) (H : ∀ d ∈ ds, me [d, d] = some (.v (.bool true))) : fnP (b__law_is me) 4 [.tuple ds, .tuple ds] = some (.v (.bool true)) := is_seq isi2_t isi_tt isi_lt rfl rfl hn H
theorem is_q (m : Nat) (r : Rat) : mr__law_is (m + 2) [qD r, qD r] = some (.v (.bool true)) := by
  show fnP (b__law_is (mr__law_is (m + 1))) 4 [qD r, qD r] = _
  refine is_tup (by simp) fun d hd => ?_
  simp only [List.mem_cons, List.not_mem_nil, or_false] at hd
  rcases hd with rfl | rfl
  · exact is_int _
  · exact is_int _
theorem is_three (a b c : D) (h : ∀ d ∈ [a, b, c], mr__law_is 7 [d, d] = some (.v (.bool true))) : m__law_is [.list [a, b, c], .list [a, b, c]] = some (.v (.bool true)) := by
  show fnP (b__law_is (mr__law_is 7)) 4 _ = _
  exact is_seq isi2_l isi_tl isi_ll rfl rfl (by simp) h
theorem is_two (a b : D) (h : ∀ d ∈ [a, b], mr__law_is 7 [d, d] = some (.v (.bool true))) : m__law_is [.list [a, b], .list [a, b]] = some (.v (.bool true)) := by
  show fnP (b__law_is (mr__law_is 7)) 4 _ = _
  exact is_seq isi2_l isi_tl isi_ll rfl rfl (by simp) h
end K64
set_option Elab.async false
set_option linter.all false
set_option maxRecDepth 100000
namespace K64
open PySem Dl

theorem ixN_nat {n j : Nat} (h : j < n) : L2.ixN n (j : Int) = some j := by
  unfold L2.ixN
  rw [if_pos (by omega), if_pos (by omega)]
  simp
/-- a comprehension that draws -/
theorem draw_lc {α : Type} {iv v : Nat} {f : Fe} (hne : iv ≠ v) (Γ : G → Prop) (hΓ1 : ∀ g x, Γ g → Γ (g.set iv x)) (hΓ2 : ∀ g x, Γ g → Γ (g.set v x)) (enc : α → D) (R : D → α → Prop) : ∀ (ds : List D) (es : List D), Hand es →
    (∀ d ∈ ds, ∀ es, Hand es → ∃ a es', R d a ∧ Hand es' ∧ ∀ (g : G) (t : Option Addr), g[iv]? = some (.own t es) → g[v]? = some (.v d) → Γ g → f g = some (enc a, g.set iv (.own t es'))) →
    ∃ (rs : List α) (es' : List D), rs.length = ds.length ∧ (∀ (i : Nat) (d : D) (a : α), ds[i]? = some d → rs[i]? = some a → R d a) ∧ Hand es' ∧ ∀ (g : G) (t : Option Addr), g[iv]? = some (.own t es) → g[v]? = some .no → Γ g → lcGo (gVar v) cYes f [v] ds g = some (rs.map enc, g.set iv (.own t es'))
  | [], es, h, _ => ⟨[], es, rfl, fun i d a hd _ => by simp at hd, h, fun g t hg _ _ => by
    show some ([], g) = some ([], g.set iv (.own t es))
    congr 2
    obtain ⟨hi, e⟩ := List.getElem?_eq_some_iff.mp hg
    rw [← e, List.set_getElem_self]⟩
  | d :: ds, es, h, H => by
    obtain ⟨r0, es1, b1, H1, e1⟩ := H d (List.mem_cons_self ..) es h
    obtain ⟨rs, es', h1, h2, h3, h4⟩ := draw_lc hne Γ hΓ1 hΓ2 enc R ds es1 H1 fun d hd => H d (List.mem_cons_of_mem _ hd)
    refine ⟨r0 :: rs, es', by simp [h1], fun i e a hd ha => ?_, h3, fun g t hg hv hG => ?_⟩
    · cases i with
      | zero =>
        simp only [List.getElem?_cons_zero, Option.some.injEq] at hd ha
        subst hd ha
        exact b1
      | succ i => exact h2 i e a (by simpa using hd) (by simpa using ha)
    · obtain ⟨hi, _⟩ := List.getElem?_eq_some_iff.mp hg
      obtain ⟨hvl, ev⟩ := List.getElem?_eq_some_iff.mp hv
      have k1 : (g.set v (.v d))[iv]? = some (.own t es) := by rw [List.getElem?_set_ne (Ne.symm hne)]; exact hg
      have k3 : ((g.set v (.v d)).set iv (.own t es1)).set v .no = g.set iv (.own t es1) := by
        rw [List.set_comm _ _ hne, List.set_set]
        congr 1
        rw [← ev, List.set_getElem_self]
      have k4 := h4 (g.set iv (.own t es1)) t (List.getElem?_set_self hi) (by rw [List.getElem?_set_ne hne]; exact hv) (hΓ1 _ _ hG)
      rw [List.set_set] at k4
      have k5 := e1 (g.set v (.v d)) t k1 (List.getElem?_set_self hvl) (hΓ2 _ _ hG)
      show ((gVar v d g).bind fun g1 => (cYes g1).bind fun p => if p.1 = true then (f p.2).bind fun q => (lcGo (gVar v) cYes f [v] ds (wipeG q.2 [v])).map fun w => (q.1 :: w.1, w.2) else _) = _
      simp only [gVar, Option.bind_some, cYes, if_true, k5, wipeG, k3, k4, Option.map_some, List.map_cons]
theorem fracV {i : Nat} {g : G} {t : Option Addr} {es es' : List D} {m : Int} {r : Rat} (e0 : g[i]? = some (.own t es)) (e : m__law_fraction es [.int m] = some (.v (qD r), es')) :
    eV (eCallI m__law_fraction i (aCons (eC (.int m)) aNil)) g = some (qD r, g.set i (.own t es')) := eV_v (callI_of (by rw [e0]; rfl) (ar_cons rfl ar_nil) e0 e)
def W7 (z : Sl) : Prop := Pl z ∨ ∃ ds, z = .own none ds
def fzS : Sl → Sl
  | .own none ds => .v (.list ds)
  | z => z
theorem fzS_pl {z : Sl} (h : W7 z) : Pl (fzS z) := by
  rcases h with (rfl | ⟨d, rfl⟩) | ⟨ds, rfl⟩
  · exact .inl rfl
  · exact .inr ⟨d, rfl⟩
  · exact .inr ⟨_, rfl⟩
theorem fz7 (a0 a1 a2 a3 a4 a5 a6 z a8 a9 a10 : Sl) (h : W7 z) : fz 7 [a0, a1, a2, a3, a4, a5, a6, z, a8, a9, a10] = [a0, a1, a2, a3, a4, a5, a6, fzS z, a8, a9, a10] := by
  rcases h with (rfl | ⟨d, rfl⟩) | ⟨ds, rfl⟩ <;> rfl
theorem okW78 (a0 a1 a2 a3 a4 a5 a6 z7 z8 a9 a10 : Sl) (h7 : Pl z7) (h8 : Pl z8) : okW [a0, a1, a2, a3, a4, a5, a6, z7, z8, a9, a10] [8, 7] = true := by
  rcases h7 with rfl | ⟨d, rfl⟩ <;> rcases h8 with rfl | ⟨e, rfl⟩ <;> rfl
theorem lands_step {n m : Nat} {s : Int} (hm : 1 ≤ m) (hm6 : m ≤ 6) (d : D) (es : List D) (acc : List La) (z7 : Sl) (h : Hand es) (ha : ∀ l ∈ acc, LaOk m l) (hl : acc.length ≤ 999) :
    ∃ (es' : List D) (l : La) (z7' : Sl), Hand es' ∧ LaOk m l ∧ W7 z7' ∧ ∀ t, (sSeq (sSet 7 (vLc (iRange1 (aCons (eVar 2) aNil)) (gVar 6) cYes (eIf (tOf (eBin ltD (eV (eCallI m__law_draw 0 (aCons (eC (.int 8)) aNil))) (eVar 3))) (eC .none) (eV (eCallI m__law_fraction 0 (aCons (eC (.int 6)) aNil)))) [6]))
    (sSeq (sIf (Dl.tNotT (tOf (eUn anyD (eV (vLcN 7 (gVar 10) cYes (eBin notND (eVar 10) (eC .none)) [10]))))) (sPut 7 (eV (eCallI m__law_draw 0 (aCons (eVar 2) aNil))) (eCallI m__law_fraction 0 (aCons (eC (.int 6)) aNil))) sNil)
    (sEx (eApp 4 (vE (eTup (aCons (eV (eCallI m__law_fraction 0 (aCons (eC (.int 12)) aNil))) (aCons (eUn tupD (bVar 7)) aNil))))))))
      [.own t es, .v (.int n), .v (.int m), .v (.int s), .own none (acc.map laD), .v d, .no, z7, .no, .no, .no] = some (.nx [.own t es', .v (.int n), .v (.int m), .v (.int s), .own none ((acc ++ [l]).map laD), .v d, .no, z7', .no, .no, .no]) := by
  obtain ⟨ws, es1, l1, p1, H1, k1⟩ := draw_lc (iv := 0) (v := 6) (f := eIf (tOf (eBin ltD (eV (eCallI m__law_draw 0 (aCons (eC (.int 8)) aNil))) (eVar 3))) (eC .none) (eV (eCallI m__law_fraction 0 (aCons (eC (.int 6)) aNil)))) (by decide) (fun g => g[3]? = some (.v (.int s))) (fun g x h => by rw [List.getElem?_set_ne (by decide)]; exact h) (fun g x h => by rw [List.getElem?_set_ne (by decide)]; exact h)
    wkD (fun _ w => ∀ r, w = some r → Po 30 r) ((List.range m).map fun (i : Nat) => .int (i : Int)) es h (fun d hd es h => by
      obtain ⟨x, es1, e1, _, _, H1⟩ := draw_ok h (m := 8) (by decide) (by decide)
      by_cases c : x < s
      · refine ⟨none, es1, fun r e => by (cases e), H1, fun g t hg _ hG => ?_⟩
        have v3 : eVar 3 (g.set 0 (.own t es1)) = some (.int s, g.set 0 (.own t es1)) := by
          unfold eVar
          rw [List.getElem?_set_ne (by decide), hG]
        exact eIf_t (tOf_b (eBin_of (drawV hg rfl e1) v3 (ltD_t c))) rfl
      · obtain ⟨r, es2, e2, b2, H2⟩ := fraction_ok H1 (m := 6) (by decide) (by decide)
        refine ⟨some r, es2, fun r' e => by (cases e; exact b2), H2, fun g t hg _ hG => ?_⟩
        have v3 : eVar 3 (g.set 0 (.own t es1)) = some (.int s, g.set 0 (.own t es1)) := by
          unfold eVar
          rw [List.getElem?_set_ne (by decide), hG]
        have hi := (List.getElem?_eq_some_iff.mp hg).1
        have v4 := eV_v (callI_of (m := m__law_fraction) (i := 0) (f := aCons (eC (.int 6)) aNil) (g := g.set 0 (.own t es1)) (t := t) (by rw [List.getElem?_set_self hi]; rfl) (ar_cons rfl ar_nil) (List.getElem?_set_self hi) e2)
        rw [List.set_set] at v4
        exact eIf_f (tOf_b (eBin_of (drawV hg rfl e1) v3 (ltD_f c))) v4)
  have l1 : ws.length = m := by simpa using l1
  have p1 : ∀ r, some r ∈ ws → Po 30 r := fun r hr => by
    obtain ⟨i, hi⟩ := List.getElem?_of_mem hr
    have hil := (List.getElem?_eq_some_iff.mp hi).1
    exact p1 i (.int (i : Int)) (some r) (by rw [List.getElem?_map, List.getElem?_range (by omega)]; rfl) hi r rfl
  have s1 : ∀ t, sSet 7 (vLc (iRange1 (aCons (eVar 2) aNil)) (gVar 6) cYes (eIf (tOf (eBin ltD (eV (eCallI m__law_draw 0 (aCons (eC (.int 8)) aNil))) (eVar 3))) (eC .none) (eV (eCallI m__law_fraction 0 (aCons (eC (.int 6)) aNil)))) [6]) [.own t es, .v (.int n), .v (.int m), .v (.int s), .own none (acc.map laD), .v d, .no, z7, .no, .no, .no] = some (.nx [.own t es1, .v (.int n), .v (.int m), .v (.int s), .own none (acc.map laD), .v d, .no, .own none (ws.map wkD), .no, .no, .no]) := fun t =>
    set_o (vLc_of (fi := iRange1 (aCons (eVar 2) aNil)) (g := [.own t es, .v (.int n), .v (.int m), .v (.int s), .own none (acc.map laD), .v d, .no, z7, .no, .no, .no]) (rng_of (n := m) (ar_cons (f := eVar 2) rfl ar_nil) (by omega)) rfl (k1 [.own t es, .v (.int n), .v (.int m), .v (.int s), .own none (acc.map laD), .v d, .no, z7, .no, .no, .no] t rfl rfl rfl) (by simp [l1]; omega))
  have c1 : ∀ t, tOf (eUn anyD (eV (vLcN 7 (gVar 10) cYes (eBin notND (eVar 10) (eC .none)) [10]))) [.own t es1, .v (.int n), .v (.int m), .v (.int s), .own none (acc.map laD), .v d, .no, .own none (ws.map wkD), .no, .no, .no] = some (ws.any fun w => w.isSome, [.own t es1, .v (.int n), .v (.int m), .v (.int s), .own none (acc.map laD), .v d, .no, .own none (ws.map wkD), .no, .no, .no]) := fun t => by
    have lc := vLcN_own (i := 7) (g := [.own t es1, .v (.int n), .v (.int m), .v (.int s), .own none (acc.map laD), .v d, .no, .own none (ws.map wkD), .no, .no, .no]) (tg := none) (ds := ws.map wkD) (vs := [10]) rfl rfl (lcGo_map (c := cYes) (f := eBin notND (eVar 10) (eC .none)) (t := tOw 7 (.own none (ws.map wkD)) (gVar 10)) wkD (fun w => .bool w.isSome) ws fun w hw =>
      ⟨[.own t es1, .v (.int n), .v (.int m), .v (.int s), .own none (acc.map laD), .v d, .no, .own none (ws.map wkD), .no, .no, .v (wkD w)], [.own t es1, .v (.int n), .v (.int m), .v (.int s), .own none (acc.map laD), .v d, .no, .own none (ws.map wkD), .no, .no, .v (wkD w)], tOw_of rfl rfl, rfl, eBin_of (f := eVar 10) (h := eC .none) rfl rfl (notN_w w), rfl⟩) rfl (by simp [l1]; omega)
    exact tOf_b (eUn_of (eV_o lc) (anyD_map (fun w : Option Rat => w.isSome) ws))
  -- the works in the end
  obtain ⟨vs, es2, H2, lv, pv, sv, F2⟩ : ∃ (vs : List (Option Rat)) (es2 : List D), Hand es2 ∧ vs.length = m ∧ (∀ r, some r ∈ vs → Po 30 r) ∧ (∃ r, some r ∈ vs) ∧ ∀ t, sIf (Dl.tNotT (tOf (eUn anyD (eV (vLcN 7 (gVar 10) cYes (eBin notND (eVar 10) (eC .none)) [10]))))) (sPut 7 (eV (eCallI m__law_draw 0 (aCons (eVar 2) aNil))) (eCallI m__law_fraction 0 (aCons (eC (.int 6)) aNil))) sNil
      [.own t es1, .v (.int n), .v (.int m), .v (.int s), .own none (acc.map laD), .v d, .no, .own none (ws.map wkD), .no, .no, .no] = some (.nx [.own t es2, .v (.int n), .v (.int m), .v (.int s), .own none (acc.map laD), .v d, .no, .own none (vs.map wkD), .no, .no, .no]) := by
    cases ca : ws.any fun w => w.isSome with
    | true =>
      rw [ca] at c1
      refine ⟨ws, es1, H1, l1, p1, ?_, fun t => if_f (tNot_of (c1 t)) rfl⟩
      obtain ⟨w, hw, e⟩ := List.any_eq_true.mp ca
      cases w with
      | none => cases e
      | some r => exact ⟨r, hw⟩
    | false =>
      rw [ca] at c1
      obtain ⟨r, es2, e2, b2, H2⟩ := fraction_ok H1 (m := 6) (by decide) (by decide)
      obtain ⟨x, es3, e3, h30, h31, H3⟩ := draw_ok H2 (m := (m : Int)) (by omega) (by omega)
      obtain ⟨k, rfl⟩ := Int.eq_ofNat_of_zero_le h30
      have hk : k < ws.length := by omega
      refine ⟨ws.set k (some r), es3, H3, by simp [l1], fun r' hr => ?_, ⟨r, List.mem_set hk _⟩, fun t => if_t (tNot_of (c1 t)) ?_⟩
      · rcases List.mem_or_eq_of_mem_set hr with hr | hr
        · exact p1 r' hr
        · cases hr
          exact b2
      · have v1 : eV (eCallI m__law_fraction 0 (aCons (eC (.int 6)) aNil)) [.own t es1, .v (.int n), .v (.int m), .v (.int s), .own none (acc.map laD), .v d, .no, .own none (ws.map wkD), .no, .no, .no] = some (qD r, [.own t es2, .v (.int n), .v (.int m), .v (.int s), .own none (acc.map laD), .v d, .no, .own none (ws.map wkD), .no, .no, .no]) := fracV rfl e2
        have v2 : eV (eCallI m__law_draw 0 (aCons (eVar 2) aNil)) [.own t es2, .v (.int n), .v (.int m), .v (.int s), .own none (acc.map laD), .v d, .no, .own none (ws.map wkD), .no, .no, .no] = some (.int (k : Nat), [.own t es3, .v (.int n), .v (.int m), .v (.int s), .own none (acc.map laD), .v d, .no, .own none (ws.map wkD), .no, .no, .no]) := drawV rfl rfl e3
        have p := put_of (i := 7) (fj := eV (eCallI m__law_draw 0 (aCons (eVar 2) aNil))) (k := (k : Nat)) (j := k) (t := none) (ds := ws.map wkD) v1 rfl v2 rfl (ixN_nat (by simp; exact hk))
        have e : (ws.map wkD).set k (qD r) = (ws.set k (some r)).map wkD := by rw [List.map_set]; rfl
        rw [e] at p
        exact p
  obtain ⟨hd, es3, e3, b3, H3⟩ := fraction_ok H2 (m := 12) (by decide) (by decide)
  have ok3 : LaOk m ⟨hd, vs⟩ := ⟨b3, lv, pv, sv⟩
  refine ⟨es3, ⟨hd, vs⟩, .own none (vs.map wkD), H3, ok3, .inr ⟨_, rfl⟩, fun t => ?_⟩
  have v1 : eV (eCallI m__law_fraction 0 (aCons (eC (.int 12)) aNil)) [.own t es2, .v (.int n), .v (.int m), .v (.int s), .own none (acc.map laD), .v d, .no, .own none (vs.map wkD), .no, .no, .no] = some (qD hd, [.own t es3, .v (.int n), .v (.int m), .v (.int s), .own none (acc.map laD), .v d, .no, .own none (vs.map wkD), .no, .no, .no]) := fracV rfl e3
  have v2 := eTup_of (ar_cons v1 (ar_cons (eUn_of (op := tupD) (f := bVar 7) (d2 := .tuple (vs.map wkD)) rfl rfl) ar_nil))
  have s3 := ex_of (app_of (i := 4) (t := none) (ds0 := acc.map laD) (ds := acc.map laD) rfl (eV_v (vE_of v2)) rfl (by simp; omega))
  have e : acc.map laD ++ [.tuple [qD hd, .tuple (vs.map wkD)]] = (acc ++ [(⟨hd, vs⟩ : La)]).map laD := by simp [laD]
  rw [e] at s3
  exact seq_nx (s1 t) (seq_nx (F2 t) s3)
theorem lands_loop {n m : Nat} {s : Int} {b : Fs} (st : ∀ (d : D) (es : List D) (acc : List La) (z7 : Sl), Hand es → (∀ l ∈ acc, LaOk m l) → acc.length ≤ 999 → ∃ (es' : List D) (l : La) (z7' : Sl), Hand es' ∧ LaOk m l ∧ W7 z7' ∧ ∀ t, b
      [.own t es, .v (.int n), .v (.int m), .v (.int s), .own none (acc.map laD), .v d, .no, z7, .no, .no, .no] = some (.nx [.own t es', .v (.int n), .v (.int m), .v (.int s), .own none ((acc ++ [l]).map laD), .v d, .no, z7', .no, .no, .no])) (ds : List D) : ∀ (es : List D) (acc : List La) (z5 z7 : Sl), Hand es → (∀ l ∈ acc, LaOk m l) → W7 z7 → acc.length + ds.length ≤ 999 →
    ∃ (es' : List D) (acc' : List La) (z5' z7' : Sl), Hand es' ∧ (∀ l ∈ acc', LaOk m l) ∧ W7 z7' ∧ acc'.length = acc.length + ds.length ∧ ∀ t, forGo (gVar 5) b ds
      [.own t es, .v (.int n), .v (.int m), .v (.int s), .own none (acc.map laD), z5, .no, z7, .no, .no, .no] = some (.nx [.own t es', .v (.int n), .v (.int m), .v (.int s), .own none (acc'.map laD), z5', .no, z7', .no, .no, .no]) := by
  induction ds with
  | nil =>
    intro es acc z5 z7 h ha h7 _
    exact ⟨es, acc, z5, z7, h, ha, h7, by simp, fun t => rfl⟩
  | cons d ds ih =>
    intro es acc z5 z7 h ha h7 hl
    simp only [List.length_cons] at hl
    obtain ⟨es1, l, z7a, H1, ok1, w1, F1⟩ := st d es acc z7 h ha (by omega)
    obtain ⟨es', acc', z5', z7', r1, r2, r3, r4, r5⟩ := ih es1 (acc ++ [l]) (.v d) z7a H1 (fun x hx => by
      rcases List.mem_append.mp hx with hx | hx
      · exact ha x hx
      · rw [List.mem_singleton] at hx; subst hx; exact ok1) w1 (by simp; omega)
    refine ⟨es', acc', z5', z7', r1, r2, r3, by rw [r4]; simp; omega, fun t => ?_⟩
    have t1 : gVar 5 d [.own t es, .v (.int n), .v (.int m), .v (.int s), .own none (acc.map laD), z5, .no, z7, .no, .no, .no] = some [.own t es, .v (.int n), .v (.int m), .v (.int s), .own none (acc.map laD), .v d, .no, z7, .no, .no, .no] := rfl
    rw [forGo, t1]
    simp only [Option.bind_some]
    rw [F1 t]
    exact r5 t
end K64
set_option Elab.async false
set_option linter.all false
set_option maxRecDepth 100000
namespace K64
open PySem Dl

def canMake (g : Nat) (ls : List La) : Prop := ∃ l ∈ ls, ∃ r, l.works[g]? = some (some r)
theorem set_put (ws : List (Option Rat)) (g : Nat) (r : Rat) (h : g < ws.length) : (ws.map wkD).take g ++ [qD r] ++ (ws.map wkD).drop (g + 1) = (ws.set g (some r)).map wkD := by
  rw [List.set_eq_take_append_cons_drop, if_pos h]
  simp [wkD]
theorem set_la {m : Nat} {l : La} {g : Nat} {r : Rat} (h : LaOk m l) (hg : g < m) (hr : Po 30 r) : LaOk m ⟨l.hands, l.works.set g (some r)⟩ := by
  refine ⟨h.hands, by simp [h.len], fun r' h' => ?_, ⟨r, List.mem_set (by rw [h.len]; exact hg) _⟩⟩
  rcases List.mem_or_eq_of_mem_set h' with h' | h'
  · exact h.wok r' h'
  · cases h'
    exact hr
theorem cond2 {n m : Nat} {s : Int} (t : Option Addr) (es : List D) (ls : List La) (z5 z7 z8 z9 : Sl) (g : Nat) (hg : g < m) (h : ∀ l ∈ ls, LaOk m l) (hl : ls.length ≤ 1000) (h7 : W7 z7) (h8 : Pl z8) :
    tOf (eUn anyD (eV (vFz 7 (vLcN 4 (gTup (gsCons (gVar 8) (gsCons (gVar 7) gsNil)) 2) cYes (eBin notND (eIxV 7 (eVar 6)) (eC .none)) [8, 7])))) [.own t es, .v (.int n), .v (.int m), .v (.int s), .own none (ls.map laD), z5, .v (.int (g : Nat)), z7, z8, z9, .no] = some (ls.any fun l => (l.works.getD g none).isSome, [.own t es, .v (.int n), .v (.int m), .v (.int s), .own none (ls.map laD), z5, .v (.int (g : Nat)), fzS z7, z8, z9, .no]) := by
  have lc := vLcN_own (i := 4) (g := [.own t es, .v (.int n), .v (.int m), .v (.int s), .own none (ls.map laD), z5, .v (.int (g : Nat)), fzS z7, z8, z9, .no]) (tg := none) (ds := ls.map laD) (vs := [8, 7]) rfl (okW78 _ _ _ _ _ _ _ _ _ _ _ (fzS_pl h7) h8) (lcGo_map (c := cYes) (f := eBin notND (eIxV 7 (eVar 6)) (eC .none)) (t := tOw 4 (.own none (ls.map laD)) (gTup (gsCons (gVar 8) (gsCons (gVar 7) gsNil)) 2)) laD (fun l => .bool (l.works.getD g none).isSome) ls fun l hl => by
    refine ⟨[.own t es, .v (.int n), .v (.int m), .v (.int s), .own none (ls.map laD), z5, .v (.int (g : Nat)), .v (.tuple (l.works.map wkD)), .v (qD l.hands), z9, .no], [.own t es, .v (.int n), .v (.int m), .v (.int s), .own none (ls.map laD), z5, .v (.int (g : Nat)), .v (.tuple (l.works.map wkD)), .v (qD l.hands), z9, .no], tOw_of rfl rfl, rfl, ?_, rfl⟩
    have hu : l.works[g]? = some (l.works.getD g none) := by
      have : g < l.works.length := by rw [(h l hl).len]; exact hg
      simp [this]
    have v : eIxV 7 (eVar 6) [.own t es, .v (.int n), .v (.int m), .v (.int s), .own none (ls.map laD), z5, .v (.int (g : Nat)), .v (.tuple (l.works.map wkD)), .v (qD l.hands), z9, .no] = some (wkD (l.works.getD g none), [.own t es, .v (.int n), .v (.int m), .v (.int s), .own none (ls.map laD), z5, .v (.int (g : Nat)), .v (.tuple (l.works.map wkD)), .v (qD l.hands), z9, .no]) := ixV_v rfl rfl rfl (atD_map hu)
    exact eBin_of (h := eC .none) v rfl (notN_w _)) rfl (by simp; exact Nat.le_trans hl (by decide))
  have lf : vFz 7 (vLcN 4 (gTup (gsCons (gVar 8) (gsCons (gVar 7) gsNil)) 2) cYes (eBin notND (eIxV 7 (eVar 6)) (eC .none)) [8, 7]) [.own t es, .v (.int n), .v (.int m), .v (.int s), .own none (ls.map laD), z5, .v (.int (g : Nat)), z7, z8, z9, .no] = some (.own none (ls.map fun l => .bool (l.works.getD g none).isSome), [.own t es, .v (.int n), .v (.int m), .v (.int s), .own none (ls.map laD), z5, .v (.int (g : Nat)), fzS z7, z8, z9, .no]) := by
    unfold vFz
    rw [fz7 _ _ _ _ _ _ _ _ _ _ _ h7]
    exact lc
  exact tOf_b (eUn_of (eV_o lf) (anyD_map (fun l : La => (l.works.getD g none).isSome) ls))
theorem step2 {n m : Nat} {s : Int} (hn : 1 ≤ n) (hn6 : n ≤ 6) (g : Nat) (hg : g < m) (hm6 : m ≤ 6) (es : List D) (ls : List La) (z5 z7 z8 z9 : Sl) (h : Hand es) (ha : ∀ l ∈ ls, LaOk m l) (hl : ls.length = n) (h7 : W7 z7) (h8 : Pl z8) :
    ∃ (es' : List D) (ls' : List La) (z7' z8' z9' : Sl), Hand es' ∧ (∀ l ∈ ls', LaOk m l) ∧ ls'.length = n ∧ canMake g ls' ∧ (∀ g', canMake g' ls → canMake g' ls') ∧ W7 z7' ∧ Pl z8' ∧ ∀ t, (sIf (Dl.tNotT (tOf (eUn anyD (eV (vFz 7 (vLcN 4 (gTup (gsCons (gVar 8) (gsCons (gVar 7) gsNil)) 2) cYes (eBin notND (eIxV 7 (eVar 6)) (eC .none)) [8, 7])))))) (sSeq (sSet 9 (eCallI m__law_draw 0 (aCons (eVar 1) aNil)))
    (sSeq (sAsg (eIxV 4 (eVar 9)) (gTup (gsCons (gVar 8) (gsCons (gVar 7) gsNil)) 2))
    (sPut 4 (eVar 9) (vE (eTup (aCons (eVar 8) (aCons (eBin addA (eBin addA (eSlU (eVar 7) oNone (oSome (eVar 6))) (eTup (aCons (eV (eCallI m__law_fraction 0 (aCons (eC (.int 6)) aNil))) aNil))) (eSlU (eVar 7) (oSome (eBin addA (eVar 6) (eC (.int 1)))) oNone)) aNil))))))) sNil)
      [.own t es, .v (.int n), .v (.int m), .v (.int s), .own none (ls.map laD), z5, .v (.int (g : Nat)), z7, z8, z9, .no] = some (.nx [.own t es', .v (.int n), .v (.int m), .v (.int s), .own none (ls'.map laD), z5, .v (.int (g : Nat)), z7', z8', z9', .no]) := by
  have c := fun t => cond2 (n := n) (s := s) t es ls z5 z7 z8 z9 g hg ha (by omega) h7 h8
  cases ca : ls.any fun l => (l.works.getD g none).isSome with
  | true =>
    rw [ca] at c
    refine ⟨es, ls, fzS z7, z8, z9, h, ha, hl, ?_, fun _ h => h, .inl (fzS_pl h7), h8, fun t => if_f (tNot_of (c t)) rfl⟩
    obtain ⟨l, hlm, e⟩ := List.any_eq_true.mp ca
    have hu : l.works[g]? = some (l.works.getD g none) := by
      have : g < l.works.length := by rw [(ha l hlm).len]; exact hg
      simp [this]
    cases e2 : l.works.getD g none with
    | none => rw [e2] at e; cases e
    | some r => exact ⟨l, hlm, r, by rw [hu, e2]⟩
  | false =>
    rw [ca] at c
    obtain ⟨x', es1, e1, h10, h11, H1⟩ := draw_ok h (m := (n : Int)) (by omega) (by omega)
    obtain ⟨x, rfl⟩ := Int.eq_ofNat_of_zero_le h10
    have hx : x < ls.length := by omega
    obtain ⟨l, hlx⟩ : ∃ l, ls[x]? = some l := ⟨_, List.getElem?_eq_getElem hx⟩
    have hlm := List.mem_of_getElem? hlx
    have lk := ha l hlm
    have hgl : g < l.works.length := by rw [lk.len]; exact hg
    obtain ⟨r, es2, e2, b2, H2⟩ := fraction_ok H1 (m := 6) (by decide) (by decide)
    have isn : l.works.getD g none = none := by
      have := List.any_eq_false.mp ca l hlm
      simpa using this
    refine ⟨es2, ls.set x ⟨l.hands, l.works.set g (some r)⟩, .v (.tuple (l.works.map wkD)), .v (qD l.hands), .v (.int (x : Nat)), H2, fun y hy => ?_, by simp [hl], ?_, ?_, .inl (.inr ⟨_, rfl⟩), .inr ⟨_, rfl⟩, fun t => ?_⟩
    · rcases List.mem_or_eq_of_mem_set hy with hy | rfl
      · exact ha y hy
      · exact set_la lk hg b2
    · exact ⟨⟨l.hands, l.works.set g (some r)⟩, List.mem_set hx _, r, by simp [hgl]⟩
    · rintro g' ⟨y, hy, r', hr⟩
      by_cases hyl : y = l
      · subst hyl
        refine ⟨⟨y.hands, y.works.set g (some r)⟩, List.mem_set hx _, r', ?_⟩
        by_cases hgg : g = g'
        · subst hgg
          rw [List.getD_eq_getElem?_getD, hr] at isn
          cases isn
        · show (y.works.set g (some r))[g']? = _
          rw [List.getElem?_set_ne hgg]
          exact hr
      · obtain ⟨i, hi⟩ := List.getElem?_of_mem hy
        have hix : x ≠ i := fun e => by
          rw [e] at hlx
          rw [hlx] at hi
          cases hi
          exact hyl rfl
        exact ⟨y, List.mem_of_getElem? (by rw [List.getElem?_set_ne hix]; exact hi), r', hr⟩
    · have s1 : sSet 9 (eCallI m__law_draw 0 (aCons (eVar 1) aNil)) [.own t es, .v (.int n), .v (.int m), .v (.int s), .own none (ls.map laD), z5, .v (.int (g : Nat)), fzS z7, z8, z9, .no] = some (.nx [.own t es1, .v (.int n), .v (.int m), .v (.int s), .own none (ls.map laD), z5, .v (.int (g : Nat)), fzS z7, z8, .v (.int (x : Nat)), .no]) := set_v (callI_of (i := 0) (t := t) (ds := [.int n]) (g1 := [.own t es, .v (.int n), .v (.int m), .v (.int s), .own none (ls.map laD), z5, .v (.int (g : Nat)), fzS z7, z8, z9, .no]) rfl (ar_cons (f := eVar 1) rfl ar_nil) rfl e1)
      have v1 : eIxV 4 (eVar 9) [.own t es1, .v (.int n), .v (.int m), .v (.int s), .own none (ls.map laD), z5, .v (.int (g : Nat)), fzS z7, z8, .v (.int (x : Nat)), .no] = some (laD l, [.own t es1, .v (.int n), .v (.int m), .v (.int s), .own none (ls.map laD), z5, .v (.int (g : Nat)), fzS z7, z8, .v (.int (x : Nat)), .no]) := ixV_v rfl rfl rfl (atD_mapL (f := laD) hlx)
      have s2 : sAsg (eIxV 4 (eVar 9)) (gTup (gsCons (gVar 8) (gsCons (gVar 7) gsNil)) 2) [.own t es1, .v (.int n), .v (.int m), .v (.int s), .own none (ls.map laD), z5, .v (.int (g : Nat)), fzS z7, z8, .v (.int (x : Nat)), .no] = some (.nx [.own t es1, .v (.int n), .v (.int m), .v (.int s), .own none (ls.map laD), z5, .v (.int (g : Nat)), .v (.tuple (l.works.map wkD)), .v (qD l.hands), .v (.int (x : Nat)), .no]) := asg_of v1 rfl
      have hwl : (l.works.map wkD).length = l.works.length := by simp
      have w1 : eSlU (eVar 7) oNone (oSome (eVar 6)) [.own t es1, .v (.int n), .v (.int m), .v (.int s), .own none (ls.map laD), z5, .v (.int (g : Nat)), .v (.tuple (l.works.map wkD)), .v (qD l.hands), .v (.int (x : Nat)), .no] = some (.tuple ((l.works.map wkD).take g), [.own t es1, .v (.int n), .v (.int m), .v (.int s), .own none (ls.map laD), z5, .v (.int (g : Nat)), .v (.tuple (l.works.map wkD)), .v (qD l.hands), .v (.int (x : Nat)), .no]) := by
        have := eSlU_of (fa := eVar 7) (fl := oNone) (fh := oSome (eVar 6)) (g := [.own t es1, .v (.int n), .v (.int m), .v (.int s), .own none (ls.map laD), z5, .v (.int (g : Nat)), .v (.tuple (l.works.map wkD)), .v (qD l.hands), .v (.int (x : Nat)), .no]) (ds := l.works.map wkD) rfl rfl (oSome_of (i := (g : Int)) rfl)
        rw [cut_take (by rw [hwl]; omega)] at this
        exact this
      have w2 : eTup (aCons (eV (eCallI m__law_fraction 0 (aCons (eC (.int 6)) aNil))) aNil) [.own t es1, .v (.int n), .v (.int m), .v (.int s), .own none (ls.map laD), z5, .v (.int (g : Nat)), .v (.tuple (l.works.map wkD)), .v (qD l.hands), .v (.int (x : Nat)), .no] = some (.tuple [qD r], [.own t es2, .v (.int n), .v (.int m), .v (.int s), .own none (ls.map laD), z5, .v (.int (g : Nat)), .v (.tuple (l.works.map wkD)), .v (qD l.hands), .v (.int (x : Nat)), .no]) := eTup_of (ar_cons (fracV rfl e2) ar_nil)
      have w3 := eBin_of w1 w2 (addA_cat (xs := (l.works.map wkD).take g) (ys := [qD r]) (by simp; omega))
      have w4 : eSlU (eVar 7) (oSome (eBin addA (eVar 6) (eC (.int 1)))) oNone [.own t es2, .v (.int n), .v (.int m), .v (.int s), .own none (ls.map laD), z5, .v (.int (g : Nat)), .v (.tuple (l.works.map wkD)), .v (qD l.hands), .v (.int (x : Nat)), .no] = some (.tuple ((l.works.map wkD).drop (g + 1)), [.own t es2, .v (.int n), .v (.int m), .v (.int s), .own none (ls.map laD), z5, .v (.int (g : Nat)), .v (.tuple (l.works.map wkD)), .v (qD l.hands), .v (.int (x : Nat)), .no]) := by
        have a1 : eBin addA (eVar 6) (eC (.int 1)) [.own t es2, .v (.int n), .v (.int m), .v (.int s), .own none (ls.map laD), z5, .v (.int (g : Nat)), .v (.tuple (l.works.map wkD)), .v (qD l.hands), .v (.int (x : Nat)), .no] = some (.int ((g + 1 : Nat) : Int), [.own t es2, .v (.int n), .v (.int m), .v (.int s), .own none (ls.map laD), z5, .v (.int (g : Nat)), .v (.tuple (l.works.map wkD)), .v (qD l.hands), .v (.int (x : Nat)), .no]) := by
          have := eBin_of (f := eVar 6) (h := eC (.int 1)) (g := [.own t es2, .v (.int n), .v (.int m), .v (.int s), .own none (ls.map laD), z5, .v (.int (g : Nat)), .v (.tuple (l.works.map wkD)), .v (qD l.hands), .v (.int (x : Nat)), .no]) (d := .int (g : Nat)) rfl rfl (addA_int (g : Nat) 1)
          have e : ((g : Nat) : Int) + 1 = ((g + 1 : Nat) : Int) := by omega
          rw [e] at this
          exact this
        have := eSlU_of (fa := eVar 7) (fl := oSome (eBin addA (eVar 6) (eC (.int 1)))) (fh := oNone) (g := [.own t es2, .v (.int n), .v (.int m), .v (.int s), .own none (ls.map laD), z5, .v (.int (g : Nat)), .v (.tuple (l.works.map wkD)), .v (qD l.hands), .v (.int (x : Nat)), .no]) (ds := l.works.map wkD) rfl (oSome_of a1) rfl
        rw [cut_drop (by rw [hwl]; omega)] at this
        exact this
      have w5 := eBin_of w3 w4 (addA_cat (xs := (l.works.map wkD).take g ++ [qD r]) (ys := (l.works.map wkD).drop (g + 1)) (by have := lk.len; simp; omega))
      rw [set_put l.works g r hgl] at w5
      have w6 := eV_v (vE_of (eTup_of (ar_cons (f := eVar 8) (d := qD l.hands) (g := [.own t es1, .v (.int n), .v (.int m), .v (.int s), .own none (ls.map laD), z5, .v (.int (g : Nat)), .v (.tuple (l.works.map wkD)), .v (qD l.hands), .v (.int (x : Nat)), .no]) rfl (ar_cons w5 ar_nil))))
      have p := put_of (i := 4) (fj := eVar 9) (k := (x : Nat)) (j := x) (t := none) (ds := ls.map laD) w6 rfl rfl rfl (ixN_nat (by simp; exact hx))
      have e : (ls.map laD).set x (.tuple [qD l.hands, .tuple ((l.works.set g (some r)).map wkD)]) = (ls.set x ⟨l.hands, l.works.set g (some r)⟩).map laD := (List.map_set (f := laD) (l := ls) (i := x) (a := ⟨l.hands, l.works.set g (some r)⟩)).symm
      rw [e] at p
      exact if_t (tNot_of (c t)) (seq_nx s1 (seq_nx s2 p))
theorem loop2 {n m : Nat} {s : Int} {b : Fs} (st : ∀ (g : Nat), g < m → ∀ (es : List D) (ls : List La) (z5 z7 z8 z9 : Sl), Hand es → (∀ l ∈ ls, LaOk m l) → ls.length = n → W7 z7 → Pl z8 →
    ∃ (es' : List D) (ls' : List La) (z7' z8' z9' : Sl), Hand es' ∧ (∀ l ∈ ls', LaOk m l) ∧ ls'.length = n ∧ canMake g ls' ∧ (∀ g', canMake g' ls → canMake g' ls') ∧ W7 z7' ∧ Pl z8' ∧ ∀ t, b [.own t es, .v (.int n), .v (.int m), .v (.int s), .own none (ls.map laD), z5, .v (.int (g : Nat)), z7, z8, z9, .no] = some (.nx [.own t es', .v (.int n), .v (.int m), .v (.int s), .own none (ls'.map laD), z5, .v (.int (g : Nat)), z7', z8', z9', .no])) (z5 : Sl) (gs : List Nat) : ∀ (es : List D) (ls : List La) (z6 z7 z8 z9 : Sl), (∀ g ∈ gs, g < m) → Hand es → (∀ l ∈ ls, LaOk m l) → ls.length = n → W7 z7 → Pl z8 →
    ∃ (es' : List D) (ls' : List La) (z6' z7' z8' z9' : Sl), Hand es' ∧ (∀ l ∈ ls', LaOk m l) ∧ ls'.length = n ∧ (∀ g ∈ gs, canMake g ls') ∧ (∀ g', canMake g' ls → canMake g' ls') ∧ ∀ t, forGo (gVar 6) b (gs.map fun (i : Nat) => .int (i : Int))
      [.own t es, .v (.int n), .v (.int m), .v (.int s), .own none (ls.map laD), z5, z6, z7, z8, z9, .no] = some (.nx [.own t es', .v (.int n), .v (.int m), .v (.int s), .own none (ls'.map laD), z5, z6', z7', z8', z9', .no]) := by
  induction gs with
  | nil =>
    intro es ls z6 z7 z8 z9 _ h ha hl h7 h8
    exact ⟨es, ls, z6, z7, z8, z9, h, ha, hl, by simp, fun _ h => h, fun t => rfl⟩
  | cons g gs ih =>
    intro es ls z6 z7 z8 z9 hgs h ha hl h7 h8
    obtain ⟨es1, ls1, y7, y8, y9, H1, a1, l1, c1, k1, w7, p8, F1⟩ := st g (hgs g (List.mem_cons_self ..)) es ls z5 z7 z8 z9 h ha hl h7 h8
    obtain ⟨es', ls', z6', z7', z8', z9', r1, r2, r3, r4, r5, r6⟩ := ih es1 ls1 (.v (.int (g : Nat))) y7 y8 y9 (fun x hx => hgs x (List.mem_cons_of_mem _ hx)) H1 a1 l1 w7 p8
    refine ⟨es', ls', z6', z7', z8', z9', r1, r2, r3, fun x hx => ?_, fun x hx => r5 x (k1 x hx), fun t => ?_⟩
    · rcases List.mem_cons.mp hx with rfl | hx
      · exact r5 x c1
      · exact r4 x hx
    · have t1 : gVar 6 (.int (g : Int)) [.own t es, .v (.int n), .v (.int m), .v (.int s), .own none (ls.map laD), z5, z6, z7, z8, z9, .no] = some [.own t es, .v (.int n), .v (.int m), .v (.int s), .own none (ls.map laD), z5, .v (.int (g : Nat)), z7, z8, z9, .no] := rfl
      rw [List.map_cons, forGo, t1]
      simp only [Option.bind_some]
      rw [F1 t]
      exact r6 t
theorem drawn_ok {es : List D} {n m : Nat} (h : Hand es) (hn : 1 ≤ n) (hn6 : n ≤ 6) (hm : 1 ≤ m) (hm6 : m ≤ 6) : ∃ (ls : List La) (es' : List D), m__law_drawn_lands es [.int n, .int m] = some (.v (lsD ls), es') ∧ LsOk m ls ∧ ls.length = n ∧ Hand es' := by
  obtain ⟨d, es1, e1, hd, H1⟩ := any_ok (ds := [.int 0, .int 0, .int 1, .int 3]) h (by simp) (by simp)
  obtain ⟨s, rfl⟩ : ∃ s : Int, d = .int s := by
    simp only [List.mem_cons, List.not_mem_nil, or_false] at hd
    rcases hd with rfl | rfl | rfl | rfl
    · exact ⟨0, rfl⟩
    · exact ⟨0, rfl⟩
    · exact ⟨1, rfl⟩
    · exact ⟨3, rfl⟩
  obtain ⟨es2, acc, z5, z7, H2, ha, w7, la, F1⟩ := lands_loop (n := n) (m := m) (s := s) (fun d es acc z7 h ha hl => lands_step (n := n) (s := s) hm hm6 d es acc z7 h ha hl) ((List.range n).map fun (i : Nat) => .int (i : Int)) es1 [] .no .no H1 (by simp) (.inl (.inl rfl)) (by simp; omega)
  have la : acc.length = n := by simpa using la
  obtain ⟨es3, ls, z6, z7', z8', z9', H3, ha3, l3, c3, _, F2⟩ := loop2 (n := n) (m := m) (s := s) (fun g hg es ls z5 z7 z8 z9 h ha hl h7 h8 => step2 hn hn6 g hg hm6 es ls z5 z7 z8 z9 h ha hl h7 h8) z5 (List.range m) es2 acc .no z7 .no .no (fun g hg => List.mem_range.mp hg) H2 ha la w7 (.inl rfl)
  refine ⟨ls, es3, ?_, ⟨by omega, by omega, hm, hm6, ha3, fun g hg => c3 g (List.mem_range.mpr hg)⟩, l3, H3⟩
  unfold m__law_drawn_lands b__law_drawn_lands
  refine fnI_ret fun a => ⟨[.own (some a) es3, .v (.int n), .v (.int m), .v (.int s), .own none (ls.map laD), z5, z6, z7', z8', z9', .no], ?_, rfl⟩
  have v0 := vLst_of (ar_cons (f := eC (.int 0)) (g := [.own (some a) es, .v (.int n), .v (.int m), .no, .no, .no, .no, .no, .no, .no, .no]) rfl (ar_cons (f := eC (.int 0)) rfl (ar_cons (f := eC (.int 1)) rfl (ar_cons (f := eC (.int 3)) rfl ar_nil))))
  have s1 := set_v (i := 3) (callI_of (m := m__law_some) (i := 0) (t := some a) rfl (ar_cons (eV_o v0) ar_nil) rfl e1)
  have s2 : sSet 4 (vLst aNil) [.own (some a) es1, .v (.int n), .v (.int m), .v (.int s), .no, .no, .no, .no, .no, .no, .no] = some (.nx [.own (some a) es1, .v (.int n), .v (.int m), .v (.int s), .own none [], .no, .no, .no, .no, .no, .no]) := rfl
  exact seq_nx s1 (seq_nx s2 (seq_nx (for_of (rng_of (n := n) (ar_cons (f := eVar 1) rfl ar_nil) (by omega)) (F1 (some a))) (seq_nx (for_of (rng_of (n := m) (ar_cons (f := eVar 2) rfl ar_nil) (by omega)) (F2 (some a))) (ret_v (vE_of (eUn_of (op := tupD) (f := bVar 4) rfl rfl))))))
end K64
set_option Elab.async false
set_option linter.all false
set_option maxRecDepth 100000
namespace K64
open PySem Dl
/-! ### the goods that a land can make -/
def abl (ws : List (Option Rat)) : List D := (ws.zipIdx.filter fun p => p.1.isSome).map fun p => .int (p.2 : Nat)
theorem abl_mem {ws : List (Option Rat)} {d : D} (h : d ∈ abl ws) : ∃ k : Nat, d = .int (k : Nat) ∧ ∃ u, ws[k]? = some (some u) := by
  obtain ⟨p, hp, rfl⟩ := List.mem_map.mp h
  have h1 := (List.mem_filter.mp hp).1
  have h2 := (List.mem_filter.mp hp).2
  obtain ⟨w, k⟩ := p
  have h3 := List.mem_zipIdx h1
  simp only [Nat.zero_add, Nat.sub_zero] at h3
  cases w with
  | none => simp at h2
  | some u => exact ⟨k, rfl, u, by rw [List.getElem?_eq_getElem (by omega), ← h3.2.2]⟩
theorem abl_ne {ws : List (Option Rat)} {u : Rat} (h : some u ∈ ws) : abl ws ≠ [] := by
  obtain ⟨k, hk, e⟩ := List.getElem_of_mem h
  have : (some u, k) ∈ ws.zipIdx := by
    rw [List.mem_iff_getElem?]
    exact ⟨k, by simp [List.getElem?_zipIdx, List.getElem?_eq_getElem hk, e]⟩
  intro z
  have h2 : (.int (k : Nat) : D) ∈ abl ws := List.mem_map.mpr ⟨_, List.mem_filter.mpr ⟨this, rfl⟩, rfl⟩
  rw [z] at h2
  cases h2
theorem abl_len (ws : List (Option Rat)) : (abl ws).length ≤ ws.length := by
  unfold abl
  rw [List.length_map]
  exact Nat.le_trans (List.length_filter_le ..) (by simp)
theorem abl_int {ws : List (Option Rat)} : ∀ d ∈ abl ws, ∃ k : Nat, d = .int (k : Nat) := fun d hd => by
  obtain ⟨k, h, _⟩ := abl_mem hd
  exact ⟨k, h⟩
theorem in_abl (ws : List (Option Rat)) (i : Nat) : ∃ b : Bool, inD (.int (i : Nat)) (.list (abl ws)) = some (.bool b) ∧ (b = true → ∃ u, ws[i]? = some (some u)) := by
  have h1 : SeqAt.shaped (.list (abl ws)) = true := shaped_of (by
    simp only [PyData.canLay0]
    exact canLayAll_of fun d hd => by
      obtain ⟨k, rfl⟩ := abl_int d hd
      rfl) (by
    have := depthAll_of (xs := abl ws) (n := 0) fun d hd => by
      obtain ⟨k, rfl⟩ := abl_int d hd
      exact Nat.le_refl _
    simp only [PyData.depth]
    omega)
  refine ⟨(abl ws).any fun z => PyData.eqv z (.int (i : Nat)), ?_, fun h => ?_⟩
  · show (if SeqAt.shaped (.int (i : Nat)) = true ∧ SeqAt.shaped (.list (abl ws)) = true then some (.bool (false ^^ ((abl ws).any fun z => PyData.eqv z (.int (i : Nat))))) else none : Option D) = _
    rw [if_pos ⟨shaped_int _, h1⟩, Bool.false_xor]
  · obtain ⟨z, hz, e⟩ := List.any_eq_true.mp h
    obtain ⟨k, rfl, u, hu⟩ := abl_mem hz
    rw [eqv_int] at e
    have : k = i := by simp at e; omega
    subst this
    exact ⟨u, hu⟩
noncomputable def fWt : Fe := eIf (tOf (eBin inD (eVar 12) (eVar 7))) (eV (eCallI m__law_some 0 (aCons (eV (vLst (aCons (eC (.int 0)) (aCons (eC (.int 0)) (aCons (eC (.int 1)) (aCons (eC (.int 2)) (aCons (eC (.int 5)) aNil))))))) aNil))) (eC (.int 0))
structure WtOk (ws : List (Option Rat)) (i : Nat) (a : Int) : Prop where
  lo : 0 ≤ a
  hi : a ≤ 5
  can : 0 < a → ∃ u, ws[i]? = some (some u)
theorem wt_step (ws : List (Option Rat)) (i : Nat) (es : List D) (h : Hand es) : ∃ (a : Int) (es' : List D), WtOk ws i a ∧ Hand es' ∧ ∀ (g : G) (t : Option Addr), g[0]? = some (.own t es) → g[12]? = some (.v (.int (i : Nat))) → (g[7]? = some (.v (.list (abl ws))) ∨ g[7]? = some (.own none (abl ws))) →
    fWt g = some (.int a, (g.set 7 (.v (.list (abl ws)))).set 0 (.own t es')) := by
  obtain ⟨b, hb, hc⟩ := in_abl ws i
  have cond : ∀ g : G, g[12]? = some (.v (.int (i : Nat))) → (g[7]? = some (.v (.list (abl ws))) ∨ g[7]? = some (.own none (abl ws))) → tOf (eBin inD (eVar 12) (eVar 7)) g = some (b, g.set 7 (.v (.list (abl ws)))) := fun g h12 h7 => by
    have v12 : eVar 12 g = some (.int (i : Nat), g) := by unfold eVar; rw [h12]
    have v7 : eVar 7 g = some (.list (abl ws), g.set 7 (.v (.list (abl ws)))) := by
      rcases h7 with h7 | h7
      · have : g.set 7 (.v (.list (abl ws))) = g := by
          obtain ⟨hl, e⟩ := List.getElem?_eq_some_iff.mp h7
          rw [← e, List.set_getElem_self]
        rw [this]
        unfold eVar
        rw [h7]
      · unfold eVar
        rw [h7]
    exact tOf_b (eBin_of v12 v7 hb)
  cases b with
  | false =>
    refine ⟨0, es, ⟨by decide, by decide, fun q => absurd q (by decide)⟩, h, fun g t h0 h12 h7 => ?_⟩
    have e0 : (g.set 7 (.v (.list (abl ws)))).set 0 (.own t es) = g.set 7 (.v (.list (abl ws))) := by
      rw [List.set_comm _ _ (by decide)]
      congr 1
      obtain ⟨hl, e⟩ := List.getElem?_eq_some_iff.mp h0
      rw [← e, List.set_getElem_self]
    rw [e0]
    exact eIf_f (cond g h12 h7) rfl
  | true =>
    obtain ⟨d, es', e, hd, H⟩ := any_ok (ds := [.int 0, .int 0, .int 1, .int 2, .int 5]) h (by simp) (by simp)
    obtain ⟨a, rfl, ha0, ha5⟩ : ∃ a : Int, d = .int a ∧ 0 ≤ a ∧ a ≤ 5 := by
      simp only [List.mem_cons, List.not_mem_nil, or_false] at hd
      rcases hd with rfl | rfl | rfl | rfl | rfl
      · exact ⟨0, rfl, by decide, by decide⟩
      · exact ⟨0, rfl, by decide, by decide⟩
      · exact ⟨1, rfl, by decide, by decide⟩
      · exact ⟨2, rfl, by decide, by decide⟩
      · exact ⟨5, rfl, by decide, by decide⟩
    refine ⟨a, es', ⟨ha0, ha5, fun _ => hc rfl⟩, H, fun g t h0 h12 h7 => ?_⟩
    have h0' : (g.set 7 (.v (.list (abl ws))))[0]? = some (.own t es) := by rw [List.getElem?_set_ne (by decide)]; exact h0
    have v := vLst_of (ar_cons (f := eC (.int 0)) (g := g.set 7 (.v (.list (abl ws)))) rfl (ar_cons (f := eC (.int 0)) rfl (ar_cons (f := eC (.int 1)) rfl (ar_cons (f := eC (.int 2)) rfl (ar_cons (f := eC (.int 5)) rfl ar_nil)))))
    exact eIf_t (cond g h12 h7) (eV_v (callI_of (m := m__law_some) (i := 0) (t := t) (by rw [h0']; rfl) (ar_cons (eV_o v) ar_nil) h0' e))
theorem wts_ok {m : Nat} (hm : 1 ≤ m) (hm6 : m ≤ 6) (ws : List (Option Rat)) (es : List D) (h : Hand es) : ∃ (wts : List Int) (es' : List D), wts.length = m ∧ (∀ i a, wts[i]? = some a → WtOk ws i a) ∧ Hand es' ∧ ∀ (t : Option Addr) (z1 z2 z3 z4 z5 z6 z8 z9 z10 z11 : Sl),
    lcGo (gVar 12) cYes fWt [12] ((List.range m).map fun (i : Nat) => .int (i : Int)) [.own t es, z1, z2, z3, z4, z5, z6, .own none (abl ws), z8, z9, z10, z11, .no] = some (wts.map .int, [.own t es', z1, z2, z3, z4, z5, z6, .v (.list (abl ws)), z8, z9, z10, z11, .no]) := by
  obtain ⟨k, rfl⟩ : ∃ k, m = k + 1 := ⟨m - 1, by omega⟩
  obtain ⟨a, es1, o1, H1, e1⟩ := wt_step ws 0 es h
  obtain ⟨rs, es2, l2, p2, H2, e2⟩ := draw_lc (iv := 0) (v := 12) (f := fWt) (by decide) (fun g => g[7]? = some (.v (.list (abl ws)))) (fun g x h => by rw [List.getElem?_set_ne (by decide)]; exact h) (fun g x h => by rw [List.getElem?_set_ne (by decide)]; exact h)
    PyData.int (fun d a => ∀ i : Nat, d = .int (i : Nat) → WtOk ws i a) ((List.range k).map fun (i : Nat) => .int ((i + 1 : Nat) : Int)) es1 H1 (fun d hd es h => by
      obtain ⟨i, _, rfl⟩ := List.mem_map.mp hd
      obtain ⟨a, es', o, H, e⟩ := wt_step ws (i + 1) es h
      refine ⟨a, es', fun j hj => ?_, H, fun g t h0 h12 h7 => ?_⟩
      · injection hj with hj
        have : j = i + 1 := by omega
        subst this
        exact o
      · have := e g t h0 h12 (.inl h7)
        have e7 : g.set 7 (.v (.list (abl ws))) = g := by
          obtain ⟨hl, e⟩ := List.getElem?_eq_some_iff.mp h7
          rw [← e, List.set_getElem_self]
        rw [e7] at this
        exact this)
  have hr : (List.range (k + 1)).map (fun (i : Nat) => (.int (i : Int) : D)) = .int ((0 : Nat) : Int) :: (List.range k).map fun (i : Nat) => .int ((i + 1 : Nat) : Int) := by
    rw [List.range_succ_eq_map, List.map_cons, List.map_map]
    rfl
  refine ⟨a :: rs, es2, by simp [l2], fun i x hx => ?_, H2, fun t z1 z2 z3 z4 z5 z6 z8 z9 z10 z11 => ?_⟩
  · cases i with
    | zero =>
      simp at hx
      subst hx
      exact o1
    | succ i =>
      have hx : rs[i]? = some x := by simpa using hx
      have hi : i < k := by
        have := (List.getElem?_eq_some_iff.mp hx).1
        simpa [l2] using this
      exact p2 i (.int ((i + 1 : Nat) : Int)) x (by rw [List.getElem?_map, List.getElem?_range hi]; rfl) hx (i + 1) rfl
  · rw [hr]
    have k1 := e1 [.own t es, z1, z2, z3, z4, z5, z6, .own none (abl ws), z8, z9, z10, z11, .v (.int ((0 : Nat) : Int))] t rfl rfl (.inr rfl)
    have k2 := e2 [.own t es1, z1, z2, z3, z4, z5, z6, .v (.list (abl ws)), z8, z9, z10, z11, .no] t rfl rfl rfl
    show ((gVar 12 (.int ((0 : Nat) : Int)) [.own t es, z1, z2, z3, z4, z5, z6, .own none (abl ws), z8, z9, z10, z11, .no]).bind fun g1 => (cYes g1).bind fun p => if p.1 = true then (fWt p.2).bind fun q => (lcGo (gVar 12) cYes fWt [12] ((List.range k).map fun (i : Nat) => .int ((i + 1 : Nat) : Int)) (wipeG q.2 [12])).map fun w => (q.1 :: w.1, w.2) else _) = _
    have g1 : gVar 12 (.int ((0 : Nat) : Int)) [.own t es, z1, z2, z3, z4, z5, z6, .own none (abl ws), z8, z9, z10, z11, .no] = some [.own t es, z1, z2, z3, z4, z5, z6, .own none (abl ws), z8, z9, z10, z11, .v (.int ((0 : Nat) : Int))] := rfl
    rw [g1]
    simp only [Option.bind_some, cYes, if_true]
    rw [k1]
    simp only [Option.bind_some]
    have w : wipeG (([.own t es, z1, z2, z3, z4, z5, z6, .own none (abl ws), z8, z9, z10, z11, .v (.int ((0 : Nat) : Int))].set 7 (.v (.list (abl ws)))).set 0 (.own t es1)) [12] = [.own t es1, z1, z2, z3, z4, z5, z6, .v (.list (abl ws)), z8, z9, z10, z11, .no] := rfl
    rw [w, k2]
    rfl
end K64
set_option Elab.async false
set_option linter.all false
set_option maxRecDepth 100000
namespace K64
open PySem Dl
theorem times_un {r : Rat} {a b : Int} (hr : B0 4400 r) (ha : a.natAbs < 2 ^ 40) (hb : 0 < b) (hb2 : b.natAbs < 2 ^ 40) : m__law_times [qD r, .tuple [.int a, .int b]] = some (.v (qD (r * Rat.divInt a b))) := by
  have k1 := mulOk_of (a := r.num) (b := a) (by decide) (by decide) hr.num ha (by decide)
  have k2 := mulOk_of (a := (r.den : Int)) (b := b) (by decide) (by decide) (natAbs_lt hr.den) hb2 (by decide)
  have hd : 0 < (r.den : Int) * b := Int.mul_pos (by have := r.den_pos; omega) hb
  have g := gcd_le_den (r.num * a) hd
  have g2 : ((r.den : Int) * b).natAbs < 2 ^ 8900 := by
    rw [Int.natAbs_mul]
    exact Nat.lt_of_lt_of_le (lt_mul2 (natAbs_lt hr.den) hb2) (Nat.pow_le_pow_right (by decide) (by decide))
  have k3 := low_ok (a := r.num * a) hd (Nat.lt_of_le_of_lt g g2)
  have e : Rat.divInt (r.num * a) ((r.den : Int) * b) = r * Rat.divInt a b := by
    rw [← Rat.divInt_mul_divInt, Rat.num_divInt_den]
  rw [e] at k3
  unfold m__law_times b__law_times qD
  unfold qD at k3
  simp [fnP, runG, sSeq, sIf, sNil, sRet, sRetV, sSet, setOut, sPar, parOut, sEx, eVar, bVar, eC, eV, dat, vE, eBin, eUn, eTup, vLst, aCons, aNil, eIxV, slD, atD, L2.atI, L2.ixN, eCall, tOf, truD, Dl.tAndT, Dl.tOrT, Dl.tNotT, eAnd, eOr, eIf, notD, eChain, addA_int, subD, negD, absD, lenD, Dl.intD, tupD, cmpD, eqD_ii, neD_ii, eqD_ss, neD_ss, isi_ii, isi_ib, isi_is, isi_it, isi_tt, isi_ti, isi_ts, isi_ss, isi_si, isi_st, mulD, k1, k2, k3]
def rwf (h : Rat) (T : Int) (p : Int × Option Rat) : Rat := if p.1 = 0 then 0 else h * Rat.divInt p.1 T / p.2.getD 1
def rowOf (h : Rat) (T : Int) (wts : List Int) (ws : List (Option Rat)) : List Rat := (wts.zip ws).map (rwf h T)
structure Wts (ws : List (Option Rat)) (wts : List Int) (T : Int) : Prop where
  len : wts.length = ws.length
  ok : ∀ i a, wts[i]? = some a → WtOk ws i a
  sum : wts.sum ≤ T
  pos : 0 < T
  hi : T ≤ 100
theorem rwf_ok {m : Nat} {l : La} (h : LaOk m l) {wts : List Int} {T : Int} (hw : Wts l.works wts T) : ∀ p ∈ wts.zip l.works, 0 ≤ p.1 ∧ (p.1 = 0 ∨ ∃ u, p.2 = some u ∧ 0 < u ∧ B0 30 u) ∧ p.1 ≤ 5 := fun p hp => by
  obtain ⟨i, hi⟩ := List.mem_iff_getElem?.mp hp
  rw [List.getElem?_zip_eq_some] at hi
  have o := hw.ok i p.1 hi.1
  refine ⟨o.lo, ?_, o.hi⟩
  by_cases z : p.1 = 0
  · exact .inl z
  · obtain ⟨u, hu⟩ := o.can (by have := o.lo; omega)
    rw [hi.2] at hu
    injection hu with hu
    have := h.wok u (by rw [← hu]; exact List.mem_of_getElem? hi.2)
    exact .inr ⟨u, hu, this.p, this.b⟩
theorem b0_wt {a T : Int} (h0 : 0 ≤ a) (h5 : a ≤ 5) (hT : 0 < T) (hT2 : T ≤ 100) : B0 40 (Rat.divInt a T) := divInt_b0 hT (by omega) (by omega)
theorem divInt_nn {a b : Int} (ha : 0 ≤ a) (hb : 0 < b) : 0 ≤ Rat.divInt a b := by
  rcases Int.lt_or_eq_of_le ha with h | h
  · exact Rat.le_of_lt (divInt_pos h hb)
  · rw [← h, Rat.zero_divInt]
    exact Rat.le_refl
theorem pos_mul {a b : Rat} (ha : 0 ≤ a) (hb : 0 ≤ b) : 0 ≤ a * b := Rat.mul_nonneg ha hb
theorem div_nn {a b : Rat} (ha : 0 ≤ a) (hb : 0 < b) : 0 ≤ a / b := by
  rw [Rat.div_def]
  exact Rat.mul_nonneg ha (Rat.le_of_lt (Rat.inv_pos.mpr hb))
theorem rwf_b {m : Nat} {l : La} (h : LaOk m l) {wts : List Int} {T : Int} (hw : Wts l.works wts T) : ∀ p ∈ wts.zip l.works, 0 ≤ rwf l.hands T p ∧ B0 100 (rwf l.hands T p) := fun p hp => by
  obtain ⟨h0, h1, h5⟩ := rwf_ok h hw p hp
  unfold rwf
  by_cases z : p.1 = 0
  · rw [if_pos z]
    exact ⟨Rat.le_refl, b0_zero (by decide)⟩
  · rw [if_neg z]
    rcases h1 with h1 | ⟨u, hu, hu0, hub⟩
    · exact absurd h1 z
    · rw [hu, Option.getD_some]
      refine ⟨div_nn (pos_mul (Rat.le_of_lt h.hands.p) (divInt_nn h0 hw.pos)) hu0, ?_⟩
      exact (((h.hands.b.mul (b0_wt h0 h5 hw.pos hw.hi))).div hub hu0).mono (by decide)
theorem fits_row (h : Rat) (T : Int) : ∀ (wts : List Int) (ws : List (Option Rat)), (∀ p ∈ wts.zip ws, p.1 = 0 ∨ ∃ u, p.2 = some u ∧ 0 < u) → fits ws (rowOf h T wts ws) = true
  | [], ws, _ => by cases ws <;> rfl
  | _ :: _, [], _ => rfl
  | a :: wts, w :: ws, H => by
    have ih := fits_row h T wts ws fun p hp => H p (by rw [List.zip_cons_cons]; exact List.mem_cons_of_mem _ hp)
    unfold fits rowOf at ih ⊢
    rw [List.zip_cons_cons, List.map_cons, List.zip_cons_cons, List.all_cons, ih, Bool.and_true]
    rcases H (a, w) (by simp) with z | ⟨u, hu, _⟩
    · have z : a = 0 := z
      simp [rwf, z]
    · have hu : w = some u := hu
      simp [hu]
theorem wk_row (h : Rat) (T : Int) : ∀ (wts : List Int) (ws : List (Option Rat)), wts.length = ws.length → (∀ p ∈ wts.zip ws, p.1 = 0 ∨ ∃ u, p.2 = some u ∧ 0 < u) → wkS ws (rowOf h T wts ws) = S (fun a : Int => h * Rat.divInt a T) wts
  | [], [], _, _ => rfl
  | [], _ :: _, e, _ => by simp at e
  | _ :: _, [], e, _ => by simp at e
  | a :: wts, w :: ws, e, H => by
    have ih := wk_row h T wts ws (by simpa using e) fun p hp => H p (by rw [List.zip_cons_cons]; exact List.mem_cons_of_mem _ hp)
    unfold wkS rowOf at ih ⊢
    rw [List.zip_cons_cons, List.map_cons, List.zip_cons_cons]
    simp only [S]
    rw [ih]
    congr 1
    rcases H (a, w) (by simp) with z | ⟨u, hu, hp⟩
    · have z : a = 0 := z
      simp [fW, rwf, z, Rat.mul_zero]
    · have hu : w = some u := hu
      subst hu
      by_cases z : a = 0
      · simp [fW, rwf, z, Rat.mul_zero]
      · simp only [fW, rwf, if_neg z, Option.getD_some]
        have : u ≠ 0 := fun q => absurd hp (by rw [q]; exact Rat.lt_irrefl)
        rw [Rat.div_def, Rat.mul_comm, Rat.mul_assoc, Rat.inv_mul_cancel _ this, Rat.mul_one]
theorem S_int (h : Rat) {T : Int} (hT : 0 < T) : ∀ wts : List Int, S (fun a : Int => h * Rat.divInt a T) wts = h * Rat.divInt wts.sum T
  | [] => by simp [S, Rat.zero_divInt, Rat.mul_zero]
  | a :: wts => by
    simp only [S]
    rw [S_int h hT wts, List.sum_cons, ← Rat.mul_add]
    congr 1
    rw [Rat.divInt_add_divInt _ _ (by omega) (by omega)]
    rw [← Int.add_mul, Rat.divInt_mul_right (by omega)]
theorem row_ok {m : Nat} {l : La} (h : LaOk m l) {wts : List Int} {T : Int} (hw : Wts l.works wts T) : okRow l (rowOf l.hands T wts l.works) = true := by
  have H := rwf_ok h hw
  have H2 : ∀ p ∈ wts.zip l.works, p.1 = 0 ∨ ∃ u, p.2 = some u ∧ 0 < u := fun p hp => by
    rcases (H p hp).2.1 with z | ⟨u, a, b, _⟩
    · exact .inl z
    · exact .inr ⟨u, a, b⟩
  unfold okRow
  rw [fits_row _ _ _ _ H2, Bool.true_and, wk_row _ _ _ _ hw.len H2, S_int _ hw.pos]
  have hT := hw.pos
  have le1 : Rat.divInt wts.sum T ≤ 1 := by
    have h1 : Rat.divInt wts.sum T + Rat.divInt (T - wts.sum) T = 1 := by
      rw [Rat.divInt_add_divInt _ _ (by omega) (by omega), ← Int.add_mul, Rat.divInt_mul_right (by omega)]
      rw [show wts.sum + (T - wts.sum) = T from by omega]
      exact Rat.divInt_self' (by omega)
    have h2 := divInt_nn (a := T - wts.sum) (b := T) (by have := hw.sum; omega) hT
    grind
  have : l.hands * Rat.divInt wts.sum T ≤ l.hands := by
    have := Rat.mul_le_mul_of_nonneg_left le1 (Rat.le_of_lt h.hands.p)
    rwa [Rat.mul_one] at this
  simp only [Bool.not_eq_true', decide_eq_false_iff_not]
  exact Rat.not_lt.mpr this
theorem row_wk {m : Nat} {l : La} (h : LaOk m l) {wts : List Int} {T : Int} (hw : Wts l.works wts T) (h0 : 0 ≤ wts.sum) : B0 80 (wkS l.works (rowOf l.hands T wts l.works)) := by
  have H := rwf_ok h hw
  have H2 : ∀ p ∈ wts.zip l.works, p.1 = 0 ∨ ∃ u, p.2 = some u ∧ 0 < u := fun p hp => by
    rcases (H p hp).2.1 with z | ⟨u, a, b, _⟩
    · exact .inl z
    · exact .inr ⟨u, a, b⟩
  rw [wk_row _ _ _ _ hw.len H2, S_int _ hw.pos]
  have h1 := hw.sum
  have h2 := hw.pos
  have h3 := hw.hi
  exact (h.hands.b.mul (divInt_b0 (k := 40) h2 (by omega) (by omega))).mono (by decide)
end K64
set_option Elab.async false
set_option linter.all false
set_option maxRecDepth 100000
namespace K64
open PySem Dl
theorem intL_map : ∀ ns : List Int, intL (ns.map .int) = some ns
  | [] => rfl
  | n :: r => by simp [intL, intL_map r]
theorem sum_ints (ns : List Int) : sumD (.list (ns.map .int)) = some (.int ns.sum) := by
  unfold sumD
  simp [intL_map]
theorem sum_rng : ∀ (l : List Int), (∀ a ∈ l, 0 ≤ a ∧ a ≤ 5) → 0 ≤ l.sum ∧ l.sum ≤ 5 * (l.length : Nat) ∧ ∀ a ∈ l, a ≤ l.sum
  | [], _ => ⟨by simp, by simp, fun a h => by simp at h⟩
  | x :: l, H => by
    obtain ⟨h1, h2, h3⟩ := sum_rng l fun a ha => H a (List.mem_cons_of_mem _ ha)
    have hx := H x (by simp)
    simp only [List.sum_cons, List.length_cons]
    refine ⟨by omega, by omega, fun a ha => ?_⟩
    rcases List.mem_cons.mp ha with rfl | ha
    · omega
    · have := h3 a ha
      omega
noncomputable def bR : Fs := (sEx (eApp 10 (vE (eIf (tOf (eBin eqD (eVar 11) (eC (.int 0)))) (eTup (aCons (eC (.int 0)) (aCons (eC (.int 1)) aNil))) (eV (eCall m__law_over (aCons (eV (eCall m__law_times (aCons (eVar 4) (aCons (eTup (aCons (eVar 11) (aCons (eVar 9) aNil))) aNil)))) (aCons (eVar 6) aNil))))))))
noncomputable def bD : Fs := (sSeq (sSet 7 (vLc (iEnum' (aCons (eVar 5) aNil)) (gTup (gsCons (gVar 12) (gsCons (gVar 6) gsNil)) 2) (tOf (eBin notND (eVar 6) (eC .none))) (eVar 12) [12, 6]))
    (sSeq (sSet 8 (vLc (iRange1 (aCons (eUn lenD (bVar 5)) aNil)) (gVar 12) cYes fWt [12]))
    (sSeq (sIf (tOf (eBin eqD (eUn sumD (bVar 8)) (eC (.int 0)))) (sPut 8 (eV (eCallI m__law_some 0 (aCons (eVar 7) aNil))) (vE (eC (.int 1)))) sNil)
    (sSeq (sSet 9 (vE (eBin addA (eUn sumD (bVar 8)) (eIf (tOf (bVar 2)) (eC (.int 0)) (eV (eCallI m__law_some 0 (aCons (eV (vLst (aCons (eC (.int 0)) (aCons (eC (.int 0)) (aCons (eC (.int 1)) (aCons (eC (.int 3)) aNil)))))) aNil)))))))
    (sSeq (sSet 10 (vLst aNil))
    (sSeq (sFor (iZipU (aCons (eVar 8) (aCons (eVar 5) aNil))) (gTup (gsCons (gVar 11) (gsCons (gVar 6) gsNil)) 2) bR)
    (sEx (eApp 3 (vE (eUn tupD (bVar 10)))))))))))
structure RowOk (m : Nat) (l : La) (row : List Rat) : Prop where
  len : row.length = m
  nn : ∀ x ∈ row, 0 ≤ x ∧ B0 100 x
  wk : B0 80 (wkS l.works row)
  ok : okRow l row = true
theorem row_step {m : Nat} {l : La} (h : LaOk m l) {wts : List Int} {T : Int} (hw : Wts l.works wts T) {p : Int × Option Rat} (hp : p ∈ wts.zip l.works) (acc : List Rat) (ha : acc.length < 1000) (a0 a1 a2 a3 a7 a8 : Sl) :
    bR [a0, a1, a2, a3, .v (qD l.hands), .v (.tuple (l.works.map wkD)), .v (wkD p.2), a7, a8, .v (.int T), .own none (acc.map qD), .v (.int p.1), .no] = some (.nx [a0, a1, a2, a3, .v (qD l.hands), .v (.tuple (l.works.map wkD)), .v (wkD p.2), a7, a8, .v (.int T), .own none ((acc ++ [rwf l.hands T p]).map qD), .v (.int p.1), .no]) := by
  obtain ⟨a, w⟩ := p
  obtain ⟨h0, h1, h5⟩ := rwf_ok h hw _ hp
  obtain ⟨G, hG⟩ : ∃ G : G, G = [a0, a1, a2, a3, .v (qD l.hands), .v (.tuple (l.works.map wkD)), .v (wkD w), a7, a8, .v (.int T), .own none (acc.map qD), .v (.int a), .no] := ⟨_, rfl⟩
  have c : tOf (eBin eqD (eVar 11) (eC (.int 0))) G = some (decide (a = 0), G) := tOf_b (eBin_of (f := eVar 11) (h := eC (.int 0)) (d := .int a) (g1 := G) (by rw [hG]; rfl) rfl (eqD_ii _ _))
  have v : eIf (tOf (eBin eqD (eVar 11) (eC (.int 0)))) (eTup (aCons (eC (.int 0)) (aCons (eC (.int 1)) aNil))) (eV (eCall m__law_over (aCons (eV (eCall m__law_times (aCons (eVar 4) (aCons (eTup (aCons (eVar 11) (aCons (eVar 9) aNil))) aNil)))) (aCons (eVar 6) aNil)))) G = some (qD (rwf l.hands T (a, w)), G) := by
    by_cases z : a = 0
    · rw [decide_eq_true z] at c
      rw [show rwf l.hands T (a, w) = 0 from if_pos z]
      exact eIf_t c (eTup_of (ar_cons (f := eC (.int 0)) rfl (ar_cons (f := eC (.int 1)) rfl ar_nil)))
    · rw [decide_eq_false z] at c
      rw [show rwf l.hands T (a, w) = l.hands * Rat.divInt a T / w.getD 1 from if_neg z]
      rcases h1 with h1 | ⟨u, hu, hu0, hub⟩
      · exact absurd h1 z
      · have hu : w = some u := hu
        subst hu
        have hT := hw.pos
        have hT2 := hw.hi
        have k1 := times_un (r := l.hands) (a := a) (b := T) (h.hands.b.mono (by decide)) (by have h0 : 0 ≤ a := h0; have h5 : a ≤ 5 := h5; omega) hT (by omega)
        have k2 := law_over_ok (r := l.hands * Rat.divInt a T) (s := u) ((h.hands.b.mul (b0_wt h0 h5 hT hT2)).mono (by decide)) (hub.mono (by decide)) hu0
        have x4 : eVar 4 G = some (qD l.hands, G) := by rw [hG]; rfl
        have x11 : eVar 11 G = some (.int a, G) := by rw [hG]; rfl
        have x9 : eVar 9 G = some (.int T, G) := by rw [hG]; rfl
        have x6 : eVar 6 G = some (qD u, G) := by rw [hG]; rfl
        exact eIf_f c (eV_v (eCall_of (ar_cons (eV_v (eCall_of (ar_cons x4 (ar_cons (eTup_of (ar_cons x11 (ar_cons x9 ar_nil))) ar_nil)) k1)) (ar_cons x6 ar_nil)) k2))
  have ap := app_of (i := 10) (t := none) (ds0 := acc.map qD) (ds := acc.map qD) (by rw [hG]; rfl) (eV_v (vE_of v)) (by rw [hG]; rfl) (by simp; omega)
  have e : acc.map qD ++ [qD (rwf l.hands T (a, w))] = (acc ++ [rwf l.hands T (a, w)]).map qD := by simp
  rw [e, hG] at ap
  exact ex_of ap
theorem row_loop {m : Nat} {l : La} (h : LaOk m l) {wts : List Int} {T : Int} (hw : Wts l.works wts T) (a1 a2 a3 a7 a8 : Sl) : ∀ (ps : List (Int × Option Rat)) (acc : List Rat) (z6 z11 : Sl), (∀ p ∈ ps, p ∈ wts.zip l.works) → acc.length + ps.length ≤ 1000 → Pl z6 →
    ∃ z6' z11', Pl z6' ∧ ∀ a0, forGo (gTup (gsCons (gVar 11) (gsCons (gVar 6) gsNil)) 2) bR (ps.map fun p => .tuple [.int p.1, wkD p.2]) [a0, a1, a2, a3, .v (qD l.hands), .v (.tuple (l.works.map wkD)), z6, a7, a8, .v (.int T), .own none (acc.map qD), z11, .no] =
      some (.nx [a0, a1, a2, a3, .v (qD l.hands), .v (.tuple (l.works.map wkD)), z6', a7, a8, .v (.int T), .own none ((acc ++ ps.map (rwf l.hands T)).map qD), z11', .no])
  | [], acc, z6, z11, _, _, p6 => ⟨z6, z11, p6, fun a0 => by simp [forGo]⟩
  | p :: ps, acc, z6, z11, hp, hl, p6 => by
    simp only [List.length_cons] at hl
    obtain ⟨z6', z11', q6, k⟩ := row_loop h hw a1 a2 a3 a7 a8 ps (acc ++ [rwf l.hands T p]) (.v (wkD p.2)) (.v (.int p.1)) (fun x hx => hp x (List.mem_cons_of_mem _ hx)) (by simp; omega) (.inr ⟨_, rfl⟩)
    refine ⟨z6', z11', q6, fun a0 => ?_⟩
    have s := row_step h hw (hp p (by simp)) acc (by omega) a0 a1 a2 a3 a7 a8
    have t : gTup (gsCons (gVar 11) (gsCons (gVar 6) gsNil)) 2 (.tuple [.int p.1, wkD p.2]) [a0, a1, a2, a3, .v (qD l.hands), .v (.tuple (l.works.map wkD)), z6, a7, a8, .v (.int T), .own none (acc.map qD), z11, .no] = some [a0, a1, a2, a3, .v (qD l.hands), .v (.tuple (l.works.map wkD)), .v (wkD p.2), a7, a8, .v (.int T), .own none (acc.map qD), .v (.int p.1), .no] := rfl
    rw [List.map_cons, forGo, t]
    simp only [Option.bind_some]
    rw [s]
    have e : acc ++ [rwf l.hands T p] ++ ps.map (rwf l.hands T) = acc ++ (p :: ps).map (rwf l.hands T) := by simp
    have := k a0
    rw [e] at this
    exact this
theorem sh_step {m : Nat} (hm : 1 ≤ m) (hm6 : m ≤ 6) {l : La} (h : LaOk m l) (w : Bool) (A : Sl) (es : List D) (hH : Hand es) (acc : List (List Rat)) (hl : acc.length ≤ 999) (z6 z7 z8 z9 z10 z11 : Sl) (p6 : Pl z6) :
    ∃ (row : List Rat) (es' : List D) (z6' z7' z8' z9' z10' z11' : Sl), RowOk m l row ∧ Hand es' ∧ Pl z6' ∧ ∀ t, bD [.own t es, A, .v (.bool w), .own none (acc.map rowD), .v (qD l.hands), .v (.tuple (l.works.map wkD)), z6, z7, z8, z9, z10, z11, .no] =
      some (.nx [.own t es', A, .v (.bool w), .own none ((acc ++ [row]).map rowD), .v (qD l.hands), .v (.tuple (l.works.map wkD)), z6', z7', z8', z9', z10', z11', .no]) := by
  have hlen := h.len
  obtain ⟨W, hW⟩ : ∃ W : D, W = .tuple (l.works.map wkD) := ⟨_, rfl⟩
  obtain ⟨F, hF⟩ : ∃ F : Sl, F = .own none (acc.map rowD) := ⟨_, rfl⟩
  rw [← hW, ← hF]
  have lW : lenD W = some (.int (m : Nat)) := by rw [hW, len_row, hlen]
  -- able
  have s1 : ∀ t, sSet 7 (vLc (iEnum' (aCons (eVar 5) aNil)) (gTup (gsCons (gVar 12) (gsCons (gVar 6) gsNil)) 2) (tOf (eBin notND (eVar 6) (eC .none))) (eVar 12) [12, 6]) [.own t es, A, .v (.bool w), F, .v (qD l.hands), .v W, z6, z7, z8, z9, z10, z11, .no] =
      some (.nx [.own t es, A, .v (.bool w), F, .v (qD l.hands), .v W, z6, .own none (abl l.works), z8, z9, z10, z11, .no]) := fun t => by
    have ok : okW [.own t es, A, .v (.bool w), F, .v (qD l.hands), .v W, z6, z7, z8, z9, z10, z11, .no] [12, 6] = true := by rcases p6 with rfl | ⟨d, rfl⟩ <;> rfl
    have it : iEnum' (aCons (eVar 5) aNil) [.own t es, A, .v (.bool w), F, .v (qD l.hands), .v W, z6, z7, z8, z9, z10, z11, .no] = some (l.works.zipIdx.map (fun p => (.tuple [.int (p.2 : Nat), wkD p.1] : D)), [.own t es, A, .v (.bool w), F, .v (qD l.hands), .v W, z6, z7, z8, z9, z10, z11, .no]) := by
      have := enum_of (f := aCons (eVar 5) aNil) (g := [.own t es, A, .v (.bool w), F, .v (qD l.hands), .v W, z6, z7, z8, z9, z10, z11, .no]) (ds := l.works.map wkD) (ar_cons (f := eVar 5) rfl ar_nil) (by rw [hW]; rfl)
      rw [pairL_map] at this
      exact this
    have c := vLc_filt (fi := iEnum' (aCons (eVar 5) aNil)) (t := gTup (gsCons (gVar 12) (gsCons (gVar 6) gsNil)) 2) (c := tOf (eBin notND (eVar 6) (eC .none))) (f := eVar 12) (vs := [12, 6]) (g := [.own t es, A, .v (.bool w), F, .v (qD l.hands), .v W, z6, z7, z8, z9, z10, z11, .no]) (xs := l.works.zipIdx) (fun p => .tuple [.int (p.2 : Nat), wkD p.1]) (fun p => .int (p.2 : Nat)) (fun p => p.1.isSome) it ok (by simp; omega) (fun p hp => by
      obtain ⟨u, k⟩ := p
      exact ⟨[.own t es, A, .v (.bool w), F, .v (qD l.hands), .v W, .v (wkD u), z7, z8, z9, z10, z11, .v (.int (k : Nat))], [.own t es, A, .v (.bool w), F, .v (qD l.hands), .v W, .v (wkD u), z7, z8, z9, z10, z11, .v (.int (k : Nat))], rfl, tOf_b (eBin_of (f := eVar 6) (h := eC .none) rfl rfl (notN_w u)), rfl, fun _ => ⟨_, rfl, rfl⟩⟩)
    exact set_o c
  obtain ⟨wts, es1, l1, o1, H1, k1⟩ := wts_ok hm hm6 l.works es hH
  have s2 : ∀ t, sSet 8 (vLc (iRange1 (aCons (eUn lenD (bVar 5)) aNil)) (gVar 12) cYes fWt [12]) [.own t es, A, .v (.bool w), F, .v (qD l.hands), .v W, z6, .own none (abl l.works), z8, z9, z10, z11, .no] =
      some (.nx [.own t es1, A, .v (.bool w), F, .v (qD l.hands), .v W, z6, .v (.list (abl l.works)), .own none (wts.map .int), z9, z10, z11, .no]) := fun t =>
    set_o (vLc_of (fi := iRange1 (aCons (eUn lenD (bVar 5)) aNil)) (g := [.own t es, A, .v (.bool w), F, .v (qD l.hands), .v W, z6, .own none (abl l.works), z8, z9, z10, z11, .no]) (rng_of (n := m) (ar_cons (eUn_of (f := bVar 5) rfl lW) ar_nil) (by omega)) rfl (k1 t A (.v (.bool w)) F (.v (qD l.hands)) (.v W) z6 z8 z9 z10 z11) (by simp; omega))
  have rng1 : ∀ a ∈ wts, 0 ≤ a ∧ a ≤ 5 := fun a ha => by
    obtain ⟨i, hi⟩ := List.getElem?_of_mem ha
    exact ⟨(o1 i a hi).lo, (o1 i a hi).hi⟩
  -- a weight at least
  obtain ⟨wt2, es2, l2, o2, p2, H2, s3⟩ : ∃ (wt2 : List Int) (es2 : List D), wt2.length = m ∧ (∀ i a, wt2[i]? = some a → WtOk l.works i a) ∧ 0 < wt2.sum ∧ Hand es2 ∧ ∀ t, sIf (tOf (eBin eqD (eUn sumD (bVar 8)) (eC (.int 0)))) (sPut 8 (eV (eCallI m__law_some 0 (aCons (eVar 7) aNil))) (vE (eC (.int 1)))) sNil
      [.own t es1, A, .v (.bool w), F, .v (qD l.hands), .v W, z6, .v (.list (abl l.works)), .own none (wts.map .int), z9, z10, z11, .no] = some (.nx [.own t es2, A, .v (.bool w), F, .v (qD l.hands), .v W, z6, .v (.list (abl l.works)), .own none (wt2.map .int), z9, z10, z11, .no]) := by
    have c : ∀ t, tOf (eBin eqD (eUn sumD (bVar 8)) (eC (.int 0))) [.own t es1, A, .v (.bool w), F, .v (qD l.hands), .v W, z6, .v (.list (abl l.works)), .own none (wts.map .int), z9, z10, z11, .no] = some (decide (wts.sum = 0), [.own t es1, A, .v (.bool w), F, .v (qD l.hands), .v W, z6, .v (.list (abl l.works)), .own none (wts.map .int), z9, z10, z11, .no]) := fun t =>
      tOf_b (eBin_of (h := eC (.int 0)) (eUn_of (f := bVar 8) rfl (sum_ints wts)) rfl (eqD_ii _ _))
    have sr := sum_rng wts rng1
    by_cases z : wts.sum = 0
    · rw [decide_eq_true z] at c
      obtain ⟨r, hr⟩ := h.some
      have al := abl_len l.works
      obtain ⟨d, es2, e2, hd, H2⟩ := any_ok (ds := abl l.works) H1 (abl_ne hr) (by omega)
      obtain ⟨k, rfl, u, hu⟩ := abl_mem hd
      have hk : k < wts.length := by
        have := (List.getElem?_eq_some_iff.mp hu).1
        omega
      have o2 : ∀ i a, (wts.set k 1)[i]? = some a → WtOk l.works i a := fun i a hi => by
        by_cases q : k = i
        · subst q
          rw [List.getElem?_set_self hk] at hi
          injection hi with hi
          subst hi
          exact ⟨by decide, by decide, fun _ => ⟨u, hu⟩⟩
        · rw [List.getElem?_set_ne q] at hi
          exact o1 i a hi
      have rng2 : ∀ a ∈ wts.set k 1, 0 ≤ a ∧ a ≤ 5 := fun a ha => by
        obtain ⟨i, hi⟩ := List.getElem?_of_mem ha
        exact ⟨(o2 i a hi).lo, (o2 i a hi).hi⟩
      have := (sum_rng _ rng2).2.2 1 (List.mem_set hk 1)
      refine ⟨wts.set k 1, es2, by simp [l1], o2, by omega, H2, fun t => if_t (c t) ?_⟩
      have v2 : eV (eCallI m__law_some 0 (aCons (eVar 7) aNil)) [.own t es1, A, .v (.bool w), F, .v (qD l.hands), .v W, z6, .v (.list (abl l.works)), .own none (wts.map .int), z9, z10, z11, .no] = some (.int (k : Nat), [.own t es2, A, .v (.bool w), F, .v (qD l.hands), .v W, z6, .v (.list (abl l.works)), .own none (wts.map .int), z9, z10, z11, .no]) := eV_v (callI_of (i := 0) (t := t) (g1 := [.own t es1, A, .v (.bool w), F, .v (qD l.hands), .v W, z6, .v (.list (abl l.works)), .own none (wts.map .int), z9, z10, z11, .no]) rfl (ar_cons (f := eVar 7) rfl ar_nil) rfl e2)
      have p := put_of (i := 8) (fj := eV (eCallI m__law_some 0 (aCons (eVar 7) aNil))) (f := vE (eC (.int 1))) (d := .int 1) (k := (k : Nat)) (j := k) (t := none) (ds := wts.map .int) (g := [.own t es1, A, .v (.bool w), F, .v (qD l.hands), .v W, z6, .v (.list (abl l.works)), .own none (wts.map .int), z9, z10, z11, .no]) rfl rfl v2 rfl (ixN_nat (by simp; exact hk))
      have e : (wts.map PyData.int).set k (.int 1) = (wts.set k 1).map PyData.int := by rw [List.map_set]
      rw [e] at p
      exact p
    · rw [decide_eq_false z] at c
      exact ⟨wts, es1, l1, o1, by omega, H1, fun t => if_f (c t) rfl⟩
  have rng2 : ∀ a ∈ wt2, 0 ≤ a ∧ a ≤ 5 := fun a ha => by
    obtain ⟨i, hi⟩ := List.getElem?_of_mem ha
    exact ⟨(o2 i a hi).lo, (o2 i a hi).hi⟩
  have sr2 := sum_rng wt2 rng2
  -- the total
  obtain ⟨T, es3, hT1, hT2, H3, s4⟩ : ∃ (T : Int) (es3 : List D), wt2.sum ≤ T ∧ T ≤ 100 ∧ Hand es3 ∧ ∀ t, sSet 9 (vE (eBin addA (eUn sumD (bVar 8)) (eIf (tOf (bVar 2)) (eC (.int 0)) (eV (eCallI m__law_some 0 (aCons (eV (vLst (aCons (eC (.int 0)) (aCons (eC (.int 0)) (aCons (eC (.int 1)) (aCons (eC (.int 3)) aNil)))))) aNil))))))
      [.own t es2, A, .v (.bool w), F, .v (qD l.hands), .v W, z6, .v (.list (abl l.works)), .own none (wt2.map .int), z9, z10, z11, .no] = some (.nx [.own t es3, A, .v (.bool w), F, .v (qD l.hands), .v W, z6, .v (.list (abl l.works)), .own none (wt2.map .int), .v (.int T), z10, z11, .no]) := by
    have v1 : ∀ t, eUn sumD (bVar 8) [.own t es2, A, .v (.bool w), F, .v (qD l.hands), .v W, z6, .v (.list (abl l.works)), .own none (wt2.map .int), z9, z10, z11, .no] = some (.int wt2.sum, [.own t es2, A, .v (.bool w), F, .v (qD l.hands), .v W, z6, .v (.list (abl l.works)), .own none (wt2.map .int), z9, z10, z11, .no]) := fun t => eUn_of (f := bVar 8) rfl (sum_ints wt2)
    cases w with
    | true =>
      refine ⟨wt2.sum + 0, es2, by omega, by omega, H2, fun t => ?_⟩
      have c : eIf (tOf (bVar 2)) (eC (.int 0)) (eV (eCallI m__law_some 0 (aCons (eV (vLst (aCons (eC (.int 0)) (aCons (eC (.int 0)) (aCons (eC (.int 1)) (aCons (eC (.int 3)) aNil)))))) aNil))) [.own t es2, A, .v (.bool true), F, .v (qD l.hands), .v W, z6, .v (.list (abl l.works)), .own none (wt2.map .int), z9, z10, z11, .no] = some (.int 0, [.own t es2, A, .v (.bool true), F, .v (qD l.hands), .v W, z6, .v (.list (abl l.works)), .own none (wt2.map .int), z9, z10, z11, .no]) := eIf_t (tOf_b (f := bVar 2) rfl) rfl
      exact set_v (vE_of (eBin_of (v1 t) c (addA_int _ _)))
    | false =>
      obtain ⟨d, es3, e3, hd, H3⟩ := any_ok (ds := [.int 0, .int 0, .int 1, .int 3]) H2 (by simp) (by simp)
      obtain ⟨x, rfl, hx0, hx3⟩ : ∃ x : Int, d = .int x ∧ 0 ≤ x ∧ x ≤ 3 := by
        simp only [List.mem_cons, List.not_mem_nil, or_false] at hd
        rcases hd with rfl | rfl | rfl | rfl
        · exact ⟨0, rfl, by decide, by decide⟩
        · exact ⟨0, rfl, by decide, by decide⟩
        · exact ⟨1, rfl, by decide, by decide⟩
        · exact ⟨3, rfl, by decide, by decide⟩
      refine ⟨wt2.sum + x, es3, by omega, by omega, H3, fun t => ?_⟩
      have v := vLst_of (ar_cons (f := eC (.int 0)) (g := [.own t es2, A, .v (.bool false), F, .v (qD l.hands), .v W, z6, .v (.list (abl l.works)), .own none (wt2.map .int), z9, z10, z11, .no]) rfl (ar_cons (f := eC (.int 0)) rfl (ar_cons (f := eC (.int 1)) rfl (ar_cons (f := eC (.int 3)) rfl ar_nil))))
      have v3 : eV (eCallI m__law_some 0 (aCons (eV (vLst (aCons (eC (.int 0)) (aCons (eC (.int 0)) (aCons (eC (.int 1)) (aCons (eC (.int 3)) aNil)))))) aNil)) [.own t es2, A, .v (.bool false), F, .v (qD l.hands), .v W, z6, .v (.list (abl l.works)), .own none (wt2.map .int), z9, z10, z11, .no] = some (.int x, [.own t es3, A, .v (.bool false), F, .v (qD l.hands), .v W, z6, .v (.list (abl l.works)), .own none (wt2.map .int), z9, z10, z11, .no]) := eV_v (callI_of (i := 0) (t := t) rfl (ar_cons (eV_o v) ar_nil) rfl e3)
      have c : eIf (tOf (bVar 2)) (eC (.int 0)) (eV (eCallI m__law_some 0 (aCons (eV (vLst (aCons (eC (.int 0)) (aCons (eC (.int 0)) (aCons (eC (.int 1)) (aCons (eC (.int 3)) aNil)))))) aNil))) [.own t es2, A, .v (.bool false), F, .v (qD l.hands), .v W, z6, .v (.list (abl l.works)), .own none (wt2.map .int), z9, z10, z11, .no] = some (.int x, [.own t es3, A, .v (.bool false), F, .v (qD l.hands), .v W, z6, .v (.list (abl l.works)), .own none (wt2.map .int), z9, z10, z11, .no]) := eIf_f (tOf_b (f := bVar 2) rfl) v3
      exact set_v (vE_of (eBin_of (v1 t) c (addA_int _ _)))
  have hw : Wts l.works wt2 T := ⟨by omega, o2, hT1, by omega, hT2⟩
  have hrow : (rowOf l.hands T wt2 l.works).length = m := by simp [rowOf]; omega
  refine ⟨rowOf l.hands T wt2 l.works, es3, ?_⟩
  have ro : RowOk m l (rowOf l.hands T wt2 l.works) := ⟨hrow, fun x hx => by
    obtain ⟨p, hp, rfl⟩ := List.mem_map.mp hx
    exact rwf_b h hw p hp, row_wk h hw sr2.1, row_ok h hw⟩
  have s5 : ∀ t, sSet 10 (vLst aNil) [.own t es3, A, .v (.bool w), F, .v (qD l.hands), .v W, z6, .v (.list (abl l.works)), .own none (wt2.map .int), .v (.int T), z10, z11, .no] = some (.nx [.own t es3, A, .v (.bool w), F, .v (qD l.hands), .v W, z6, .v (.list (abl l.works)), .own none (wt2.map .int), .v (.int T), .own none [], z11, .no]) := fun t => rfl
  obtain ⟨z6', z11', q6, k6⟩ := row_loop h hw A (.v (.bool w)) F (.v (.list (abl l.works))) (.v (.list (wt2.map .int))) (wt2.zip l.works) [] z6 z11 (fun p hp => hp) (by rw [List.length_zip]; simp; omega) p6
  rw [← hW] at k6
  have e6 : ([] : List Rat) ++ (wt2.zip l.works).map (rwf l.hands T) = rowOf l.hands T wt2 l.works := rfl
  rw [e6] at k6
  have s6 : ∀ t, sFor (iZipU (aCons (eVar 8) (aCons (eVar 5) aNil))) (gTup (gsCons (gVar 11) (gsCons (gVar 6) gsNil)) 2) bR [.own t es3, A, .v (.bool w), F, .v (qD l.hands), .v W, z6, .v (.list (abl l.works)), .own none (wt2.map .int), .v (.int T), .own none [], z11, .no] =
      some (.nx [.own t es3, A, .v (.bool w), F, .v (qD l.hands), .v W, z6', .v (.list (abl l.works)), .v (.list (wt2.map .int)), .v (.int T), .own none ((rowOf l.hands T wt2 l.works).map qD), z11', .no]) := fun t => by
    have it := zipU_of (f := aCons (eVar 8) (aCons (eVar 5) aNil)) (g := [.own t es3, A, .v (.bool w), F, .v (qD l.hands), .v W, z6, .v (.list (abl l.works)), .own none (wt2.map .int), .v (.int T), .own none [], z11, .no]) (g1 := [.own t es3, A, .v (.bool w), F, .v (qD l.hands), .v W, z6, .v (.list (abl l.works)), .v (.list (wt2.map .int)), .v (.int T), .own none [], z11, .no]) (F := PyData.int) (H := wkD) (l := wt2) (m := l.works) (ar_cons (f := eVar 8) rfl (ar_cons (f := eVar 5) rfl ar_nil)) rfl (by rw [hW]; rfl)
    exact for_of it (k6 (.own t es3))
  refine ⟨z6', .v (.list (abl l.works)), .v (.list (wt2.map .int)), .v (.int T), .own none ((rowOf l.hands T wt2 l.works).map qD), z11', ro, H3, q6, fun t => ?_⟩
  have s7 : sEx (eApp 3 (vE (eUn tupD (bVar 10)))) [.own t es3, A, .v (.bool w), F, .v (qD l.hands), .v W, z6', .v (.list (abl l.works)), .v (.list (wt2.map .int)), .v (.int T), .own none ((rowOf l.hands T wt2 l.works).map qD), z11', .no] =
      some (.nx [.own t es3, A, .v (.bool w), .own none ((acc ++ [rowOf l.hands T wt2 l.works]).map rowD), .v (qD l.hands), .v W, z6', .v (.list (abl l.works)), .v (.list (wt2.map .int)), .v (.int T), .own none ((rowOf l.hands T wt2 l.works).map qD), z11', .no]) := by
    subst hF
    have ap := app_of (i := 3) (f := vE (eUn tupD (bVar 10))) (g := [.own t es3, A, .v (.bool w), .own none (acc.map rowD), .v (qD l.hands), .v W, z6', .v (.list (abl l.works)), .v (.list (wt2.map .int)), .v (.int T), .own none ((rowOf l.hands T wt2 l.works).map qD), z11', .no]) (g1 := [.own t es3, A, .v (.bool w), .own none (acc.map rowD), .v (qD l.hands), .v W, z6', .v (.list (abl l.works)), .v (.list (wt2.map .int)), .v (.int T), .own none ((rowOf l.hands T wt2 l.works).map qD), z11', .no]) (t := none) (ds0 := acc.map rowD) (ds := acc.map rowD) (d := rowD (rowOf l.hands T wt2 l.works)) rfl (eV_v (vE_of (eUn_of (f := bVar 10) rfl rfl))) rfl (by simp; omega)
    have e : acc.map rowD ++ [rowD (rowOf l.hands T wt2 l.works)] = (acc ++ [rowOf l.hands T wt2 l.works]).map rowD := by simp
    rw [e] at ap
    exact ex_of ap
  exact seq_nx (s1 t) (seq_nx (s2 t) (seq_nx (s3 t) (seq_nx (s4 t) (seq_nx (s5 t) (seq_nx (s6 t) s7)))))
theorem sh_loop {m : Nat} (hm : 1 ≤ m) (hm6 : m ≤ 6) (w : Bool) (A : Sl) : ∀ (ls : List La) (es : List D) (acc : List (List Rat)) (z4 z5 z6 z7 z8 z9 z10 z11 : Sl), (∀ l ∈ ls, LaOk m l) → Hand es → acc.length + ls.length ≤ 999 → Pl z6 →
    ∃ (rows : List (List Rat)) (es' : List D) (z4' z5' z6' z7' z8' z9' z10' z11' : Sl), rows.length = ls.length ∧ (∀ p ∈ ls.zip rows, RowOk m p.1 p.2) ∧ Hand es' ∧ ∀ t, forGo (gTup (gsCons (gVar 4) (gsCons (gVar 5) gsNil)) 2) bD (ls.map laD) [.own t es, A, .v (.bool w), .own none (acc.map rowD), z4, z5, z6, z7, z8, z9, z10, z11, .no] =
      some (.nx [.own t es', A, .v (.bool w), .own none ((acc ++ rows).map rowD), z4', z5', z6', z7', z8', z9', z10', z11', .no])
  | [], es, acc, z4, z5, z6, z7, z8, z9, z10, z11, _, hH, _, _ => ⟨[], es, z4, z5, z6, z7, z8, z9, z10, z11, rfl, fun p hp => by simp at hp, hH, fun t => by simp [forGo]⟩
  | l :: ls, es, acc, z4, z5, z6, z7, z8, z9, z10, z11, h, hH, hl, p6 => by
    simp only [List.length_cons] at hl
    obtain ⟨row, es1, y6, y7, y8, y9, y10, y11, ro, H1, p1, k1⟩ := sh_step hm hm6 (h l (by simp)) w A es hH acc (by omega) z6 z7 z8 z9 z10 z11 p6
    obtain ⟨rows, es', z4', z5', z6', z7', z8', z9', z10', z11', r1, r2, H2, k2⟩ := sh_loop hm hm6 w A ls es1 (acc ++ [row]) (.v (qD l.hands)) (.v (.tuple (l.works.map wkD))) y6 y7 y8 y9 y10 y11 (fun x hx => h x (List.mem_cons_of_mem _ hx)) H1 (by simp; omega) p1
    refine ⟨row :: rows, es', z4', z5', z6', z7', z8', z9', z10', z11', by simp [r1], fun p hp => ?_, H2, fun t => ?_⟩
    · rw [List.zip_cons_cons] at hp
      rcases List.mem_cons.mp hp with rfl | hp
      · exact ro
      · exact r2 p hp
    · have t0 : gTup (gsCons (gVar 4) (gsCons (gVar 5) gsNil)) 2 (laD l) [.own t es, A, .v (.bool w), .own none (acc.map rowD), z4, z5, z6, z7, z8, z9, z10, z11, .no] = some [.own t es, A, .v (.bool w), .own none (acc.map rowD), .v (qD l.hands), .v (.tuple (l.works.map wkD)), z6, z7, z8, z9, z10, z11, .no] := rfl
      rw [List.map_cons, forGo, t0]
      simp only [Option.bind_some]
      rw [k1 t]
      have e : acc ++ [row] ++ rows = acc ++ row :: rows := by simp
      have := k2 t
      rw [e] at this
      exact this
theorem drawn_sharing_ok {es : List D} {m : Nat} {ls : List La} (hH : Hand es) (h : LsOk m ls) (w : Bool) : ∃ (rows : List (List Rat)) (es' : List D), m__law_drawn_sharing es [lsD ls, .bool w] = some (.v (shD rows), es') ∧ ShOk m ls rows ∧ (∀ p ∈ ls.zip rows, RowOk m p.1 p.2) ∧ Hand es' := by
  obtain ⟨rows, es', z4', z5', z6', z7', z8', z9', z10', z11', r1, r2, H2, k2⟩ := sh_loop h.mlo h.mhi w (.v (lsD ls)) ls es [] .no .no .no .no .no .no .no .no h.ok hH (by have := h.hi; simp; omega) (.inl rfl)
  have hz : ∀ r ∈ rows, ∃ l ∈ ls, RowOk m l r := fun r hr => by
    obtain ⟨i, hi, e⟩ := List.getElem_of_mem hr
    have hi2 : i < ls.length := by omega
    exact ⟨ls[i], List.getElem_mem hi2, r2 (ls[i], r) (by
      rw [List.mem_iff_getElem?]
      exact ⟨i, by rw [List.getElem?_zip_eq_some]; exact ⟨List.getElem?_eq_getElem hi2, by rw [List.getElem?_eq_getElem hi, e]⟩⟩)⟩
  refine ⟨rows, es', ?_, ⟨r1, fun r hr => ?_, fun r hr => ?_, fun p hp => (r2 p hp).ok⟩, r2, H2⟩
  · unfold m__law_drawn_sharing b__law_drawn_sharing
    refine fnI_ret fun a => ⟨[.own (some a) es', .v (lsD ls), .v (.bool w), .own none (rows.map rowD), z4', z5', z6', z7', z8', z9', z10', z11', .no], ?_, rfl⟩
    have s0 : sSet 3 (vLst aNil) [.own (some a) es, .v (lsD ls), .v (.bool w), .no, .no, .no, .no, .no, .no, .no, .no, .no, .no] = some (.nx [.own (some a) es, .v (lsD ls), .v (.bool w), .own none [], .no, .no, .no, .no, .no, .no, .no, .no, .no]) := rfl
    exact seq_nx s0 (seq_nx (for_of (iSeq_of (f := eVar 1) rfl rfl) (k2 (some a))) (ret_v (vE_of (eUn_of (op := tupD) (f := bVar 3) rfl rfl))))
  · obtain ⟨l, _, o⟩ := hz r hr
    exact o.len
  · obtain ⟨l, _, o⟩ := hz r hr
    exact fun x hx => ⟨(o.nn x hx).1, (o.nn x hx).2.mono (by decide)⟩
end K64
set_option Elab.async false
set_option linter.all false
set_option maxRecDepth 100000
namespace K64
open PySem Dl
/-! ### things, how deep and how long -/
structure Sm (n k : Nat) (d : D) : Prop where
  dep : d.depth ≤ n
  ln : lnD d ≤ k
  rp : rpD d = true
  gd : gd 400 d = true
theorem Sm.mono {n k n' k' : Nat} {d : D} (h : Sm n k d) (h1 : n ≤ n') (h2 : k ≤ k') : Sm n' k' d := ⟨Nat.le_trans h.dep h1, Nat.le_trans h.ln h2, h.rp, h.gd⟩
theorem Sm.tup {n k c : Nat} {ds : List D} (h : ∀ d ∈ ds, Sm n k d) (hc : ds.length ≤ c) (hc2 : c ≤ 1000) : Sm (n + 1) ((k + 2) * c + 3) (.tuple ds) := by
  have h1 := depthAll_of fun d hd => (h d hd).dep
  have h2 := lnAll_of fun d hd => (h d hd).ln
  have h3 : (k + 2) * ds.length ≤ (k + 2) * c := Nat.mul_le_mul_left _ hc
  refine ⟨by simp only [PyData.depth]; omega, by simp only [lnD]; omega, by simp only [rpD]; exact rpAll_of fun d hd => (h d hd).rp, gd_tup.mpr ⟨by omega, fun d hd => (h d hd).gd⟩⟩
theorem Sm.lst {n k c : Nat} {ds : List D} (h : ∀ d ∈ ds, Sm n k d) (hc : ds.length ≤ c) (hc2 : c ≤ 1000) : Sm (n + 1) ((k + 2) * c + 3) (.list ds) := by
  have h1 := depthAll_of fun d hd => (h d hd).dep
  have h2 := lnAll_of fun d hd => (h d hd).ln
  have h3 : (k + 2) * ds.length ≤ (k + 2) * c := Nat.mul_le_mul_left _ hc
  refine ⟨by simp only [PyData.depth]; omega, by simp only [lnD]; omega, by simp only [rpD]; exact rpAll_of fun d hd => (h d hd).rp, gd_lst.mpr ⟨by omega, fun d hd => (h d hd).gd⟩⟩
theorem lt400 {n : Nat} (h : n < 2 ^ 400) : n < 2 ^ 1900 := Nat.lt_of_lt_of_le h (Nat.pow_le_pow_right (by decide) (by decide))
theorem sm_int {i : Int} (h : i.natAbs < 2 ^ 400) : Sm 0 600 (.int i) := ⟨Nat.le_refl _, Nat.le_refl _, by simp only [rpD, decide_eq_true_eq]; exact lt400 h, by simp only [Dl.gd, decide_eq_true_eq]; exact h⟩
theorem sm_none : Sm 0 600 .none := ⟨Nat.le_refl _, by simp [lnD], rfl, rfl⟩
theorem sm_bool (b : Bool) : Sm 0 600 (.bool b) := ⟨Nat.le_refl _, by simp [lnD], rfl, rfl⟩
theorem sm_q {r : Rat} (h : B0 400 r) : Sm 1 1300 (qD r) := by
  have := Sm.tup (n := 0) (k := 600) (c := 2) (ds := [.int r.num, .int r.den]) (fun d hd => by
    simp only [List.mem_cons, List.not_mem_nil, or_false] at hd
    rcases hd with rfl | rfl
    · exact sm_int h.num
    · exact sm_int (natAbs_lt h.den)) (by simp) (by decide)
  exact this.mono (by decide) (by decide)
/-- a thing that is judged: its text is told -/
structure Tg (d : D) : Prop where
  gd : gd 400 d = true
  rp : ∃ s, reprD d = some (.str s)
theorem Sm.tg {n k : Nat} {d : D} (h : Sm n k d) (hn : n ≤ 60) (hk : k ≤ 16000000) : Tg d := by
  refine ⟨h.gd, d.shown, ?_⟩
  obtain ⟨h1, h2⟩ := show_rp d h.rp
  have h3 := shown_ln d h.rp
  have h4 := h.dep
  have h5 := h.ln
  unfold reprD
  rw [if_pos ⟨h1, .inl h2, by omega, by rw [sizeLine_eq]; omega⟩]
theorem tg_dict : Tg (.dict []) := ⟨rfl, _, by
  unfold reprD
  rw [if_pos ⟨rfl, .inr rfl, by decide, by rw [sizeLine_eq]; decide⟩]⟩
/-! ### deep things -/
theorem deep_loop : ∀ (ds : List D) (es : List D) (d : D) (n : Nat) (z : Sl), Hand es → Sm n (600 + 5 * n) d → n + ds.length ≤ 50 →
    ∃ (d' : D) (es' : List D) (z' : Sl), Sm 50 850 d' ∧ Hand es' ∧ ∀ t, forGo (gVar 2) (sSet 1 (eCallI m__law_some 0 (aCons (eV (vLst (aCons (eTup (aCons (eVar 1) aNil)) (aCons (eV (vLst (aCons (eVar 1) aNil))) aNil)))) aNil))) ds [.own t es, .v d, z] = some (.nx [.own t es', .v d', z'])
  | [], es, d, n, z, h, s, hl => ⟨d, es, z, s.mono (by simp at hl; omega) (by simp at hl; omega), h, fun t => rfl⟩
  | x :: ds, es, d, n, z, h, s, hl => by
    simp only [List.length_cons] at hl
    obtain ⟨y, es1, e1, hy, H1⟩ := any_ok (ds := [.tuple [d], .list [d]]) h (by simp) (by simp)
    have sy : Sm (n + 1) (600 + 5 * (n + 1)) y := by
      simp only [List.mem_cons, List.not_mem_nil, or_false] at hy
      rcases hy with rfl | rfl
      · exact (Sm.tup (c := 1) (ds := [d]) (fun e he => by rw [List.mem_singleton] at he; subst he; exact s) (by simp) (by decide)).mono (Nat.le_refl _) (by omega)
      · exact (Sm.lst (c := 1) (ds := [d]) (fun e he => by rw [List.mem_singleton] at he; subst he; exact s) (by simp) (by decide)).mono (Nat.le_refl _) (by omega)
    obtain ⟨d', es', z', s', H', k⟩ := deep_loop ds es1 y (n + 1) (.v x) H1 sy (by omega)
    refine ⟨d', es', z', s', H', fun t => ?_⟩
    have v := vLst_of (ar_cons (eTup_of (ar_cons (f := eVar 1) (g := [.own t es, .v d, .v x]) rfl ar_nil)) (ar_cons (eV_o (vLst_of (ar_cons (f := eVar 1) (g := [.own t es, .v d, .v x]) rfl ar_nil))) ar_nil))
    have c := callI_of (m := m__law_some) (i := 0) (t := t) (g := [.own t es, .v d, .v x]) (g1 := [.own t es, .v d, .v x]) rfl (ar_cons (eV_o v) ar_nil) rfl e1
    have st : sSet 1 (eCallI m__law_some 0 (aCons (eV (vLst (aCons (eTup (aCons (eVar 1) aNil)) (aCons (eV (vLst (aCons (eVar 1) aNil))) aNil)))) aNil)) [.own t es, .v d, .v x] = some (.nx [.own t es1, .v y, .v x]) := set_v c
    have tg : gVar 2 x [.own t es, .v d, z] = some [.own t es, .v d, .v x] := rfl
    rw [forGo, tg]
    simp only [Option.bind_some]
    rw [st]
    exact k t
theorem deep_ok {es : List D} (h : Hand es) : ∃ (d : D) (es' : List D), m__law_deep es [] = some (.v d, es') ∧ Sm 50 850 d ∧ Hand es' := by
  obtain ⟨d0, es1, e1, hd, H1⟩ := any_ok (ds := [.none, .str (Str.ofString "a"), .int 0, .tuple []]) h (by simp) (by simp)
  obtain ⟨x, es2, e2, h0, h12, H2⟩ := draw_ok H1 (m := 12) (by decide) (by decide)
  obtain ⟨n, rfl⟩ := Int.eq_ofNat_of_zero_le h0
  have s0 : Sm 1 605 d0 := by
    simp only [List.mem_cons, List.not_mem_nil, or_false] at hd
    rcases hd with rfl | rfl | rfl | rfl
    · exact sm_none.mono (by decide) (by decide)
    · exact ⟨by decide, by decide, by decide +kernel, rfl⟩
    · exact (sm_int (by decide)).mono (by decide) (by decide)
    · exact ⟨by decide, by decide, rfl, rfl⟩
  obtain ⟨d', es', z', s', H', k⟩ := deep_loop ((List.range (20 + n)).map fun (i : Nat) => .int (i : Int)) es2 d0 1 .no H2 s0 (by simp; omega)
  refine ⟨d', es', ?_, s', H'⟩
  unfold m__law_deep b__law_deep
  refine fnI_ret fun a => ⟨[.own (some a) es', .v d', z'], ?_, rfl⟩
  have v := vLst_of (ar_cons (f := eC .none) (g := [.own (some a) es, .no, .no]) rfl (ar_cons (f := eC (.str (Str.ofString "a"))) rfl (ar_cons (f := eC (.int 0)) rfl (ar_cons (eTup_of ar_nil) ar_nil))))
  have c := callI_of (m := m__law_some) (i := 0) (t := some a) (g := [.own (some a) es, .no, .no]) (g1 := [.own (some a) es, .no, .no]) rfl (ar_cons (eV_o v) ar_nil) rfl e1
  have s1 : sSet 1 (eCallI m__law_some 0 (aCons (eV (vLst (aCons (eC .none) (aCons (eC (.str (Str.ofString "a"))) (aCons (eC (.int 0)) (aCons (eTup aNil) aNil)))))) aNil)) [.own (some a) es, .no, .no] = some (.nx [.own (some a) es1, .v d0, .no]) := set_v c
  have v2 : eBin addA (eC (.int 20)) (eV (eCallI m__law_draw 0 (aCons (eC (.int 12)) aNil))) [.own (some a) es1, .v d0, .no] = some (.int ((20 + n : Nat) : Int), [.own (some a) es2, .v d0, .no]) := by
    have := eBin_of (op := addA) (f := eC (.int 20)) (g := [.own (some a) es1, .v d0, .no]) rfl (drawV (i := 0) (f := eC (.int 12)) rfl rfl e2) (addA_int 20 (n : Int))
    rw [this]
    rfl
  exact seq_nx s1 (seq_nx (for_of (rng_of (n := 20 + n) (ar_cons v2 ar_nil) (by omega)) (k (some a))) (retV_v rfl))
/-! ### nearly fractions -/
def odds : List D := [.tuple [.int 0, .int 1], .tuple [.int (-1), .int 2], .tuple [.int 2, .int 4], .tuple [.int 1, .int 0], .tuple [.int 1, .int (-2)], .tuple [.int 0, .int 3], .tuple [.bool true, .int 2], .tuple [.int 1, .bool true], .list [.int 1, .int 2], .tuple [.int 1], .tuple [.int 1, .int 2, .int 1], .int 1, .str (Str.ofString "1"), .none]
theorem sm_dec {d : D} {n k : Nat} (h1 : d.depth ≤ n) (h2 : lnD d ≤ k) (h3 : rpD d = true) (h4 : Dl.gd 400 d = true) : Sm n k d := ⟨h1, h2, h3, h4⟩
theorem odds_sm : ∀ d ∈ odds, Sm 1 2000 d := by
  intro d hd
  simp only [odds, List.mem_cons, List.not_mem_nil, or_false] at hd
  rcases hd with rfl | rfl | rfl | rfl | rfl | rfl | rfl | rfl | rfl | rfl | rfl | rfl | rfl | rfl <;> exact sm_dec (by decide) (by decide) (by decide +kernel) (by decide +kernel)
theorem odds_ok (es : List D) : m__law_odd_fractions es [] = some (.own none odds, es) := by
  unfold m__law_odd_fractions b__law_odd_fractions
  refine fnI_ret fun a => ⟨[.own (some a) es, .v (.list (odds.take 11))], ?_, rfl⟩
  refine seq_nx (g1 := [.own (some a) es, .own none (odds.take 11)]) rfl ?_
  exact ret_o (vCatE_of (xs := odds.take 11) (ys := odds.drop 11) (g1 := [.own (some a) es, .v (.list (odds.take 11))]) rfl rfl (by decide))
end K64
set_option Elab.async false
set_option linter.all false
set_option maxRecDepth 100000
namespace K64
open PySem Dl
theorem cutL_mem {ds : List D} {lo hi : Option Int} {d : D} (h : d ∈ cutL ds lo hi) : d ∈ ds := by
  unfold cutL at h
  exact List.mem_of_mem_drop (List.mem_of_mem_take h)
theorem cutL_len (ds : List D) (lo hi : Option Int) : (cutL ds lo hi).length ≤ ds.length := by
  unfold cutL
  rw [List.length_take, List.length_drop]
  omega
/-- a list with one thing in the place of another -/
def spl (ds : List D) (k : Nat) (x : D) : List D := cutL ds none (some (k : Int)) ++ [x] ++ cutL ds (some ((k : Int) + 1)) none
theorem spl_mem {ds : List D} {k : Nat} {x d : D} (h : d ∈ spl ds k x) : d ∈ ds ∨ d = x := by
  unfold spl at h
  rcases List.mem_append.mp h with h | h
  · rcases List.mem_append.mp h with h | h
    · exact .inl (cutL_mem h)
    · exact .inr (List.mem_singleton.mp h)
  · exact .inl (cutL_mem h)
theorem spl_len (ds : List D) (k : Nat) (x : D) : (spl ds k x).length ≤ 2 * ds.length + 1 := by
  unfold spl
  have h1 := cutL_len ds none (some (k : Int))
  have h2 := cutL_len ds (some ((k : Int) + 1)) none
  simp only [List.length_append, List.length_cons, List.length_nil]
  omega
theorem spl_of {i j q : Nat} {g : G} {ds : List D} {k : Nat} {x : D} (hi : eVar i g = some (.tuple ds, g)) (hj : eVar j g = some (.int (k : Nat), g)) (hq : eVar q g = some (x, g)) (hl : ds.length ≤ 1000) :
    eBin addA (eBin addA (eSlU (eVar i) oNone (oSome (eVar j))) (eTup (aCons (eVar q) aNil))) (eSlU (eVar i) (oSome (eBin addA (eVar j) (eC (.int 1)))) oNone) g = some (.tuple (spl ds k x), g) := by
  have h1 := cutL_len ds none (some (k : Int))
  have h2 := cutL_len ds (some ((k : Int) + 1)) none
  have a := eSlU_of (fa := eVar i) (fl := oNone) (fh := oSome (eVar j)) hi rfl (oSome_of hj)
  have b := eSlU_of (fa := eVar i) (fl := oSome (eBin addA (eVar j) (eC (.int 1)))) (fh := oNone) hi (oSome_of (eBin_of (h := eC (.int 1)) hj rfl (addA_int _ _))) rfl
  exact eBin_of (eBin_of a (eTup_of (ar_cons hq ar_nil)) (addA_cat (by simp; omega))) b (addA_cat (by simp; omega))
theorem spl_ofC {i j : Nat} {g : G} {ds : List D} {k : Nat} {x : D} (hi : eVar i g = some (.tuple ds, g)) (hj : eVar j g = some (.int (k : Nat), g)) (hl : ds.length ≤ 1000) :
    eBin addA (eBin addA (eSlU (eVar i) oNone (oSome (eVar j))) (eTup (aCons (eC x) aNil))) (eSlU (eVar i) (oSome (eBin addA (eVar j) (eC (.int 1)))) oNone) g = some (.tuple (spl ds k x), g) := by
  have h1 := cutL_len ds none (some (k : Int))
  have h2 := cutL_len ds (some ((k : Int) + 1)) none
  have a := eSlU_of (fa := eVar i) (fl := oNone) (fh := oSome (eVar j)) hi rfl (oSome_of hj)
  have b := eSlU_of (fa := eVar i) (fl := oSome (eBin addA (eVar j) (eC (.int 1)))) (fh := oNone) hi (oSome_of (eBin_of (h := eC (.int 1)) hj rfl (addA_int _ _))) rfl
  exact eBin_of (eBin_of a (eTup_of (ar_cons (f := eC x) rfl ar_nil)) (addA_cat (by simp; omega))) b (addA_cat (by simp; omega))
def rep (n : Nat) (ds : List D) : List D := (List.replicate n ds).flatten
theorem rep_mem {n : Nat} {ds : List D} {d : D} (h : d ∈ rep n ds) : d ∈ ds := by
  unfold rep at h
  obtain ⟨l, hl, hd⟩ := List.mem_flatten.mp h
  rw [List.eq_of_mem_replicate hl] at hd
  exact hd
theorem rep_len (n : Nat) (ds : List D) : (rep n ds).length = n * ds.length := by
  unfold rep
  rw [PyProof.Rows.lm_len_rep_flat]
theorem repT_of {ds : List D} {n : Nat} (h1 : 1 ≤ n) (h2 : n ≤ 1000) (hn : ds ≠ []) (hl : ds.length ≤ 1000) : repTD (.tuple ds) (.int (n : Nat)) = some (.tuple (rep n ds)) := by
  show (if ((n : Nat) : Int) = 1 then some (.tuple ds) else if ds ≠ [] ∧ 2 ≤ ((n : Nat) : Int) ∧ ((n : Nat) : Int) ≤ 1000 ∧ ds.length ≤ 1000 then some (.tuple (List.replicate ((n : Nat) : Int).toNat ds).flatten) else none : Option D) = _
  by_cases q : n = 1
  · subst q
    simp [rep]
  · have e : ¬ ((n : Nat) : Int) = 1 := by omega
    rw [if_neg e, if_pos ⟨hn, by omega, by omega, hl⟩]
    simp [rep]
/-! ### what is nearly lands: how great -/
def Wl (d : D) : Prop := ∃ ws, d = .tuple ws ∧ ws.length ≤ 42 ∧ ∀ w ∈ ws, Sm 1 2000 w
theorem Wl.sm {d : D} (h : Wl d) : Sm 2 90000 d := by
  obtain ⟨ws, rfl, h1, h2⟩ := h
  exact (Sm.tup h2 h1 (by decide)).mono (by decide) (by decide)
def Nw (d : D) : Prop := Sm 3 300000 d
theorem nw_tup {ds : List D} (h : ∀ d ∈ ds, Sm 2 90000 d) (hl : ds.length ≤ 3) : Nw (.tuple ds) := (Sm.tup h hl (by decide)).mono (by decide) (by decide)
theorem nw_lst {ds : List D} (h : ∀ d ∈ ds, Sm 2 90000 d) (hl : ds.length ≤ 3) : Nw (.list ds) := (Sm.lst h hl (by decide)).mono (by decide) (by decide)
theorem nw_none : Nw .none := sm_none.mono (by decide) (by decide)
theorem ld_tup {ds : List D} (h : ∀ d ∈ ds, Nw d) (hl : ds.length ≤ 42) : Tg (.tuple ds) := ((Sm.tup h hl (by decide)).mono (n' := 4) (k' := 13000000) (by decide) (by decide)).tg (by decide) (by decide)
theorem ld_lst {ds : List D} (h : ∀ d ∈ ds, Nw d) (hl : ds.length ≤ 42) : Tg (.list ds) := ((Sm.lst h hl (by decide)).mono (n' := 4) (k' := 13000000) (by decide) (by decide)).tg (by decide) (by decide)
theorem sm_qp {r : Rat} (h : Po 30 r) : Sm 1 2000 (qD r) := (sm_q (h.b.mono (by decide))).mono (by decide) (by decide)
theorem sm_wk {m : Nat} {l : La} (h : LaOk m l) : ∀ w ∈ l.works.map wkD, Sm 1 2000 w := fun w hw => by
  obtain ⟨u, hu, rfl⟩ := List.mem_map.mp hw
  cases u with
  | none => exact sm_none.mono (by decide) (by decide)
  | some r => exact sm_qp (h.wok r hu)
theorem nw_pair {h d : D} (h1 : Sm 1 2000 h) (h2 : Sm 2 90000 d) : Nw (.tuple [h, d]) := nw_tup (fun e he => by
  simp only [List.mem_cons, List.not_mem_nil, or_false] at he
  rcases he with rfl | rfl
  · exact h1.mono (by decide) (by decide)
  · exact h2) (by simp)
theorem wl_la {m : Nat} (hm : m ≤ 6) {l : La} (h : LaOk m l) : Wl (.tuple (l.works.map wkD)) := ⟨_, rfl, by simp; have := h.len; omega, sm_wk h⟩
theorem nw_la {m : Nat} (hm : m ≤ 6) {l : La} (h : LaOk m l) : Nw (laD l) := nw_pair (sm_qp h.hands) (wl_la hm h).sm
theorem wl_spl {m : Nat} (hm : m ≤ 6) {l : La} (h : LaOk m l) (k : Nat) {x : D} (hx : Sm 1 2000 x) : Wl (.tuple (spl (l.works.map wkD) k x)) := by
  refine ⟨_, rfl, ?_, fun w hw => ?_⟩
  · have := spl_len (l.works.map wkD) k x
    simp only [List.length_map, h.len] at this
    omega
  · rcases spl_mem hw with hw | rfl
    · exact sm_wk h w hw
    · exact hx
/-! ### the lists -/
def nF6 (Ls : List D) (L0 dp : D) : List D := [.list Ls, .none, .tuple [], .dict [], L0, dp, .tuple (Ls ++ [.none]), .tuple (cutL (rep 7 Ls) none (some 6)), .tuple (cutL (rep 7 Ls) none (some 7))]
def nNews (H : D) (W : List D) (n g : Nat) : List D :=
  ([.tuple [H], .tuple [H, .tuple W, .int 0], .list [H, .tuple W], .tuple [H, .list W], .tuple [.tuple W, H], .tuple [H, .tuple []], .none] ++
  [.tuple [H, .tuple (W ++ cutL W none (some 1))], .tuple [H, .tuple (cutL W none (some (-1)))], .tuple [H, .tuple (rep n [.none])], .tuple [H, .tuple (rep 7 W)]]) ++
  odds.map (fun o => .tuple [o, .tuple W]) ++ odds.map (fun o => .tuple [H, .tuple (spl W g o)])
theorem nNews_ok {m : Nat} (hm : m ≤ 6) {l : La} (h : LaOk m l) (g : Nat) : ∀ d ∈ nNews (qD l.hands) (l.works.map wkD) m g, Nw d := by
  have hl : (l.works.map wkD).length ≤ 6 := by simp; have := h.len; omega
  have hH := sm_qp h.hands
  have hW := sm_wk h
  have pr : ∀ ws : List D, ws.length ≤ 42 → (∀ w ∈ ws, Sm 1 2000 w) → Nw (.tuple [qD l.hands, .tuple ws]) := fun ws h1 h2 => nw_pair hH (Wl.sm ⟨ws, rfl, h1, h2⟩)
  have hWs : Sm 2 90000 (.tuple (l.works.map wkD)) := (wl_la hm h).sm
  have hH2 : Sm 2 90000 (qD l.hands) := hH.mono (by decide) (by decide)
  intro d hd
  unfold nNews at hd
  rcases List.mem_append.mp hd with hd | hd
  · rcases List.mem_append.mp hd with hd | hd
    · simp only [List.mem_append, List.mem_cons, List.not_mem_nil, or_false] at hd
      rcases hd with (rfl | rfl | rfl | rfl | rfl | rfl | rfl) | (rfl | rfl | rfl | rfl)
      · exact nw_tup (fun e he => by rw [List.mem_singleton] at he; subst he; exact hH2) (by simp)
      · exact nw_tup (fun e he => by
          simp only [List.mem_cons, List.not_mem_nil, or_false] at he
          rcases he with rfl | rfl | rfl
          · exact hH2
          · exact hWs
          · exact (sm_int (by decide)).mono (by decide) (by decide)) (by simp)
      · exact nw_lst (fun e he => by
          simp only [List.mem_cons, List.not_mem_nil, or_false] at he
          rcases he with rfl | rfl
          · exact hH2
          · exact hWs) (by simp)
      · exact nw_pair hH ((Sm.lst (c := 6) hW hl (by decide)).mono (by decide) (by decide))
      · exact nw_tup (fun e he => by
          simp only [List.mem_cons, List.not_mem_nil, or_false] at he
          rcases he with rfl | rfl
          · exact hWs
          · exact hH2) (by simp)
      · exact pr [] (by simp) (fun w hw => by simp at hw)
      · exact nw_none
      · exact pr _ (by have := cutL_len (l.works.map wkD) none (some 1); rw [List.length_append]; omega) (fun w hw => by
          rcases List.mem_append.mp hw with hw | hw
          · exact hW w hw
          · exact hW w (cutL_mem hw))
      · exact pr _ (by have := cutL_len (l.works.map wkD) none (some (-1)); omega) (fun w hw => hW w (cutL_mem hw))
      · exact pr _ (by rw [rep_len]; simp; omega) (fun w hw => by
          have := rep_mem hw
          rw [List.mem_singleton] at this
          subst this
          exact sm_none.mono (by decide) (by decide))
      · exact pr _ (by rw [rep_len]; omega) (fun w hw => hW w (rep_mem hw))
    · obtain ⟨o, ho, rfl⟩ := List.mem_map.mp hd
      exact nw_pair (odds_sm o ho) hWs
  · obtain ⟨o, ho, rfl⟩ := List.mem_map.mp hd
    exact nw_pair hH (wl_spl hm h g (odds_sm o ho)).sm
def nAll (Ls : List D) (L0 dp : D) (k : Nat) (news : List D) (bare w6 w7 : D) : List D := nF6 Ls L0 dp ++ news.map (fun n => .tuple (spl Ls k n)) ++ [bare, w6, w7]
theorem nAll_ok {m : Nat} {ls : List La} (h : LsOk m ls) {L0 dp : D} (h0 : L0 ∈ ls.map laD) (hdp : Sm 50 850 dp) (k : Nat) {news : List D} (hn : ∀ d ∈ news, Nw d) {bare w6 w7 : D} (t1 : Tg bare) (t2 : Tg w6) (t3 : Tg w7) :
    ∀ d ∈ nAll (ls.map laD) L0 dp k news bare w6 w7, Tg d := by
  have hhi := h.hi
  have hl : (ls.map laD).length ≤ 6 := by simp; omega
  have hL : ∀ d ∈ ls.map laD, Nw d := fun d hd => by
    obtain ⟨l, hl, rfl⟩ := List.mem_map.mp hd
    exact nw_la h.mhi (h.ok l hl)
  intro d hd
  unfold nAll nF6 at hd
  simp only [List.mem_append, List.mem_cons, List.not_mem_nil, or_false] at hd
  rcases hd with ((rfl | rfl | rfl | rfl | rfl | rfl | rfl | rfl | rfl) | hd) | (rfl | rfl | rfl)
  · exact ld_lst hL (by omega)
  · exact sm_none.tg (by decide) (by decide)
  · exact ld_tup (ds := []) (fun d hd => by simp at hd) (by simp)
  · exact tg_dict
  · exact (hL _ h0).tg (by decide) (by decide)
  · exact hdp.tg (by decide) (by decide)
  · exact ld_tup (fun d hd => by
      rcases List.mem_append.mp hd with hd | hd
      · exact hL d hd
      · rw [List.mem_singleton] at hd; subst hd; exact nw_none) (by simp; omega)
  · exact ld_tup (fun d hd => hL d (rep_mem (cutL_mem hd))) (by have := cutL_len (rep 7 (ls.map laD)) none (some 6); rw [rep_len] at this; omega)
  · exact ld_tup (fun d hd => hL d (rep_mem (cutL_mem hd))) (by have := cutL_len (rep 7 (ls.map laD)) none (some 7); rw [rep_len] at this; omega)
  · obtain ⟨n, hn', rfl⟩ := List.mem_map.mp hd
    exact ld_tup (fun d hd => by
      rcases spl_mem hd with hd | rfl
      · exact hL d hd
      · exact hn _ hn') (by have := spl_len (ls.map laD) k n; omega)
  · exact t1
  · exact t2
  · exact t3
end K64
set_option Elab.async false
set_option linter.all false
set_option maxRecDepth 100000
namespace K64
open PySem Dl
theorem app_data {i : Nat} {f : Fe} {g : G} {ds : List D} {d : D} (e1 : g[i]? = some (.own none ds)) (e : f g = some (d, g)) (hl : ds.length < 1000000) : sEx (eApp i (vE f)) g = some (.nx (g.set i (.own none (ds ++ [d])))) :=
  ex_of (app_of (t := none) (ds0 := ds) (by rw [e1]; rfl) (eV_v (vE_of e)) e1 hl)
/-- a loop that gathers into a slot -/
theorem gather {iv io : Nat} {f : Fe} (hne : iv ≠ io) (h : D → D) : ∀ (ds : List D) (acc : List D) (g : G), g[io]? = some (.own none acc) → iv < g.length → acc.length + ds.length ≤ 1000 →
    (∀ d ∈ ds, ∀ (g' : G), (∀ j, j ≠ iv → j ≠ io → g'[j]? = g[j]?) → g'.length = g.length → g'[iv]? = some (.v d) → (∃ acc', g'[io]? = some (.own none acc')) → f g' = some (h d, g')) →
    ∃ g', forGo (gVar iv) (sEx (eApp io (vE f))) ds g = some (.nx g') ∧ g'[io]? = some (.own none (acc ++ ds.map h)) ∧ g'.length = g.length ∧ ∀ j, j ≠ iv → j ≠ io → g'[j]? = g[j]?
  | [], acc, g, e, hi, _, _ => ⟨g, rfl, by simpa using e, rfl, fun _ _ _ => rfl⟩
  | d :: ds, acc, g, e, hi, hl, H => by
    simp only [List.length_cons] at hl
    have hio := (List.getElem?_eq_some_iff.mp e).1
    have e2 : (g.set iv (.v d))[io]? = some (.own none acc) := by rw [List.getElem?_set_ne hne]; exact e
    have k1 := H d (by simp) (g.set iv (.v d)) (fun j h1 h2 => by rw [List.getElem?_set_ne (Ne.symm h1)]) (by simp) (List.getElem?_set_self hi) ⟨acc, e2⟩
    have k2 := app_data e2 k1 (by omega)
    obtain ⟨g', r1, r2, r3, r4⟩ := gather hne h ds (acc ++ [h d]) ((g.set iv (.v d)).set io (.own none (acc ++ [h d]))) (List.getElem?_set_self (by simpa using hio)) (by simpa using hi) (by simp; omega) (fun x hx g' q1 q2 q3 q4 => H x (List.mem_cons_of_mem _ hx) g' (fun j h1 h2 => by rw [q1 j h1 h2, List.getElem?_set_ne (Ne.symm h2), List.getElem?_set_ne (Ne.symm h1)]) (by rw [q2]; simp) q3 q4)
    refine ⟨g', ?_, by rw [r2]; simp, by rw [r3]; simp, fun j h1 h2 => by rw [r4 j h1 h2, List.getElem?_set_ne (Ne.symm h2), List.getElem?_set_ne (Ne.symm h1)]⟩
    have tg : gVar iv d g = some (g.set iv (.v d)) := rfl
    rw [forGo, tg]
    simp only [Option.bind_some]
    rw [k2]
    exact r1
theorem wide_ok {m : Nat} {ls : List La} (h : LsOk m ls) (c : Int) {g : G} (h1 : g[1]? = some (.v (lsD ls))) (h12 : g[12]? = some .no) (h13 : g[13]? = some .no) :
    eUn tupD (eV (vLc (iSeq (eVar 1)) (gTup (gsCons (gVar 12) (gsCons (gVar 13) gsNil)) 2) cYes (eTup (aCons (eVar 12) (aCons (eSlU (eBin repTD (eVar 13) (eC (.int 7))) oNone (oSome (eC (.int c)))) aNil))) [12, 13])) g =
      some (.tuple (ls.map fun l => .tuple [qD l.hands, .tuple (cutL (rep 7 (l.works.map wkD)) none (some c))]), g) := by
  have hhi := h.hi
  have i12 := (List.getElem?_eq_some_iff.mp h12).1
  have i13 := (List.getElem?_eq_some_iff.mp h13).1
  have w : wipeG g [12, 13] = g := by
    obtain ⟨_, e1⟩ := List.getElem?_eq_some_iff.mp h12
    obtain ⟨_, e2⟩ := List.getElem?_eq_some_iff.mp h13
    show (g.set 13 .no).set 12 .no = g
    have a : g.set 13 Sl.no = g := by rw [← e2, List.set_getElem_self]
    rw [a, ← e1, List.set_getElem_self]
  have b : backG g g [12, 13] = g := by
    have d1 : g.getD 12 .no = .no := by simp [List.getD_eq_getElem?_getD, h12]
    have d2 : g.getD 13 .no = .no := by simp [List.getD_eq_getElem?_getD, h13]
    show (g.set 13 (g.getD 13 .no)).set 12 (g.getD 12 .no) = g
    rw [d1, d2]
    exact w
  have ok : okW g [12, 13] = true := by
    unfold okW
    simp [h12, h13]
  have v := vLc_map (fi := iSeq (eVar 1)) (t := gTup (gsCons (gVar 12) (gsCons (gVar 13) gsNil)) 2) (c := cYes) (f := eTup (aCons (eVar 12) (aCons (eSlU (eBin repTD (eVar 13) (eC (.int 7))) oNone (oSome (eC (.int c)))) aNil))) (vs := [12, 13]) (g := g) (g0 := g) (xs := ls) laD (fun l => .tuple [qD l.hands, .tuple (cutL (rep 7 (l.works.map wkD)) none (some c))]) (iSeq_of (f := eVar 1) (d := lsD ls) (by unfold eVar; rw [h1]) rfl) ok (by omega) (fun l hl => by
    have ho := h.ok l hl
    rw [w]
    have hlen := ho.len
    have hm := h.mlo
    have hm6 := h.mhi
    refine ⟨(g.set 12 (.v (qD l.hands))).set 13 (.v (.tuple (l.works.map wkD))), (g.set 12 (.v (qD l.hands))).set 13 (.v (.tuple (l.works.map wkD))), rfl, rfl, ?_, ?_⟩
    · have x12 : eVar 12 ((g.set 12 (.v (qD l.hands))).set 13 (.v (.tuple (l.works.map wkD)))) = some (qD l.hands, (g.set 12 (.v (qD l.hands))).set 13 (.v (.tuple (l.works.map wkD)))) := by
        unfold eVar
        rw [List.getElem?_set_ne (by decide), List.getElem?_set_self i12]
      have x13 : eVar 13 ((g.set 12 (.v (qD l.hands))).set 13 (.v (.tuple (l.works.map wkD)))) = some (.tuple (l.works.map wkD), (g.set 12 (.v (qD l.hands))).set 13 (.v (.tuple (l.works.map wkD)))) := by
        unfold eVar
        rw [List.getElem?_set_self (by simpa using i13)]
      have rp := repT_of (ds := l.works.map wkD) (n := 7) (by decide) (by decide) (by
        intro z
        have : (l.works.map wkD).length = 0 := by rw [z]; rfl
        simp at this
        rw [this] at hlen
        simp at hlen
        omega) (by simp; omega)
      exact eTup_of (ar_cons x12 (ar_cons (eSlU_of (eBin_of (h := eC (.int 7)) x13 rfl rp) rfl (oSome_of rfl)) ar_nil))
    · show (((g.set 12 (.v (qD l.hands))).set 13 (.v (.tuple (l.works.map wkD)))).set 13 .no).set 12 .no = g
      rw [List.set_set, List.set_comm _ _ (by decide), List.set_set]
      rw [List.set_comm _ _ (by decide)]
      exact w)
  rw [w, b] at v
  exact eUn_of (eV_o v) rfl
theorem bare_ok {m : Nat} {ls : List La} (h : LsOk m ls) (k : Nat) {g : G} (h1 : g[1]? = some (.v (lsD ls))) (h5 : g[5]? = some (.v (.int (k : Nat)))) (h12 : g[12]? = some .no) (h13 : g[13]? = some .no) :
    eUn tupD (eV (vLc (iSeq (eVar 1)) (gTup (gsCons (gVar 12) (gsCons (gVar 13) gsNil)) 2) cYes (eTup (aCons (eVar 12) (aCons (eBin addA (eBin addA (eSlU (eVar 13) oNone (oSome (eVar 5))) (eTup (aCons (eC .none) aNil))) (eSlU (eVar 13) (oSome (eBin addA (eVar 5) (eC (.int 1)))) oNone)) aNil))) [12, 13])) g =
      some (.tuple (ls.map fun l => .tuple [qD l.hands, .tuple (spl (l.works.map wkD) k .none)]), g) := by
  have hhi := h.hi
  have i12 := (List.getElem?_eq_some_iff.mp h12).1
  have i13 := (List.getElem?_eq_some_iff.mp h13).1
  have w : wipeG g [12, 13] = g := by
    obtain ⟨_, e1⟩ := List.getElem?_eq_some_iff.mp h12
    obtain ⟨_, e2⟩ := List.getElem?_eq_some_iff.mp h13
    show (g.set 13 .no).set 12 .no = g
    have a : g.set 13 Sl.no = g := by rw [← e2, List.set_getElem_self]
    rw [a, ← e1, List.set_getElem_self]
  have b : backG g g [12, 13] = g := by
    have d1 : g.getD 12 .no = .no := by simp [List.getD_eq_getElem?_getD, h12]
    have d2 : g.getD 13 .no = .no := by simp [List.getD_eq_getElem?_getD, h13]
    show (g.set 13 (g.getD 13 .no)).set 12 (g.getD 12 .no) = g
    rw [d1, d2]
    exact w
  have ok : okW g [12, 13] = true := by
    unfold okW
    simp [h12, h13]
  have v := vLc_map (fi := iSeq (eVar 1)) (t := gTup (gsCons (gVar 12) (gsCons (gVar 13) gsNil)) 2) (c := cYes) (f := eTup (aCons (eVar 12) (aCons (eBin addA (eBin addA (eSlU (eVar 13) oNone (oSome (eVar 5))) (eTup (aCons (eC .none) aNil))) (eSlU (eVar 13) (oSome (eBin addA (eVar 5) (eC (.int 1)))) oNone)) aNil))) (vs := [12, 13]) (g := g) (g0 := g) (xs := ls) laD (fun l => .tuple [qD l.hands, .tuple (spl (l.works.map wkD) k .none)]) (iSeq_of (f := eVar 1) (d := lsD ls) (by unfold eVar; rw [h1]) rfl) ok (by omega) (fun l hl => by
    have ho := h.ok l hl
    rw [w]
    have hlen := ho.len
    have hm6 := h.mhi
    refine ⟨(g.set 12 (.v (qD l.hands))).set 13 (.v (.tuple (l.works.map wkD))), (g.set 12 (.v (qD l.hands))).set 13 (.v (.tuple (l.works.map wkD))), rfl, rfl, ?_, ?_⟩
    · have x12 : eVar 12 ((g.set 12 (.v (qD l.hands))).set 13 (.v (.tuple (l.works.map wkD)))) = some (qD l.hands, (g.set 12 (.v (qD l.hands))).set 13 (.v (.tuple (l.works.map wkD)))) := by
        unfold eVar
        rw [List.getElem?_set_ne (by decide), List.getElem?_set_self i12]
      have x13 : eVar 13 ((g.set 12 (.v (qD l.hands))).set 13 (.v (.tuple (l.works.map wkD)))) = some (.tuple (l.works.map wkD), (g.set 12 (.v (qD l.hands))).set 13 (.v (.tuple (l.works.map wkD)))) := by
        unfold eVar
        rw [List.getElem?_set_self (by simpa using i13)]
      have x5 : eVar 5 ((g.set 12 (.v (qD l.hands))).set 13 (.v (.tuple (l.works.map wkD)))) = some (.int (k : Nat), (g.set 12 (.v (qD l.hands))).set 13 (.v (.tuple (l.works.map wkD)))) := by
        unfold eVar
        rw [List.getElem?_set_ne (by decide), List.getElem?_set_ne (by decide), h5]
      exact eTup_of (ar_cons x12 (ar_cons (spl_ofC x13 x5 (by simp; omega)) ar_nil))
    · show (((g.set 12 (.v (qD l.hands))).set 13 (.v (.tuple (l.works.map wkD)))).set 13 .no).set 12 .no = g
      rw [List.set_set, List.set_comm _ _ (by decide), List.set_set]
      rw [List.set_comm _ _ (by decide)]
      exact w)
  rw [w, b] at v
  exact eUn_of (eV_o v) rfl
end K64
set_option Elab.async false
set_option linter.all false
set_option maxRecDepth 100000
namespace K64
open PySem Dl
theorem ne_row {m : Nat} {l : La} (h : LaOk m l) (hm : 1 ≤ m) : l.works.map wkD ≠ [] := fun z => by
  have : (l.works.map wkD).length = 0 := by rw [z]; rfl
  simp at this
  have h2 := h.len
  rw [this] at h2
  simp at h2
  omega
theorem ev_of {i : Nat} {g : G} {d : D} (h : g[i]? = some (.v d)) : eVar i g = some (d, g) := by
  unfold eVar
  rw [h]
theorem ev_own {i : Nat} {g : G} {ds : List D} (h : g[i]? = some (.own none ds)) : eVar i g = some (.list ds, g.set i (.v (.list ds))) := by
  unfold eVar
  rw [h]
theorem lands_near_ok {es : List D} {m : Nat} {ls : List La} (hH : Hand es) (h : LsOk m ls) : ∃ (ds es' : List D), m__law_lands_near es [lsD ls] = some (.own none ds, es') ∧ (∀ d ∈ ds, Tg d) ∧ ds.length ≤ 1000 ∧ Hand es' := by
  have hlo := h.lo
  have hhi := h.hi
  have hm := h.mlo
  have hm6 := h.mhi
  obtain ⟨x, es1, e1, hx0, hx1, H1⟩ := draw_ok hH (m := (ls.length : Nat)) (by omega) (by omega)
  obtain ⟨k, rfl⟩ := Int.eq_ofNat_of_zero_le hx0
  have hk : k < ls.length := by omega
  obtain ⟨l, hl⟩ : ∃ l, ls[k]? = some l := ⟨ls[k], List.getElem?_eq_getElem hk⟩
  have lo := h.ok l (List.mem_of_getElem? hl)
  have hlen := lo.len
  obtain ⟨y, es2, e2, hy0, hy1, H2⟩ := draw_ok H1 (m := (l.works.length : Nat)) (by omega) (by omega)
  obtain ⟨gd, rfl⟩ := Int.eq_ofNat_of_zero_le hy0
  obtain ⟨dp, es3, e3, sdp, H3⟩ := deep_ok H2
  obtain ⟨l0, hl0⟩ : ∃ l0, ls[0]? = some l0 := ⟨ls[0], List.getElem?_eq_getElem (by omega)⟩
  obtain ⟨Ls, hLs⟩ : ∃ Ls, Ls = ls.map laD := ⟨_, rfl⟩
  obtain ⟨W, hW⟩ : ∃ W, W = l.works.map wkD := ⟨_, rfl⟩
  obtain ⟨Hd, hHd⟩ : ∃ Hd, Hd = qD l.hands := ⟨_, rfl⟩
  have lLs : Ls.length = ls.length := by rw [hLs]; simp
  have lW : W.length = m := by rw [hW]; simp [hlen]
  have neW : W ≠ [] := by rw [hW]; exact ne_row lo hm
  have neL : Ls ≠ [] := fun z => by rw [z] at lLs; simp at lLs; omega
  obtain ⟨bare, hbare⟩ : ∃ b : D, b = .tuple (ls.map fun l => .tuple [qD l.hands, .tuple (spl (l.works.map wkD) gd .none)]) := ⟨_, rfl⟩
  obtain ⟨w6, hw6⟩ : ∃ b : D, b = .tuple (ls.map fun l => .tuple [qD l.hands, .tuple (cutL (rep 7 (l.works.map wkD)) none (some 6))]) := ⟨_, rfl⟩
  obtain ⟨w7, hw7⟩ : ∃ b : D, b = .tuple (ls.map fun l => .tuple [qD l.hands, .tuple (cutL (rep 7 (l.works.map wkD)) none (some 7))]) := ⟨_, rfl⟩
  have tb : Tg bare := by
    rw [hbare]
    refine ld_tup (fun d hd => ?_) (by simp; omega)
    obtain ⟨l, hl, rfl⟩ := List.mem_map.mp hd
    exact nw_pair (sm_qp (h.ok l hl).hands) (wl_spl hm6 (h.ok l hl) gd (sm_none.mono (by decide) (by decide))).sm
  have tw : ∀ c : Int, Tg (.tuple (ls.map fun l => .tuple [qD l.hands, .tuple (cutL (rep 7 (l.works.map wkD)) none (some c))])) := fun c => by
    refine ld_tup (fun d hd => ?_) (by simp; omega)
    obtain ⟨l, hl, rfl⟩ := List.mem_map.mp hd
    refine nw_pair (sm_qp (h.ok l hl).hands) (Wl.sm ⟨_, rfl, ?_, fun w hw => sm_wk (h.ok l hl) w (rep_mem (cutL_mem hw))⟩)
    have := cutL_len (rep 7 (l.works.map wkD)) none (some c)
    rw [rep_len] at this
    simp [(h.ok l hl).len] at this
    omega
  refine ⟨nAll Ls (laD l0) dp k (nNews Hd W m gd) bare w6 w7, es3, ?_, ?_, ?_, H3⟩
  · unfold m__law_lands_near
    refine fnI_ret fun a => ?_
    obtain ⟨L, hL⟩ : ∃ L : D, L = .tuple Ls := ⟨_, rfl⟩
    have eL : lsD ls = L := by rw [hL, hLs]; rfl
    have x0 : ([.own (some a) es] ++ [Sl.v L] : G) ++ List.replicate 12 .no = [.own (some a) es, .v L, .no, .no, .no, .no, .no, .no, .no, .no, .no, .no, .no, .no] := rfl
    have c1 : eCallI m__law_draw 0 (aCons (eUn lenD (bVar 1)) aNil) [.own (some a) es, .v L, .no, .no, .no, .no, .no, .no, .no, .no, .no, .no, .no, .no] = some (.v (.int (k : Nat)), [.own (some a) es1, .v L, .no, .no, .no, .no, .no, .no, .no, .no, .no, .no, .no, .no]) :=
      callI_of (i := 0) (t := some a) (g1 := [.own (some a) es, .v L, .no, .no, .no, .no, .no, .no, .no, .no, .no, .no, .no, .no]) rfl (ar_cons (eUn_of (f := bVar 1) rfl (show lenD L = some (.int (ls.length : Nat)) from by rw [hL]; simp [lenD, lLs])) ar_nil) rfl e1
    have s1 := set_v (i := 2) c1
    have p1 : eIxV 1 (eVar 2) [.own (some a) es1, .v L, .v (.int (k : Nat)), .no, .no, .no, .no, .no, .no, .no, .no, .no, .no, .no] = some (.tuple [Hd, .tuple W], [.own (some a) es1, .v L, .v (.int (k : Nat)), .no, .no, .no, .no, .no, .no, .no, .no, .no, .no, .no]) :=
      ixV_v (f := eVar 2) rfl rfl rfl (by rw [hL, hLs, hHd, hW]; exact atD_map (f := laD) hl)
    have s2 : sAsg (eIxV 1 (eVar 2)) (gTup (gsCons (gVar 3) (gsCons (gVar 4) gsNil)) 2) [.own (some a) es1, .v L, .v (.int (k : Nat)), .no, .no, .no, .no, .no, .no, .no, .no, .no, .no, .no] = some (.nx [.own (some a) es1, .v L, .v (.int (k : Nat)), .v Hd, .v (.tuple W), .no, .no, .no, .no, .no, .no, .no, .no, .no]) := asg_of p1 rfl
    have c3 : eCallI m__law_draw 0 (aCons (eUn lenD (bVar 4)) aNil) [.own (some a) es1, .v L, .v (.int (k : Nat)), .v Hd, .v (.tuple W), .no, .no, .no, .no, .no, .no, .no, .no, .no] = some (.v (.int (gd : Nat)), [.own (some a) es2, .v L, .v (.int (k : Nat)), .v Hd, .v (.tuple W), .no, .no, .no, .no, .no, .no, .no, .no, .no]) :=
      callI_of (i := 0) (t := some a) (g1 := [.own (some a) es1, .v L, .v (.int (k : Nat)), .v Hd, .v (.tuple W), .no, .no, .no, .no, .no, .no, .no, .no, .no]) rfl (ar_cons (eUn_of (f := bVar 4) rfl (show lenD (.tuple W) = some (.int (l.works.length : Nat)) from by simp [lenD, lW, hlen])) ar_nil) rfl e2
    have s3 := set_v (i := 5) c3
    -- the things of the first list
    obtain ⟨G2, hG2⟩ : ∃ G2 : G, G2 = [.own (some a) es2, .v L, .v (.int (k : Nat)), .v Hd, .v (.tuple W), .v (.int (gd : Nat)), .no, .no, .no, .no, .no, .no, .no, .no] := ⟨_, rfl⟩
    obtain ⟨G3, hG3⟩ : ∃ G3 : G, G3 = [.own (some a) es3, .v L, .v (.int (k : Nat)), .v Hd, .v (.tuple W), .v (.int (gd : Nat)), .no, .no, .no, .no, .no, .no, .no, .no] := ⟨_, rfl⟩
    have s3' : sSet 5 (eCallI m__law_draw 0 (aCons (eUn lenD (bVar 4)) aNil)) [.own (some a) es1, .v L, .v (.int (k : Nat)), .v Hd, .v (.tuple W), .no, .no, .no, .no, .no, .no, .no, .no, .no] = some (.nx G2) := by rw [hG2]; exact s3
    have cd : eV (eCallI m__law_deep 0 aNil) G2 = some (dp, G3) := by
      rw [hG2, hG3]
      exact eV_v (callI_of (i := 0) (t := some a) (g1 := [.own (some a) es2, .v L, .v (.int (k : Nat)), .v Hd, .v (.tuple W), .v (.int (gd : Nat)), .no, .no, .no, .no, .no, .no, .no, .no]) rfl ar_nil rfl e3)
    have f1 : eV (v1 seqD (bVar 1)) G2 = some (.list Ls, G2) := eV_o (v1_of (d := L) (by rw [hG2]; rfl) (by rw [hL]; rfl))
    have f5 : eIxV 1 (eC (.int 0)) G2 = some (laD l0, G2) := by
      rw [hG2]
      exact ixV_v rfl rfl rfl (by rw [hL, hLs]; exact atD_map (f := laD) (i := 0) hl0)
    have v1 : eVar 1 G3 = some (.tuple Ls, G3) := by rw [hG3, ← hL]; rfl
    have f7 : eBin addA (eVar 1) (eTup (aCons (eC .none) aNil)) G3 = some (.tuple (Ls ++ [.none]), G3) := eBin_of v1 (eTup_of (ar_cons (f := eC .none) rfl ar_nil)) (addA_cat (by simp; omega))
    have rp := repT_of (ds := Ls) (n := 7) (by decide) (by decide) neL (by omega)
    have f8 : ∀ c : Int, eSlU (eBin repTD (eVar 1) (eC (.int 7))) oNone (oSome (eC (.int c))) G3 = some (.tuple (cutL (rep 7 Ls) none (some c)), G3) := fun c => eSlU_of (eBin_of (h := eC (.int 7)) v1 rfl rp) rfl (oSome_of rfl)
    have s4 := set_o (i := 6) (vLst_of (ar_cons f1 (ar_cons (f := eC .none) rfl (ar_cons (eTup_of ar_nil) (ar_cons (f := eC (.dict [])) rfl (ar_cons f5 (ar_cons cd (ar_cons f7 (ar_cons (f8 6) (ar_cons (f8 7) ar_nil))))))))))
    -- news
    obtain ⟨F6, hF6⟩ : ∃ F6, F6 = nF6 Ls (laD l0) dp := ⟨_, rfl⟩
    obtain ⟨G4, hG4⟩ : ∃ G4 : G, G4 = [.own (some a) es3, .v L, .v (.int (k : Nat)), .v Hd, .v (.tuple W), .v (.int (gd : Nat)), .own none F6, .no, .no, .no, .no, .no, .no, .no] := ⟨_, rfl⟩
    have s4' : sSet 6 (vLst (aCons (eV (Dl.v1 seqD (bVar 1))) (aCons (eC .none) (aCons (eTup aNil) (aCons (eC (.dict [])) (aCons (eIxV 1 (eC (.int 0))) (aCons (eV (eCallI m__law_deep 0 aNil)) (aCons (eBin addA (eVar 1) (eTup (aCons (eC .none) aNil))) (aCons (eSlU (eBin repTD (eVar 1) (eC (.int 7))) oNone (oSome (eC (.int 6)))) (aCons (eSlU (eBin repTD (eVar 1) (eC (.int 7))) oNone (oSome (eC (.int 7)))) aNil)))))))))) G2 = some (.nx G4) := by
      rw [s4, hG4, hG3, hF6]
      rfl
    have y3 : eVar 3 G4 = some (Hd, G4) := by rw [hG4]; rfl
    have y4 : eVar 4 G4 = some (.tuple W, G4) := by rw [hG4]; rfl
    have y4b : eV (Dl.v1 seqD (bVar 4)) G4 = some (.list W, G4) := eV_o (v1_of (d := .tuple W) (by rw [hG4]; rfl) rfl)
    have s5 := set_o (i := 7) (vLst_of (ar_cons (eTup_of (ar_cons y3 ar_nil)) (ar_cons (eTup_of (ar_cons y3 (ar_cons y4 (ar_cons (f := eC (.int 0)) rfl ar_nil)))) (ar_cons (eV_o (vLst_of (ar_cons y3 (ar_cons y4 ar_nil)))) (ar_cons (eTup_of (ar_cons y3 (ar_cons y4b ar_nil))) (ar_cons (eTup_of (ar_cons y4 (ar_cons y3 ar_nil))) (ar_cons (eTup_of (ar_cons y3 (ar_cons (eTup_of ar_nil) ar_nil))) (ar_cons (f := eC .none) (g := G4) rfl ar_nil))))))))
    obtain ⟨N1, hN1⟩ : ∃ N1 : List D, N1 = [.tuple [Hd], .tuple [Hd, .tuple W, .int 0], .list [Hd, .tuple W], .tuple [Hd, .list W], .tuple [.tuple W, Hd], .tuple [Hd, .tuple []], .none] := ⟨_, rfl⟩
    rw [← hN1] at s5
    obtain ⟨G5, hG5⟩ : ∃ G5 : G, G5 = [.own (some a) es3, .v L, .v (.int (k : Nat)), .v Hd, .v (.tuple W), .v (.int (gd : Nat)), .own none F6, .v (.list N1), .no, .no, .no, .no, .no, .no] := ⟨_, rfl⟩
    have y7 : eVar 7 (G4.set 7 (.own none N1)) = some (.list N1, G5) := by rw [hG4, hG5]; rfl
    have u3 : eVar 3 G5 = some (Hd, G5) := by rw [hG5]; rfl
    have u4 : eVar 4 G5 = some (.tuple W, G5) := by rw [hG5]; rfl
    have u4n : eUn lenD (bVar 4) G5 = some (.int (m : Nat), G5) := eUn_of (d := .tuple W) (by rw [hG5]; rfl) (by simp [lenD, lW])
    have q1 : eBin addA (eVar 4) (eSlU (eVar 4) oNone (oSome (eC (.int 1)))) G5 = some (.tuple (W ++ cutL W none (some 1)), G5) := eBin_of u4 (eSlU_of u4 rfl (oSome_of rfl)) (addA_cat (by have := cutL_len W none (some 1); omega))
    have q2 : eSlU (eVar 4) oNone (oSome (eUn negD (eC (.int 1)))) G5 = some (.tuple (cutL W none (some (-1))), G5) := eSlU_of u4 rfl (oSome_of (eUn_of rfl rfl))
    have q3 : eBin repTD (eTup (aCons (eC .none) aNil)) (eUn lenD (bVar 4)) G5 = some (.tuple (rep m [.none]), G5) := eBin_of (eTup_of (ar_cons (f := eC .none) rfl ar_nil)) u4n (repT_of hm (by omega) (by simp) (by simp))
    have q4 : eBin repTD (eVar 4) (eC (.int 7)) G5 = some (.tuple (rep 7 W), G5) := eBin_of (h := eC (.int 7)) u4 rfl (repT_of (by decide) (by decide) neW (by omega))
    have s6 := set_o (i := 7) (vCatE_of y7 (eV_o (vLst_of (ar_cons (eTup_of (ar_cons u3 (ar_cons q1 ar_nil))) (ar_cons (eTup_of (ar_cons u3 (ar_cons q2 ar_nil))) (ar_cons (eTup_of (ar_cons u3 (ar_cons q3 ar_nil))) (ar_cons (eTup_of (ar_cons u3 (ar_cons q4 ar_nil))) ar_nil)))))) (by rw [hN1]; simp))
    obtain ⟨N2, hN2⟩ : ∃ N2 : List D, N2 = N1 ++ [.tuple [Hd, .tuple (W ++ cutL W none (some 1))], .tuple [Hd, .tuple (cutL W none (some (-1)))], .tuple [Hd, .tuple (rep m [.none])], .tuple [Hd, .tuple (rep 7 W)]] := ⟨_, rfl⟩
    rw [← hN2] at s6
    have lN2 : N2.length = 11 := by rw [hN2, hN1]; rfl
    obtain ⟨G6, hG6⟩ : ∃ G6 : G, G6 = [.own (some a) es3, .v L, .v (.int (k : Nat)), .v Hd, .v (.tuple W), .v (.int (gd : Nat)), .own none F6, .v (.list N2), .no, .no, .no, .no, .no, .no] := ⟨_, rfl⟩
    have z7 : eVar 7 (G5.set 7 (.own none N2)) = some (.list N2, G6) := by rw [hG5, hG6]; rfl
    have od : ∀ (g : G), g[0]? = some (.own (some a) es3) → eV (eCallI m__law_odd_fractions 0 aNil) g = some (.list odds, g) := fun g hg => by
      have c := callI_of (m := m__law_odd_fractions) (i := 0) (t := some a) (g := g) (g1 := g) (by rw [hg]; rfl) ar_nil hg (odds_ok es3)
      have e : g.set 0 (.own (some a) es3) = g := by
        obtain ⟨_, e⟩ := List.getElem?_eq_some_iff.mp hg
        rw [← e, List.set_getElem_self]
      rw [e] at c
      exact eV_o c
    have lc7 := vLc_map (fi := iSeq (eV (eCallI m__law_odd_fractions 0 aNil))) (t := gVar 8) (c := cYes) (f := eTup (aCons (eVar 8) (aCons (eVar 4) aNil))) (vs := [8]) (g := G6) (g0 := G6) (xs := odds) (fun d => d) (fun o => .tuple [o, .tuple W]) (by rw [List.map_id']; exact iSeq_of (od G6 (by rw [hG6]; rfl)) rfl) (by rw [hG6]; rfl) (by decide) (fun o ho => by
      rw [hG6]
      exact ⟨[.own (some a) es3, .v L, .v (.int (k : Nat)), .v Hd, .v (.tuple W), .v (.int (gd : Nat)), .own none F6, .v (.list N2), .v o, .no, .no, .no, .no, .no], [.own (some a) es3, .v L, .v (.int (k : Nat)), .v Hd, .v (.tuple W), .v (.int (gd : Nat)), .own none F6, .v (.list N2), .v o, .no, .no, .no, .no, .no], rfl, rfl, eTup_of (ar_cons (f := eVar 8) rfl (ar_cons (f := eVar 4) rfl ar_nil)), rfl⟩)
    have cb : backG G6 (wipeG G6 [8]) [8] = G6 := by rw [hG6]; rfl
    rw [cb] at lc7
    have s7 := set_o (i := 7) (vCatE_of z7 (eV_o lc7) (by rw [lN2]; simp [odds]))
    obtain ⟨N3, hN3⟩ : ∃ N3 : List D, N3 = N2 ++ odds.map (fun o => .tuple [o, .tuple W]) := ⟨_, rfl⟩
    rw [← hN3] at s7
    have lN3 : N3.length = 25 := by rw [hN3, List.length_append, lN2]; rfl
    obtain ⟨G7, hG7⟩ : ∃ G7 : G, G7 = G6.set 7 (.own none N3) := ⟨_, rfl⟩
    rw [← hG7] at s7
    have lG7 : G7.length = 14 := by rw [hG7, hG6]; rfl
    have g7at : ∀ j, j ≠ 7 → G7[j]? = G6[j]? := fun j hj => by rw [hG7, List.getElem?_set_ne (Ne.symm hj)]
    obtain ⟨G8, r8, a8, l8, k8⟩ := gather (iv := 8) (io := 7) (f := eTup (aCons (eVar 3) (aCons (eBin addA (eBin addA (eSlU (eVar 4) oNone (oSome (eVar 5))) (eTup (aCons (eVar 8) aNil))) (eSlU (eVar 4) (oSome (eBin addA (eVar 5) (eC (.int 1)))) oNone)) aNil))) (by decide) (fun o => .tuple [Hd, .tuple (spl W gd o)]) odds N3 G7 (by rw [hG7, hG6]; rfl) (by omega) (by rw [lN3]; decide) (fun d hd g' q1 q2 q3 _ => by
      have i3 : eVar 3 g' = some (Hd, g') := ev_of (by rw [q1 3 (by decide) (by decide), g7at 3 (by decide), hG6]; rfl)
      have i4 : eVar 4 g' = some (.tuple W, g') := ev_of (by rw [q1 4 (by decide) (by decide), g7at 4 (by decide), hG6]; rfl)
      have i5 : eVar 5 g' = some (.int (gd : Nat), g') := ev_of (by rw [q1 5 (by decide) (by decide), g7at 5 (by decide), hG6]; rfl)
      exact eTup_of (ar_cons i3 (ar_cons (spl_of i4 i5 (ev_of q3) (by omega)) ar_nil)))
    have s8 := for_of (iSeq_of (od G7 (by rw [g7at 0 (by decide), hG6]; rfl)) rfl) r8
    have hN4 : N3 ++ odds.map (fun o => .tuple [Hd, .tuple (spl W gd o)]) = nNews Hd W m gd := by rw [hN3, hN2, hN1]; rfl
    rw [hN4] at a8
    have lN4 : (nNews Hd W m gd).length = 39 := by rw [← hN4, List.length_append, lN3]; rfl
    -- found
    have k8' : ∀ j, j ≠ 8 → j ≠ 7 → G8[j]? = G6[j]? := fun j h1 h2 => by rw [k8 j h1 h2, g7at j h2]
    have it9 := iSeq_of (ev_own a8) rfl
    obtain ⟨G9, r9, a9, l9, k9⟩ := gather (iv := 9) (io := 6) (f := eBin addA (eBin addA (eSlU (eVar 1) oNone (oSome (eVar 2))) (eTup (aCons (eVar 9) aNil))) (eSlU (eVar 1) (oSome (eBin addA (eVar 2) (eC (.int 1)))) oNone)) (by decide) (fun n => .tuple (spl Ls k n)) (nNews Hd W m gd) F6 (G8.set 7 (.v (.list (nNews Hd W m gd)))) (by rw [List.getElem?_set_ne (by decide), k8' 6 (by decide) (by decide), hG6]; rfl) (by rw [List.length_set, l8, lG7]; decide) (by rw [lN4, hF6]; simp [nF6]) (fun d hd g' q1 q2 q3 _ => by
      have i1 : eVar 1 g' = some (.tuple Ls, g') := ev_of (by rw [q1 1 (by decide) (by decide), List.getElem?_set_ne (by decide), k8' 1 (by decide) (by decide), hG6, ← hL]; rfl)
      have i2 : eVar 2 g' = some (.int (k : Nat), g') := ev_of (by rw [q1 2 (by decide) (by decide), List.getElem?_set_ne (by decide), k8' 2 (by decide) (by decide), hG6]; rfl)
      exact spl_of i1 i2 (ev_of q3) (by omega))
    have s9 := for_of it9 r9
    have k9' : ∀ j, j ≠ 9 → j ≠ 6 → j ≠ 8 → j ≠ 7 → G9[j]? = G6[j]? := fun j h1 h2 h3 h4 => by rw [k9 j h1 h2, List.getElem?_set_ne (Ne.symm h4), k8' j h3 h4]
    have w1 : G9[1]? = some (.v (lsD ls)) := by rw [k9' 1 (by decide) (by decide) (by decide) (by decide), hG6, eL]; rfl
    have w5 : G9[5]? = some (.v (.int (gd : Nat))) := by rw [k9' 5 (by decide) (by decide) (by decide) (by decide), hG6]; rfl
    have w12 : G9[12]? = some .no := by rw [k9' 12 (by decide) (by decide) (by decide) (by decide), hG6]; rfl
    have w13 : G9[13]? = some .no := by rw [k9' 13 (by decide) (by decide) (by decide) (by decide), hG6]; rfl
    have bo := bare_ok h gd w1 w5 w12 w13
    rw [← hbare] at bo
    have s10 := set_v (i := 10) (vE_of bo)
    obtain ⟨G10, hG10⟩ : ∃ G10 : G, G10 = G9.set 10 (.v bare) := ⟨_, rfl⟩
    rw [← hG10] at s10
    have g10at : ∀ j, j ≠ 10 → G10[j]? = G9[j]? := fun j hj => by rw [hG10, List.getElem?_set_ne (Ne.symm hj)]
    have wo6 := wide_ok h 6 (g := G10) (by rw [g10at 1 (by decide)]; exact w1) (by rw [g10at 12 (by decide)]; exact w12) (by rw [g10at 13 (by decide)]; exact w13)
    rw [← hw6] at wo6
    have s11 := set_v (i := 11) (vE_of wo6)
    obtain ⟨G11, hG11⟩ : ∃ G11 : G, G11 = G10.set 11 (.v w6) := ⟨_, rfl⟩
    rw [← hG11] at s11
    have g11at : ∀ j, j ≠ 11 → j ≠ 10 → G11[j]? = G9[j]? := fun j h1 h2 => by rw [hG11, List.getElem?_set_ne (Ne.symm h1), g10at j h2]
    have l9' : G9.length = 14 := by rw [l9, List.length_set, l8, lG7]
    have b11 : G11[11]? = some (.v w6) := by rw [hG11, List.getElem?_set_self (by rw [hG10, List.length_set, l9']; decide)]
    have b10 : G11[10]? = some (.v bare) := by rw [hG11, List.getElem?_set_ne (by decide), hG10, List.getElem?_set_self (by rw [l9']; decide)]
    have b6 : G11[6]? = some (.own none (F6 ++ (nNews Hd W m gd).map fun n => .tuple (spl Ls k n))) := by rw [g11at 6 (by decide) (by decide)]; exact a9
    obtain ⟨G12, hG12⟩ : ∃ G12 : G, G12 = G11.set 6 (.v (.list (F6 ++ (nNews Hd W m gd).map fun n => .tuple (spl Ls k n)))) := ⟨_, rfl⟩
    have g12at : ∀ j, j ≠ 6 → G12[j]? = G11[j]? := fun j hj => by rw [hG12, List.getElem?_set_ne (Ne.symm hj)]
    have c6 := ev_own b6
    rw [← hG12] at c6
    have wo7 := wide_ok h 7 (g := G12) (by rw [g12at 1 (by decide), g11at 1 (by decide) (by decide)]; exact w1) (by rw [g12at 12 (by decide), g11at 12 (by decide) (by decide)]; exact w12) (by rw [g12at 13 (by decide), g11at 13 (by decide) (by decide)]; exact w13)
    rw [← hw7] at wo7
    have i10 : eVar 10 G12 = some (bare, G12) := ev_of (by rw [g12at 10 (by decide)]; exact b10)
    have i11 : eVar 11 G12 = some (w6, G12) := ev_of (by rw [g12at 11 (by decide)]; exact b11)
    have rt := ret_o (vCatE_of c6 (eV_o (vLst_of (ar_cons i10 (ar_cons i11 (ar_cons wo7 ar_nil))))) (by rw [hF6]; simp [nF6, lN4]))
    have fin : G12[0]? = some (.own (some a) es3) := by rw [g12at 0 (by decide), g11at 0 (by decide) (by decide), k9' 0 (by decide) (by decide) (by decide) (by decide), hG6]; rfl
    refine ⟨G12, ?_, fin⟩
    rw [hF6] at rt
    rw [eL]
    unfold b__law_lands_near
    exact seq_nx s1 (seq_nx s2 (seq_nx s3' (seq_nx s4' (seq_nx s5 (seq_nx s6 (seq_nx s7 (seq_nx s8 (seq_nx s9 (seq_nx s10 (seq_nx s11 rt))))))))))
  · rw [hLs, hHd, hW]
    exact nAll_ok h (List.mem_map.mpr ⟨l0, List.mem_of_getElem? hl0, rfl⟩) sdp k (nNews_ok hm6 lo gd) tb (hw6 ▸ tw 6) (hw7 ▸ tw 7)
  · simp [nAll, nF6, nNews, odds]
end K64
set_option Elab.async false
set_option linter.all false
set_option maxRecDepth 100000
namespace K64
open PySem Dl
theorem par_vo {i j : Nat} {f h : Fv} {g g1 g2 : G} {x : D} {y : List D} (e : f g = some (.v x, g1)) (e2 : h g1 = some (.own none y, g2)) : sPar i j f h g = some (.nx ((g2.set i (.v x)).set j (.own none y))) := by
  unfold sPar
  simp only [e, Option.bind_some, e2]
  rfl
theorem ten9 : powD (.int 10) (.int 9) = some (.int 1000000000) := by
  show (if (0 : Int) ≤ 9 ∧ (9 : Int) ≤ 1000000 ∧ Int.natAbs 10 < 2 ^ 64 then some (PyData.int (10 ^ (9 : Int).toNat)) else none) = _
  rw [if_pos (by decide)]
  rfl
theorem ten6 : powD (.int 10) (.int 6) = some (.int 1000000) := by
  show (if (0 : Int) ≤ 6 ∧ (6 : Int) ≤ 1000000 ∧ Int.natAbs 10 < 2 ^ 64 then some (PyData.int (10 ^ (6 : Int).toNat)) else none) = _
  rw [if_pos (by decide)]
  rfl
theorem q_mil : qD (Rat.divInt 1 1000000) = .tuple [.int 1, .int 1000000] := by rfl
theorem q_neg : qD (-1) = .tuple [.int (-1), .int 1] := by rfl
/-! ### sizes -/
theorem sm_row {ws : List D} (hl : ws.length ≤ 42) (h : ∀ w ∈ ws, Sm 1 2000 w) : Sm 2 90000 (.tuple ws) := Wl.sm ⟨ws, rfl, hl, h⟩
theorem sm_rowL {ws : List D} (hl : ws.length ≤ 42) (h : ∀ w ∈ ws, Sm 1 2000 w) : Sm 2 90000 (.list ws) := (Sm.lst h hl (by decide)).mono (by decide) (by decide)
theorem sh_tup {ds : List D} (h : ∀ d ∈ ds, Sm 2 90000 d) (hl : ds.length ≤ 42) : Tg (.tuple ds) := ((Sm.tup h hl (by decide)).mono (n' := 4) (k' := 13000000) (by decide) (by decide)).tg (by decide) (by decide)
theorem sh_lst {ds : List D} (h : ∀ d ∈ ds, Sm 2 90000 d) (hl : ds.length ≤ 42) : Tg (.list ds) := ((Sm.lst h hl (by decide)).mono (n' := 4) (k' := 13000000) (by decide) (by decide)).tg (by decide) (by decide)
def sF5 (Rs : List D) (dp : D) : List D := [.list Rs, .none, .tuple [], .tuple (cutL Rs none (some (-1))), .tuple (Rs ++ cutL Rs none (some 1)), .dict [], dp]
def sNews (R : List D) (g : Nat) (odd : List D) : List D := [.list R, .tuple (cutL R none (some (-1))), .tuple (R ++ [.tuple [.int 0, .int 1]]), .none, .tuple R.reverse] ++ odd.map (fun o => .tuple (spl R g o))
def sAll (Rs : List D) (dp : D) (k : Nat) (news : List D) : List D := sF5 Rs dp ++ news.map (fun n => .tuple (spl Rs k n))
theorem sNews_ok {R : List D} (hl : R.length ≤ 6) (h : ∀ w ∈ R, Sm 1 2000 w) (g : Nat) {odd : List D} (ho : ∀ o ∈ odd, Sm 1 2000 o) : ∀ d ∈ sNews R g odd, Sm 2 90000 d := by
  intro d hd
  unfold sNews at hd
  simp only [List.mem_append, List.mem_cons, List.not_mem_nil, or_false] at hd
  rcases hd with (rfl | rfl | rfl | rfl | rfl) | hd
  · exact sm_rowL (by omega) h
  · exact sm_row (by have := cutL_len R none (some (-1)); omega) fun w hw => h w (cutL_mem hw)
  · exact sm_row (by simp; omega) fun w hw => by
      rcases List.mem_append.mp hw with hw | hw
      · exact h w hw
      · rw [List.mem_singleton] at hw
        subst hw
        exact odds_sm _ (by simp [odds])
  · exact sm_none.mono (by decide) (by decide)
  · exact sm_row (by simp; omega) fun w hw => h w (List.mem_reverse.mp hw)
  · obtain ⟨o, ho', rfl⟩ := List.mem_map.mp hd
    exact sm_row (by have := spl_len R g o; omega) fun w hw => by
      rcases spl_mem hw with hw | rfl
      · exact h w hw
      · exact ho _ ho'
theorem sAll_ok {Rs : List D} (hl : Rs.length ≤ 6) (h : ∀ w ∈ Rs, Sm 2 90000 w) {dp : D} (hdp : Sm 50 850 dp) (k : Nat) {news : List D} (hn : ∀ o ∈ news, Sm 2 90000 o) : ∀ d ∈ sAll Rs dp k news, Tg d := by
  intro d hd
  unfold sAll sF5 at hd
  simp only [List.mem_append, List.mem_cons, List.not_mem_nil, or_false] at hd
  rcases hd with (rfl | rfl | rfl | rfl | rfl | rfl | rfl) | hd
  · exact sh_lst h (by omega)
  · exact sm_none.tg (by decide) (by decide)
  · exact sh_tup (ds := []) (fun d hd => by simp at hd) (by simp)
  · exact sh_tup (fun w hw => h w (cutL_mem hw)) (by have := cutL_len Rs none (some (-1)); omega)
  · exact sh_tup (fun w hw => by
      rcases List.mem_append.mp hw with hw | hw
      · exact h w hw
      · exact h w (cutL_mem hw)) (by have := cutL_len Rs none (some 1); rw [List.length_append]; omega)
  · exact tg_dict
  · exact hdp.tg (by decide) (by decide)
  · obtain ⟨n, hn', rfl⟩ := List.mem_map.mp hd
    exact sh_tup (fun w hw => by
      rcases spl_mem hw with hw | rfl
      · exact h w hw
      · exact hn _ hn') (by have := spl_len Rs k n; omega)
theorem B0.sub' {j k : Nat} {r s : Rat} (hr : B0 j r) (hs : B0 k s) : B0 (j + (1 + k) + 1) (r + -1 * s) := hr.add ((show B0 1 (-1) from ⟨by decide, by decide⟩).mul hs)
theorem sharings_near_ok {es : List D} {m : Nat} {ls : List La} {rows : List (List Rat)} (hH : Hand es) (h : LsOk m ls) (hs : ShOk m ls rows) (hr : ∀ p ∈ ls.zip rows, RowOk m p.1 p.2) : ∃ (ds es' : List D), m__law_sharings_near es [lsD ls, shD rows] = some (.own none ds, es') ∧ (∀ d ∈ ds, Tg d) ∧ ds.length ≤ 1000 ∧ Hand es' := by
  have hlo := h.lo
  have hhi := h.hi
  have hm := h.mlo
  have hm6 := h.mhi
  have hrl := hs.len
  obtain ⟨x, es1, e1, hx0, hx1, H1⟩ := draw_ok hH (m := (ls.length : Nat)) (by omega) (by omega)
  obtain ⟨k, rfl⟩ := Int.eq_ofNat_of_zero_le hx0
  have hk : k < ls.length := by omega
  obtain ⟨l, hl⟩ : ∃ l, ls[k]? = some l := ⟨ls[k], List.getElem?_eq_getElem hk⟩
  obtain ⟨r, hrk⟩ : ∃ r, rows[k]? = some r := ⟨rows[k], List.getElem?_eq_getElem (by omega)⟩
  have lo := h.ok l (List.mem_of_getElem? hl)
  have hlen := lo.len
  have ro := hr (l, r) (by rw [List.mem_iff_getElem?]; exact ⟨k, by rw [List.getElem?_zip_eq_some]; exact ⟨hl, hrk⟩⟩)
  have rlen : r.length = m := ro.len
  obtain ⟨dp, es2, e2, sdp, H2⟩ := deep_ok H1
  obtain ⟨y, es3, e3, hy0, hy1, H3⟩ := draw_ok H2 (m := (r.length : Nat)) (by omega) (by omega)
  obtain ⟨gd, rfl⟩ := Int.eq_ofNat_of_zero_le hy0
  have hg : gd < r.length := by omega
  obtain ⟨w, hw⟩ : ∃ w, l.works[gd]? = some w := ⟨l.works[gd], List.getElem?_eq_getElem (by omega)⟩
  obtain ⟨q, hq⟩ : ∃ q, r[gd]? = some q := ⟨r[gd], List.getElem?_eq_getElem hg⟩
  have qb : B0 100 q := (ro.nn q (List.mem_of_getElem? hq)).2
  obtain ⟨Rs, hRs⟩ : ∃ Rs, Rs = rows.map rowD := ⟨_, rfl⟩
  obtain ⟨R, hR⟩ : ∃ R, R = r.map qD := ⟨_, rfl⟩
  have lRs : Rs.length = ls.length := by rw [hRs]; simp [hrl]
  have lR : R.length = m := by rw [hR]; simp [rlen]
  have sR : ∀ w ∈ R, Sm 1 2000 w := fun w hw => by
    rw [hR] at hw
    obtain ⟨x, hx, rfl⟩ := List.mem_map.mp hw
    exact (sm_q ((ro.nn x hx).2.mono (by decide))).mono (by decide) (by decide)
  have sRs : ∀ w ∈ Rs, Sm 2 90000 w := fun w hw => by
    rw [hRs] at hw
    obtain ⟨x, hx, rfl⟩ := List.mem_map.mp hw
    refine sm_row (by simp [hs.rlen x hx]; omega) fun w hw => ?_
    obtain ⟨y, hy, rfl⟩ := List.mem_map.mp hw
    exact (sm_q ((hs.nn x hx y hy).2.mono (by decide))).mono (by decide) (by decide)
  -- the odd amounts
  obtain ⟨O1, hO1⟩ : ∃ O1, O1 = odds ++ [.tuple [.int 1, .int 1000000000], .tuple [.int 1000000000, .int 1]] := ⟨_, rfl⟩
  have sO1 : ∀ o ∈ O1, Sm 1 2000 o := fun o ho => by
    rw [hO1] at ho
    rcases List.mem_append.mp ho with ho | ho
    · exact odds_sm o ho
    · simp only [List.mem_cons, List.not_mem_nil, or_false] at ho
      rcases ho with rfl | rfl <;> exact sm_dec (by decide) (by decide) (by decide +kernel) (by decide +kernel)
  obtain ⟨O2, sO2, lO2, k7⟩ : ∃ O2 : List D, (∀ o ∈ O2, Sm 1 2000 o) ∧ O2.length ≤ 18 ∧ ∀ (g : G), g[1]? = some (.v (lsD ls)) → g[3]? = some (.v (.int (k : Nat))) → g[4]? = some (.v (rowD r)) → g[6]? = some (.v (.int (gd : Nat))) → g[7]? = some (.v (wkD w)) → g[9]? = some (.own none O1) → g.length = 14 →
      ∃ g', sIf (tOf (eBin notND (eVar 7) (eC .none))) (sSeq (sSet 10 (eCall m__law_plus (aCons (eBin atD (eIxV 1 (eVar 3)) (eC (.int 0))) (aCons (eV (eCall m__law_times (aCons (eTup (aCons (eUn negD (eC (.int 1))) (aCons (eC (.int 1)) aNil))) (aCons (eV (eCall m__law_at_work (aCons (eIxV 1 (eVar 3)) (aCons (eVar 4) aNil)))) aNil)))) aNil))))
    (sSeq (sSet 11 (eCall m__law_plus (aCons (eIxV 4 (eVar 6)) (aCons (eV (eCall m__law_over (aCons (eVar 10) (aCons (eVar 7) aNil)))) aNil))))
    (sSet 9 (vCatE (eVar 9) (eV (vLst (aCons (eVar 11) (aCons (eV (eCall m__law_plus (aCons (eVar 11) (aCons (eTup (aCons (eC (.int 1)) (aCons (eBin powD (eC (.int 10)) (eC (.int 6))) aNil))) aNil)))) aNil)))))))) sNil g = some (.nx g') ∧ g'[9]? = some (.own none O2) ∧ g'.length = 14 ∧ ∀ j, j ≠ 9 → j ≠ 10 → j ≠ 11 → g'[j]? = g[j]? := by
    cases w with
    | none =>
      refine ⟨O1, sO1, by rw [hO1]; simp [odds], fun g h1 h3 h4 h6 h7 h9 hlg => ⟨g, ?_, h9, hlg, fun _ _ _ _ => rfl⟩⟩
      exact if_f (tOf_b (eBin_of (h := eC .none) (ev_of h7) rfl rfl)) rfl
    | some u =>
      have pu := lo.wok u (List.mem_of_getElem? hw)
      obtain ⟨lf, hlf⟩ : ∃ lf, lf = l.hands + -1 * wkS l.works r := ⟨_, rfl⟩
      have blf : B0 120 lf := by rw [hlf]; exact (B0.sub' lo.hands.b ro.wk).mono (by decide)
      obtain ⟨mo, hmo⟩ : ∃ mo, mo = q + lf / u := ⟨_, rfl⟩
      have bmo : B0 260 mo := by rw [hmo]; exact (qb.add (blf.div pu.b pu.p)).mono (by decide)
      obtain ⟨mo2, hmo2⟩ : ∃ mo2, mo2 = mo + Rat.divInt 1 1000000 := ⟨_, rfl⟩
      have bmil : B0 30 (Rat.divInt 1 1000000) := divInt_b0 (by decide) (by decide) (by decide)
      have bmo2 : B0 300 mo2 := by rw [hmo2]; exact (bmo.add bmil).mono (by decide)
      refine ⟨O1 ++ [qD mo, qD mo2], fun o ho => ?_, by rw [hO1]; simp [odds], fun g h1 h3 h4 h6 h7 h9 hlg => ?_⟩
      · rcases List.mem_append.mp ho with ho | ho
        · exact sO1 o ho
        · simp only [List.mem_cons, List.not_mem_nil, or_false] at ho
          rcases ho with rfl | rfl
          · exact (sm_q (bmo.mono (by decide))).mono (by decide) (by decide)
          · exact (sm_q (bmo2.mono (by decide))).mono (by decide) (by decide)
      · have a1 := at_work_ok hm6 lo (rs := r) (fun x hx => (ro.nn x hx).2.mono (by decide))
        have a2 := law_times_ok (r := -1) (s := wkS l.works r) (⟨by decide, by decide⟩ : B0 4400 (-1)) (ro.wk.mono (by decide))
        have a3 := law_plus_ok (r := l.hands) (s := -1 * wkS l.works r) (lo.hands.b.mono (by decide)) (((show B0 1 (-1) from ⟨by decide, by decide⟩).mul ro.wk).mono (by decide))
        rw [← hlf] at a3
        have a4 := law_over_ok (r := lf) (s := u) (blf.mono (by decide)) (pu.b.mono (by decide)) pu.p
        have a5 := law_plus_ok (r := q) (s := lf / u) (qb.mono (by decide)) ((blf.div pu.b pu.p).mono (by decide))
        rw [← hmo] at a5
        have a6 := law_plus_ok (r := mo) (s := Rat.divInt 1 1000000) (bmo.mono (by decide)) (bmil.mono (by decide))
        rw [← hmo2, q_mil] at a6
        rw [q_neg] at a2
        have v3 : eVar 3 g = some (.int (k : Nat), g) := ev_of h3
        have v4 : eVar 4 g = some (rowD r, g) := ev_of h4
        have x1 : eIxV 1 (eVar 3) g = some (laD l, g) := ixV_v (a := lsD ls) (by rw [h1]; rfl) v3 (by rw [h1]; rfl) (atD_map (f := laD) hl)
        have x0 : eBin atD (eIxV 1 (eVar 3)) (eC (.int 0)) g = some (qD l.hands, g) := eBin_of (h := eC (.int 0)) x1 rfl rfl
        have tm : eTup (aCons (eUn negD (eC (.int 1))) (aCons (eC (.int 1)) aNil)) g = some (.tuple [.int (-1), .int 1], g) := eTup_of (ar_cons (eUn_of (f := eC (.int 1)) rfl rfl) (ar_cons (f := eC (.int 1)) rfl ar_nil))
        have s10 := set_v (i := 10) (eCall_of (ar_cons x0 (ar_cons (eV_v (eCall_of (ar_cons tm (ar_cons (eV_v (eCall_of (ar_cons x1 (ar_cons v4 ar_nil)) a1)) ar_nil)) a2)) ar_nil)) a3)
        obtain ⟨g1, hg1⟩ : ∃ g1, g1 = g.set 10 (.v (qD lf)) := ⟨_, rfl⟩
        rw [← hg1] at s10
        have at1 : ∀ j, j ≠ 10 → g1[j]? = g[j]? := fun j hj => by rw [hg1, List.getElem?_set_ne (Ne.symm hj)]
        have v10 : eVar 10 g1 = some (qD lf, g1) := ev_of (by rw [hg1, List.getElem?_set_self (by omega)])
        have v7 : eVar 7 g1 = some (qD u, g1) := ev_of (by rw [at1 7 (by decide)]; exact h7)
        have x4 : eIxV 4 (eVar 6) g1 = some (qD q, g1) := ixV_v (a := rowD r) (by rw [at1 4 (by decide), h4]; rfl) (ev_of (by rw [at1 6 (by decide)]; exact h6)) (by rw [at1 4 (by decide), h4]; rfl) (atD_map (f := qD) hq)
        have s11 := set_v (i := 11) (eCall_of (ar_cons x4 (ar_cons (eV_v (eCall_of (ar_cons v10 (ar_cons v7 ar_nil)) a4)) ar_nil)) a5)
        obtain ⟨g2, hg2⟩ : ∃ g2, g2 = g1.set 11 (.v (qD mo)) := ⟨_, rfl⟩
        rw [← hg2] at s11
        have at2 : ∀ j, j ≠ 11 → j ≠ 10 → g2[j]? = g[j]? := fun j hj h2 => by rw [hg2, List.getElem?_set_ne (Ne.symm hj), at1 j h2]
        have l2 : g2.length = 14 := by rw [hg2, hg1]; simp [hlg]
        have w9 := ev_own (i := 9) (g := g2) (ds := O1) (by rw [at2 9 (by decide) (by decide)]; exact h9)
        obtain ⟨g3, hg3⟩ : ∃ g3, g3 = g2.set 9 (.v (.list O1)) := ⟨_, rfl⟩
        rw [← hg3] at w9
        have v11 : eVar 11 g3 = some (qD mo, g3) := ev_of (by rw [hg3, List.getElem?_set_ne (by decide), hg2, List.getElem?_set_self (by rw [hg1]; simp [hlg])])
        have tm2 : eTup (aCons (eC (.int 1)) (aCons (eBin powD (eC (.int 10)) (eC (.int 6))) aNil)) g3 = some (.tuple [.int 1, .int 1000000], g3) := eTup_of (ar_cons (f := eC (.int 1)) rfl (ar_cons (eBin_of (f := eC (.int 10)) (h := eC (.int 6)) rfl rfl ten6) ar_nil))
        have c9 := vCatE_of w9 (eV_o (vLst_of (ar_cons v11 (ar_cons (eV_v (eCall_of (ar_cons v11 (ar_cons tm2 ar_nil)) a6)) ar_nil)))) (by rw [hO1]; simp [odds])
        have s9 := set_o (i := 9) c9
        refine ⟨_, if_t (tOf_b (eBin_of (h := eC .none) (ev_of h7) rfl rfl)) (seq_nx s10 (seq_nx s11 s9)), ?_, ?_, fun j j1 j2 j3 => ?_⟩
        · rw [List.getElem?_set_self (by rw [hg3]; simp [l2])]
        · rw [hg3]; simp [l2]
        · rw [List.getElem?_set_ne (Ne.symm j1), hg3, List.getElem?_set_ne (Ne.symm j1), at2 j j3 j2]
  refine ⟨sAll Rs dp k (sNews R gd O2), es3, ?_, sAll_ok (by omega) sRs sdp k (sNews_ok (by omega) sR gd sO2), ?_, H3⟩
  · unfold m__law_sharings_near
    refine fnI_ret fun a => ?_
    obtain ⟨A, hA⟩ : ∃ A : D, A = lsD ls := ⟨_, rfl⟩
    obtain ⟨B, hB⟩ : ∃ B : D, B = shD rows := ⟨_, rfl⟩
    have eB : B = .tuple Rs := by rw [hB, hRs]; rfl
    have c1 : eCallI m__law_draw 0 (aCons (eUn lenD (bVar 1)) aNil) [.own (some a) es, .v A, .v B, .no, .no, .no, .no, .no, .no, .no, .no, .no, .no, .no] = some (.v (.int (k : Nat)), [.own (some a) es1, .v A, .v B, .no, .no, .no, .no, .no, .no, .no, .no, .no, .no, .no]) :=
      callI_of (i := 0) (t := some a) (g1 := [.own (some a) es, .v A, .v B, .no, .no, .no, .no, .no, .no, .no, .no, .no, .no, .no]) rfl (ar_cons (eUn_of (f := bVar 1) rfl (show lenD A = some (.int (ls.length : Nat)) from by rw [hA]; exact len_row laD ls)) ar_nil) rfl e1
    have s1 := set_v (i := 3) c1
    obtain ⟨G1, hG1⟩ : ∃ G1 : G, G1 = [.own (some a) es1, .v A, .v B, .v (.int (k : Nat)), .no, .no, .no, .no, .no, .no, .no, .no, .no, .no] := ⟨_, rfl⟩
    obtain ⟨G2, hG2⟩ : ∃ G2 : G, G2 = [.own (some a) es2, .v A, .v B, .v (.int (k : Nat)), .no, .no, .no, .no, .no, .no, .no, .no, .no, .no] := ⟨_, rfl⟩
    have s1' : sSet 3 (eCallI m__law_draw 0 (aCons (eUn lenD (bVar 1)) aNil)) [.own (some a) es, .v A, .v B, .no, .no, .no, .no, .no, .no, .no, .no, .no, .no, .no] = some (.nx G1) := by rw [hG1]; exact s1
    have cd : eV (eCallI m__law_deep 0 aNil) G1 = some (dp, G2) := by
      rw [hG1, hG2]
      exact eV_v (callI_of (i := 0) (t := some a) (g1 := [.own (some a) es1, .v A, .v B, .v (.int (k : Nat)), .no, .no, .no, .no, .no, .no, .no, .no, .no, .no]) rfl ar_nil rfl e2)
    have i4 : eIxV 2 (eVar 3) G1 = some (rowD r, G1) := by
      rw [hG1]
      exact ixV_v (f := eVar 3) rfl rfl rfl (by rw [hB]; exact atD_map (f := rowD) hrk)
    have v2 : eVar 2 G1 = some (.tuple Rs, G1) := by rw [hG1, ← eB]; rfl
    have f1 : eV (v1 seqD (bVar 2)) G1 = some (.list Rs, G1) := eV_o (v1_of (d := B) (by rw [hG1]; rfl) (by rw [eB]; rfl))
    have f4 : eSlU (eVar 2) oNone (oSome (eUn negD (eC (.int 1)))) G1 = some (.tuple (cutL Rs none (some (-1))), G1) := eSlU_of v2 rfl (oSome_of (eUn_of rfl rfl))
    have f5 : eBin addA (eVar 2) (eSlU (eVar 2) oNone (oSome (eC (.int 1)))) G1 = some (.tuple (Rs ++ cutL Rs none (some 1)), G1) := eBin_of v2 (eSlU_of v2 rfl (oSome_of rfl)) (addA_cat (by have := cutL_len Rs none (some 1); omega))
    have s2 := par_vo (i := 4) (j := 5) (vE_of i4) (vLst_of (ar_cons f1 (ar_cons (f := eC .none) rfl (ar_cons (eTup_of ar_nil) (ar_cons f4 (ar_cons f5 (ar_cons (f := eC (.dict [])) rfl (ar_cons cd ar_nil))))))))
    obtain ⟨F5, hF5⟩ : ∃ F5, F5 = sF5 Rs dp := ⟨_, rfl⟩
    obtain ⟨G3, hG3⟩ : ∃ G3 : G, G3 = [.own (some a) es2, .v A, .v B, .v (.int (k : Nat)), .v (rowD r), .own none F5, .no, .no, .no, .no, .no, .no, .no, .no] := ⟨_, rfl⟩
    have s2' : sPar 4 5 (vE (eIxV 2 (eVar 3))) (vLst (aCons (eV (v1 seqD (bVar 2))) (aCons (eC .none) (aCons (eTup aNil) (aCons (eSlU (eVar 2) oNone (oSome (eUn negD (eC (.int 1))))) (aCons (eBin addA (eVar 2) (eSlU (eVar 2) oNone (oSome (eC (.int 1))))) (aCons (eC (.dict [])) (aCons (eV (eCallI m__law_deep 0 aNil)) aNil)))))))) G1 = some (.nx G3) := by
      rw [s2, hG3, hG2, hF5]
      rfl
    have c3 : eCallI m__law_draw 0 (aCons (eUn lenD (bVar 4)) aNil) G3 = some (.v (.int (gd : Nat)), [.own (some a) es3, .v A, .v B, .v (.int (k : Nat)), .v (rowD r), .own none F5, .no, .no, .no, .no, .no, .no, .no, .no]) := by
      rw [hG3]
      exact callI_of (i := 0) (t := some a) (g1 := [.own (some a) es2, .v A, .v B, .v (.int (k : Nat)), .v (rowD r), .own none F5, .no, .no, .no, .no, .no, .no, .no, .no]) rfl (ar_cons (eUn_of (f := bVar 4) rfl (len_row qD r)) ar_nil) rfl e3
    have s3 := set_v (i := 6) c3
    obtain ⟨G4, hG4⟩ : ∃ G4 : G, G4 = [.own (some a) es3, .v A, .v B, .v (.int (k : Nat)), .v (rowD r), .own none F5, .v (.int (gd : Nat)), .no, .no, .no, .no, .no, .no, .no] := ⟨_, rfl⟩
    have s3' : sSet 6 (eCallI m__law_draw 0 (aCons (eUn lenD (bVar 4)) aNil)) G3 = some (.nx G4) := by rw [hG4]; exact s3
    have x1 : eIxV 1 (eVar 3) G4 = some (laD l, G4) := by
      rw [hG4]
      exact ixV_v (f := eVar 3) rfl rfl rfl (by rw [hA]; exact atD_map (f := laD) hl)
    have x2 : eBin atD (eIxV 1 (eVar 3)) (eC (.int 1)) G4 = some (.tuple (l.works.map wkD), G4) := eBin_of (h := eC (.int 1)) x1 rfl rfl
    have x3 : eBin atD (eBin atD (eIxV 1 (eVar 3)) (eC (.int 1))) (eVar 6) G4 = some (wkD w, G4) := eBin_of (h := eVar 6) (d2 := .int (gd : Nat)) x2 (by rw [hG4]; rfl) (atD_map (f := wkD) hw)
    have s4 := set_v (i := 7) (vE_of x3)
    obtain ⟨G5, hG5⟩ : ∃ G5 : G, G5 = [.own (some a) es3, .v A, .v B, .v (.int (k : Nat)), .v (rowD r), .own none F5, .v (.int (gd : Nat)), .v (wkD w), .no, .no, .no, .no, .no, .no] := ⟨_, rfl⟩
    have s4' : sSet 7 (vE (eBin atD (eBin atD (eIxV 1 (eVar 3)) (eC (.int 1))) (eVar 6))) G4 = some (.nx G5) := by rw [s4, hG5, hG4]; rfl
    have y4 : eVar 4 G5 = some (.tuple R, G5) := by rw [hG5, hR]; rfl
    have y4b : eV (v1 seqD (bVar 4)) G5 = some (.list R, G5) := eV_o (v1_of (d := rowD r) (by rw [hG5]; rfl) (by rw [hR]; rfl))
    have n2 : eSlU (eVar 4) oNone (oSome (eUn negD (eC (.int 1)))) G5 = some (.tuple (cutL R none (some (-1))), G5) := eSlU_of y4 rfl (oSome_of (eUn_of rfl rfl))
    have n3 : eBin addA (eVar 4) (eTup (aCons (eTup (aCons (eC (.int 0)) (aCons (eC (.int 1)) aNil))) aNil)) G5 = some (.tuple (R ++ [.tuple [.int 0, .int 1]]), G5) := eBin_of y4 (eTup_of (ar_cons (eTup_of (ar_cons (f := eC (.int 0)) rfl (ar_cons (f := eC (.int 1)) rfl ar_nil))) ar_nil)) (addA_cat (by simp; omega))
    have n5 : eUn revD (eVar 4) G5 = some (.tuple R.reverse, G5) := eUn_of y4 rfl
    have s5 := set_o (i := 8) (vLst_of (ar_cons y4b (ar_cons n2 (ar_cons n3 (ar_cons (f := eC .none) (g := G5) rfl (ar_cons n5 ar_nil))))))
    obtain ⟨N1, hN1⟩ : ∃ N1 : List D, N1 = [.list R, .tuple (cutL R none (some (-1))), .tuple (R ++ [.tuple [.int 0, .int 1]]), .none, .tuple R.reverse] := ⟨_, rfl⟩
    rw [← hN1] at s5
    obtain ⟨G6, hG6⟩ : ∃ G6 : G, G6 = G5.set 8 (.own none N1) := ⟨_, rfl⟩
    rw [← hG6] at s5
    have od : eV (eCallI m__law_odd_fractions 0 aNil) G6 = some (.list odds, G6) := by
      have h0 : G6[0]? = some (.own (some a) es3) := by rw [hG6, hG5]; rfl
      have c := callI_of (m := m__law_odd_fractions) (i := 0) (t := some a) (g := G6) (g1 := G6) (by rw [h0]; rfl) ar_nil h0 (odds_ok es3)
      have e : G6.set 0 (.own (some a) es3) = G6 := by
        obtain ⟨_, e⟩ := List.getElem?_eq_some_iff.mp h0
        rw [← e, List.set_getElem_self]
      rw [e] at c
      exact eV_o c
    have p1 : eTup (aCons (eC (.int 1)) (aCons (eBin powD (eC (.int 10)) (eC (.int 9))) aNil)) G6 = some (.tuple [.int 1, .int 1000000000], G6) := eTup_of (ar_cons (f := eC (.int 1)) rfl (ar_cons (eBin_of (f := eC (.int 10)) (h := eC (.int 9)) rfl rfl ten9) ar_nil))
    have p2 : eTup (aCons (eBin powD (eC (.int 10)) (eC (.int 9))) (aCons (eC (.int 1)) aNil)) G6 = some (.tuple [.int 1000000000, .int 1], G6) := eTup_of (ar_cons (eBin_of (f := eC (.int 10)) (h := eC (.int 9)) rfl rfl ten9) (ar_cons (f := eC (.int 1)) rfl ar_nil))
    have s6 := set_o (i := 9) (vCatE_of od (eV_o (vLst_of (ar_cons p1 (ar_cons p2 ar_nil)))) (by decide))
    rw [← hO1] at s6
    obtain ⟨G7, hG7⟩ : ∃ G7 : G, G7 = G6.set 9 (.own none O1) := ⟨_, rfl⟩
    rw [← hG7] at s6
    obtain ⟨G8, s7, a9, l8, k8⟩ := k7 G7 (by rw [hG7, hG6, hG5, hA]; rfl) (by rw [hG7, hG6, hG5]; rfl) (by rw [hG7, hG6, hG5]; rfl) (by rw [hG7, hG6, hG5]; rfl) (by rw [hG7, hG6, hG5]; rfl) (by rw [hG7, hG6, hG5]; rfl) (by rw [hG7, hG6, hG5]; rfl)
    have it8 := iSeq_of (ev_own a9) rfl
    obtain ⟨G9, r9, b8, l9, k9⟩ := gather (iv := 12) (io := 8) (f := eBin addA (eBin addA (eSlU (eVar 4) oNone (oSome (eVar 6))) (eTup (aCons (eVar 12) aNil))) (eSlU (eVar 4) (oSome (eBin addA (eVar 6) (eC (.int 1)))) oNone)) (by decide) (fun o => .tuple (spl R gd o)) O2 N1 (G8.set 9 (.v (.list O2))) (by rw [List.getElem?_set_ne (by decide), k8 8 (by decide) (by decide) (by decide), hG7, hG6, hG5]; rfl) (by rw [List.length_set, l8]; decide) (by rw [hN1]; simp; omega) (fun d hd g' q1 q2 q3 _ => by
      have i4 : eVar 4 g' = some (.tuple R, g') := ev_of (by rw [q1 4 (by decide) (by decide), List.getElem?_set_ne (by decide), k8 4 (by decide) (by decide) (by decide), hG7, hG6, hG5, hR]; rfl)
      have i6 : eVar 6 g' = some (.int (gd : Nat), g') := ev_of (by rw [q1 6 (by decide) (by decide), List.getElem?_set_ne (by decide), k8 6 (by decide) (by decide) (by decide), hG7, hG6, hG5]; rfl)
      exact spl_of i4 i6 (ev_of q3) (by omega))
    have s8 := for_of it8 r9
    have hN : N1 ++ O2.map (fun o => .tuple (spl R gd o)) = sNews R gd O2 := by rw [hN1]; rfl
    rw [hN] at b8
    obtain ⟨N, hNN⟩ : ∃ N, N = sNews R gd O2 := ⟨_, rfl⟩
    rw [← hNN] at b8
    have lN : N.length ≤ 30 := by rw [hNN]; simp [sNews]; omega
    have k9' : ∀ j, j ≠ 12 → j ≠ 8 → j ≠ 9 → j ≠ 10 → j ≠ 11 → G9[j]? = G7[j]? := fun j h1 h2 h3 h4 h5 => by rw [k9 j h1 h2, List.getElem?_set_ne (Ne.symm h3), k8 j h3 h4 h5]
    have b5 : G9[5]? = some (.own none F5) := by rw [k9' 5 (by decide) (by decide) (by decide) (by decide) (by decide), hG7, hG6, hG5]; rfl
    obtain ⟨G10, hG10⟩ : ∃ G10 : G, G10 = G9.set 5 (.v (.list F5)) := ⟨_, rfl⟩
    have c5 := ev_own b5
    rw [← hG10] at c5
    have at10 : ∀ j, j ≠ 5 → G10[j]? = G9[j]? := fun j hj => by rw [hG10, List.getElem?_set_ne (Ne.symm hj)]
    have w13 : G10[13]? = some .no := by rw [at10 13 (by decide), k9' 13 (by decide) (by decide) (by decide) (by decide) (by decide), hG7, hG6, hG5]; rfl
    have w2 : G10[2]? = some (.v (.tuple Rs)) := by rw [at10 2 (by decide), k9' 2 (by decide) (by decide) (by decide) (by decide) (by decide), hG7, hG6, hG5, eB]; rfl
    have w3 : G10[3]? = some (.v (.int (k : Nat))) := by rw [at10 3 (by decide), k9' 3 (by decide) (by decide) (by decide) (by decide) (by decide), hG7, hG6, hG5]; rfl
    have w8 : G10[8]? = some (.own none N) := by rw [at10 8 (by decide)]; exact b8
    have w0 : G10[0]? = some (.own (some a) es3) := by rw [at10 0 (by decide), k9' 0 (by decide) (by decide) (by decide) (by decide) (by decide), hG7, hG6, hG5]; rfl
    have i13 := (List.getElem?_eq_some_iff.mp w13).1
    have wp : wipeG G10 [13] = G10 := by
      obtain ⟨_, e⟩ := List.getElem?_eq_some_iff.mp w13
      show G10.set 13 .no = G10
      rw [← e, List.set_getElem_self]
    have bk : backG G10 G10 [13] = G10 := by
      have d1 : G10.getD 13 .no = .no := by simp [List.getD_eq_getElem?_getD, w13]
      show G10.set 13 (G10.getD 13 .no) = G10
      rw [d1]
      exact wp
    have lc := lcGo_id (t := tOw 8 (.own none N) (gVar 13)) (c := cYes) (f := eBin addA (eBin addA (eSlU (eVar 2) oNone (oSome (eVar 3))) (eTup (aCons (eVar 13) aNil))) (eSlU (eVar 2) (oSome (eBin addA (eVar 3) (eC (.int 1)))) oNone)) (vs := [13]) (g := G10) (fun n => .tuple (spl Rs k n)) N (fun n hn => by
      have at11 : ∀ j, j ≠ 13 → (G10.set 13 (.v n))[j]? = G10[j]? := fun j hj => by rw [List.getElem?_set_ne (Ne.symm hj)]
      refine ⟨G10.set 13 (.v n), G10.set 13 (.v n), tOw_of w8 rfl, rfl, spl_of (ev_of (by rw [at11 2 (by decide)]; exact w2)) (ev_of (by rw [at11 3 (by decide)]; exact w3)) (ev_of (List.getElem?_set_self i13)) (by omega), ?_⟩
      show (G10.set 13 (.v n)).set 13 .no = G10
      rw [List.set_set]
      exact wp)
    have lcN := vLcN_own (i := 8) (t := gVar 13) (c := cYes) (vs := [13]) w8 (by unfold okW; simp [w13]) (by rw [wp]; exact lc) w8 (by simp; omega)
    rw [bk] at lcN
    have rt := ret_o (vCatE_of c5 (eV_o lcN) (by rw [hF5]; simp [sF5]; omega))
    refine ⟨G10, ?_, w0⟩
    rw [hF5, hNN] at rt
    rw [← hA, ← hB]
    unfold b__law_sharings_near
    exact seq_nx s1' (seq_nx s2' (seq_nx s3' (seq_nx s4' (seq_nx s5 (seq_nx s6 (seq_nx s7 (seq_nx s8 rt)))))))
  · simp [sAll, sF5, sNews]
    omega
end K64
set_option Elab.async false
set_option linter.all false
set_option maxRecDepth 100000
namespace K64
open PySem Dl
theorem isi2_b {b : Bool} : isi2D "tuple" "list" (.bool b) = some (.bool false) := isi2_of (a := false) (b := false) rfl (by decide +kernel) (by decide +kernel)
theorem isi_bb {b : Bool} : isiD "bool" (.bool b) = some (.bool true) := isiD_of rfl (by decide +kernel)
theorem isi_bi {b : Bool} : isiD "int" (.bool b) = some (.bool true) := isiD_of rfl (by decide +kernel)
theorem isi_bs {b : Bool} : isiD "str" (.bool b) = some (.bool false) := isiD_of rfl (by decide +kernel)
theorem is_bool {me : List D → Option Sl} (i : Bool) : fnP (b__law_is me) 4 [.bool i, .bool i] = some (.v (.bool true)) := by
  have c1 : tOf (eUn (isi2D "tuple" "list") (eVar 1)) [.v (.bool i), .v (.bool i), .no, .no] = some (false, [.v (.bool i), .v (.bool i), .no, .no]) := tOf_b (eUn_of (f := eVar 1) rfl isi2_b)
  have d1 : tOf (eBin isND (eVar 1) (eC .none)) [.v (.bool i), .v (.bool i), .no, .no] = some (false, [.v (.bool i), .v (.bool i), .no, .no]) := tOf_b (eBin_of (f := eVar 1) (h := eC .none) rfl rfl rfl)
  have d2 : tOf (eBin isND (eVar 0) (eC .none)) [.v (.bool i), .v (.bool i), .no, .no] = some (false, [.v (.bool i), .v (.bool i), .no, .no]) := tOf_b (eBin_of (f := eVar 0) (h := eC .none) rfl rfl rfl)
  have c2 : tOf (eBin neD (eUn (isiD "bool") (eVar 0)) (eUn (isiD "bool") (eVar 1))) [.v (.bool i), .v (.bool i), .no, .no] = some (false, [.v (.bool i), .v (.bool i), .no, .no]) := tOf_b (eBin_of (eUn_of (f := eVar 0) rfl isi_bb) (eUn_of (f := eVar 1) rfl isi_bb) (neD_bb true))
  have c3 : tOf (eBin neD (eUn (isiD "int") (eVar 0)) (eUn (isiD "int") (eVar 1))) [.v (.bool i), .v (.bool i), .no, .no] = some (false, [.v (.bool i), .v (.bool i), .no, .no]) := tOf_b (eBin_of (eUn_of (f := eVar 0) rfl isi_bi) (eUn_of (f := eVar 1) rfl isi_bi) (neD_bb true))
  have c4 : eBin eqD (eUn (isiD "str") (eVar 0)) (eUn (isiD "str") (eVar 1)) [.v (.bool i), .v (.bool i), .no, .no] = some (.bool true, [.v (.bool i), .v (.bool i), .no, .no]) := eBin_of (eUn_of (f := eVar 0) rfl isi_bs) (eUn_of (f := eVar 1) rfl isi_bs) (eqD_bb false)
  exact fnP_ret [.v (.bool i), .v (.bool i), .no, .no] rfl (seq_nx (if_f c1 rfl) (seq_nx (if_f (h := sNil) (tOr_f d1 d2) rfl) (seq_nx (if_f (tOr_f c2 c3) rfl) (ret_v (vE_of (eAnd_t c4 (eBin_of (f := eVar 0) (h := eVar 1) rfl rfl (eqD_bb i))))))))
theorem is_b (m : Nat) (i : Bool) : mr__law_is (m + 1) [.bool i, .bool i] = some (.v (.bool true)) := is_bool i
theorem is_row (m : Nat) (l : List Rat) (hl : l.length ≤ 1000) : mr__law_is (m + 3) [rowD l, rowD l] = some (.v (.bool true)) := by
  show fnP (b__law_is (mr__law_is (m + 2))) 4 [rowD l, rowD l] = _
  refine is_tup (by simpa using hl) fun d hd => ?_
  obtain ⟨r, _, rfl⟩ := List.mem_map.mp hd
  exact is_q m r
/-! ### half and half -/
def hf : Rat := Rat.divInt 1 2
theorem q_hf : qD hf = .tuple [.int 1, .int 2] := by rfl
theorem b0_hf : B0 2 hf := ⟨by decide +kernel, by decide +kernel⟩
theorem hf_nn : 0 ≤ hf := divInt_nn (by decide) (by decide)
theorem hf_two (a : Rat) : hf * (a + a) = a := by
  have : hf * 2 = 1 := by decide +kernel
  have e : a + a = 2 * a := by grind
  rw [e, ← Rat.mul_assoc, this, Rat.one_mul]
def hrow (r s : List Rat) : List Rat := (r.zip s).map fun p => hf * (p.1 + p.2)
def half (rows rows2 : List (List Rat)) : List (List Rat) := (rows.zip rows2).map fun p => hrow p.1 p.2
theorem wk_half : ∀ (ws : List (Option Rat)) (r s : List Rat), r.length = s.length → wkS ws (hrow r s) = hf * (wkS ws r + wkS ws s)
  | [], _, _, _ => by simp [wkS, S, Rat.mul_zero, Rat.add_zero]
  | _ :: _, [], [], _ => by simp [wkS, hrow, S, Rat.mul_zero, Rat.add_zero]
  | _ :: _, [], _ :: _, h => by simp at h
  | _ :: _, _ :: _, [], h => by simp at h
  | w :: ws, a :: r, b :: s, h => by
    have ih := wk_half ws r s (by simpa using h)
    unfold wkS hrow at ih ⊢
    simp only [List.zip_cons_cons, List.map_cons, S, ih]
    unfold fW
    grind
theorem fits_half : ∀ (ws : List (Option Rat)) (r s : List Rat), fits ws r = true → fits ws s = true → fits ws (hrow r s) = true
  | [], _, _, _, _ => by simp [fits]
  | _ :: _, [], _, _, _ => by simp [fits, hrow]
  | _ :: _, _ :: _, [], _, _ => by simp [fits, hrow]
  | w :: ws, a :: r, b :: s, h1, h2 => by
    unfold fits at h1 h2
    simp only [List.zip_cons_cons, List.all_cons, Bool.and_eq_true] at h1 h2
    have ih := fits_half ws r s h1.2 h2.2
    unfold fits hrow at ih ⊢
    simp only [List.zip_cons_cons, List.map_cons, List.all_cons, ih, Bool.and_true]
    cases w with
    | some u => simp
    | none =>
      have a0 : a = 0 := by simpa using h1.1
      have b0 : b = 0 := by simpa using h2.1
      rw [a0, b0]
      simp [Rat.add_zero, Rat.mul_zero]
theorem ok_half {l : La} {r s : List Rat} (hl : r.length = s.length) (h1 : okRow l r = true) (h2 : okRow l s = true) : okRow l (hrow r s) = true := by
  unfold okRow at h1 h2 ⊢
  simp only [Bool.and_eq_true, Bool.not_eq_true', decide_eq_false_iff_not] at h1 h2 ⊢
  refine ⟨fits_half _ _ _ h1.1 h2.1, ?_⟩
  rw [wk_half _ _ _ hl]
  have a := Rat.not_lt.mp h1.2
  have b := Rat.not_lt.mp h2.2
  have c : wkS l.works r + wkS l.works s ≤ l.hands + l.hands := by grind
  have d := Rat.mul_le_mul_of_nonneg_left c hf_nn
  rw [hf_two] at d
  exact Rat.not_lt.mpr d
theorem hrow_len {r s : List Rat} (h : r.length = s.length) : (hrow r s).length = r.length := by
  simp [hrow]
  omega
theorem hrow_getD : ∀ (r s : List Rat) (g : Nat), r.length = s.length → (hrow r s).getD g 0 = hf * (r.getD g 0 + s.getD g 0)
  | [], [], g, _ => by simp [hrow, Rat.add_zero, Rat.mul_zero]
  | [], _ :: _, _, h => by simp at h
  | _ :: _, [], _, h => by simp at h
  | a :: r, b :: s, 0, h => by simp [hrow]
  | a :: r, b :: s, g + 1, h => by
    have ih := hrow_getD r s g (by simpa using h)
    unfold hrow at ih ⊢
    simpa using ih
theorem S_half (g : Nat) : ∀ (rows rows2 : List (List Rat)), rows.length = rows2.length → (∀ p ∈ rows.zip rows2, p.1.length = p.2.length) → S (fun r : List Rat => r.getD g 0) (half rows rows2) = hf * (S (fun r : List Rat => r.getD g 0) rows + S (fun r : List Rat => r.getD g 0) rows2)
  | [], [], _, _ => by simp [half, S, Rat.add_zero, Rat.mul_zero]
  | [], _ :: _, h, _ => by simp at h
  | _ :: _, [], h, _ => by simp at h
  | r :: rows, s :: rows2, h, H => by
    have ih := S_half g rows rows2 (by simpa using h) fun p hp => H p (by rw [List.zip_cons_cons]; exact List.mem_cons_of_mem _ hp)
    unfold half at ih ⊢
    simp only [List.zip_cons_cons, List.map_cons, S, ih]
    rw [hrow_getD r s g (H (r, s) (by simp))]
    grind
theorem wld_half {m : Nat} {rows rows2 : List (List Rat)} (h : rows.length = rows2.length) (H : ∀ p ∈ rows.zip rows2, p.1.length = p.2.length) : wld m (half rows rows2) = ((wld m rows).zip (wld m rows2)).map fun p => hf * (p.1 + p.2) := by
  unfold wld
  rw [List.zip_map', List.map_map]
  apply List.map_congr_left
  intro g _
  exact S_half g rows rows2 h H
theorem half_ok {m : Nat} {ls : List La} {rows rows2 : List (List Rat)} (h1 : ShOk m ls rows) (h2 : ShOk m ls rows2) (r1 : ∀ p ∈ ls.zip rows, RowOk m p.1 p.2) (r2 : ∀ p ∈ ls.zip rows2, RowOk m p.1 p.2) : ShOk m ls (half rows rows2) := by
  have e1 := h1.len
  have e2 := h2.len
  have mem : ∀ x ∈ half rows rows2, ∃ r ∈ rows, ∃ s ∈ rows2, x = hrow r s := fun x hx => by
    obtain ⟨p, hp, rfl⟩ := List.mem_map.mp hx
    have := List.of_mem_zip hp
    exact ⟨p.1, this.1, p.2, this.2, rfl⟩
  have rowAt : ∀ {rs : List (List Rat)}, rs.length = ls.length → (∀ p ∈ ls.zip rs, RowOk m p.1 p.2) → ∀ r ∈ rs, ∃ l, RowOk m l r := fun {rs} e H r hr => by
    obtain ⟨i, hi, q⟩ := List.getElem_of_mem hr
    have hi2 : i < ls.length := by omega
    exact ⟨ls[i], H (ls[i], r) (by
      rw [List.mem_iff_getElem?]
      exact ⟨i, by rw [List.getElem?_zip_eq_some]; exact ⟨List.getElem?_eq_getElem hi2, by rw [List.getElem?_eq_getElem hi, q]⟩⟩)⟩
  refine ⟨by simp [half]; omega, fun x hx => ?_, fun x hx y hy => ?_, fun p hp => ?_⟩
  · obtain ⟨r, hr, s, hs, rfl⟩ := mem x hx
    have a := h1.rlen r hr
    have b := h2.rlen s hs
    rw [hrow_len (by omega), a]
  · obtain ⟨r, hr, s, hs, rfl⟩ := mem x hx
    obtain ⟨p, hp, rfl⟩ := List.mem_map.mp hy
    have hz := List.of_mem_zip hp
    obtain ⟨l1, o1⟩ := rowAt e1 r1 r hr
    obtain ⟨l2, o2⟩ := rowAt e2 r2 s hs
    have a := o1.nn _ hz.1
    have b := o2.nn _ hz.2
    refine ⟨pos_mul hf_nn (by have := a.1; have := b.1; grind), (b0_hf.mul (a.2.add b.2)).mono (by decide)⟩
  · obtain ⟨i, hi⟩ := List.mem_iff_getElem?.mp hp
    rw [List.getElem?_zip_eq_some] at hi
    obtain ⟨q1, q2⟩ := hi
    unfold half at q2
    rw [List.getElem?_map] at q2
    cases q : (rows.zip rows2)[i]? with
    | none => rw [q] at q2; cases q2
    | some rs =>
      rw [q] at q2
      injection q2 with q2
      rw [← q2]
      rw [List.getElem?_zip_eq_some] at q
      have z1 : (p.1, rs.1) ∈ ls.zip rows := by rw [List.mem_iff_getElem?]; exact ⟨i, by rw [List.getElem?_zip_eq_some]; exact ⟨q1, q.1⟩⟩
      have z2 : (p.1, rs.2) ∈ ls.zip rows2 := by rw [List.mem_iff_getElem?]; exact ⟨i, by rw [List.getElem?_zip_eq_some]; exact ⟨q1, q.2⟩⟩
      exact ok_half (by have a := (r1 _ z1).len; have b := (r2 _ z2).len; simp only at a b; omega) (h1.ok _ z1) (h2.ok _ z2)
end K64
set_option Elab.async false
set_option linter.all false
set_option maxRecDepth 100000
namespace K64
open PySem Dl
theorem judge_body {f1 f2 : Fe} {d : D} (ht : Tg d) {b : Bool} (a0 a1 a2 z4 a5 a6 a7 a8 a9 a10 a11 a12 : Sl)
    (h1 : ∀ z, f1 [a0, a1, a2, .v d, z, a5, a6, a7, a8, a9, a10, a11, a12] = some (.bool b, [a0, a1, a2, .v d, z, a5, a6, a7, a8, a9, a10, a11, a12]))
    (h2 : ∀ z, f2 [a0, a1, a2, .v d, z, a5, a6, a7, a8, a9, a10, a11, a12] = some (.bool b, [a0, a1, a2, .v d, z, a5, a6, a7, a8, a9, a10, a11, a12])) :
    ∃ z, (sSeq (sSet 4 (vE (eUn reprD (bVar 3)))) (sIf (tOrT (tNotT (tOf (eV (eCall m__law_is (aCons f1 (aCons f2 aNil)))))) (tOf (eBin neD (eUn reprD (bVar 3)) (eVar 4)))) (sRet (vE (eC (.bool false)))) sNil)) [a0, a1, a2, .v d, z4, a5, a6, a7, a8, a9, a10, a11, a12] = some (.nx [a0, a1, a2, .v d, z, a5, a6, a7, a8, a9, a10, a11, a12]) := by
  obtain ⟨s, hs⟩ := ht.rp
  have r1 : ∀ z, eUn reprD (bVar 3) [a0, a1, a2, .v d, z, a5, a6, a7, a8, a9, a10, a11, a12] = some (.str s, [a0, a1, a2, .v d, z, a5, a6, a7, a8, a9, a10, a11, a12]) := fun z => eUn_of (f := bVar 3) rfl hs
  have s1 := set_v (i := 4) (vE_of (r1 z4))
  have c1 := eV_v (eCall_of (m := m__law_is) (ar_cons (h1 (.v (.str s))) (ar_cons (h2 (.v (.str s))) ar_nil)) (is_b 7 b))
  have c2 : tOf (eBin neD (eUn reprD (bVar 3)) (eVar 4)) [a0, a1, a2, .v d, .v (.str s), a5, a6, a7, a8, a9, a10, a11, a12] = some (false, [a0, a1, a2, .v d, .v (.str s), a5, a6, a7, a8, a9, a10, a11, a12]) := tOf_b (eBin_of (h := eVar 4) (d2 := .str s) (r1 _) rfl (by rw [neD_ss]; simp))
  exact ⟨.v (.str s), seq_nx s1 (if_f (tOr_f (tNot_of (b := true) (tOf_b c1)) c2) rfl)⟩
theorem tg_lands {m : Nat} {ls : List La} (h : LsOk m ls) : Tg (lsD ls) := ld_tup (fun d hd => by
  obtain ⟨l, hl, rfl⟩ := List.mem_map.mp hd
  exact nw_la h.mhi (h.ok l hl)) (by simp; have := h.hi; omega)
theorem tg_sharing {m : Nat} {ls : List La} (h : LsOk m ls) {rows : List (List Rat)} (hs : ShOk m ls rows) : Tg (shD rows) := sh_tup (fun d hd => by
  obtain ⟨x, hx, rfl⟩ := List.mem_map.mp hd
  refine sm_row (by simp [hs.rlen x hx]; have := h.mhi; omega) fun w hw => ?_
  obtain ⟨y, hy, rfl⟩ := List.mem_map.mp hw
  exact (sm_q ((hs.nn x hx y hy).2.mono (by decide))).mono (by decide) (by decide)) (by simp [hs.len]; have := h.hi; omega)
theorem mean_lc {i j x y : Nat} {g : G} {r s : List Rat} {fi : Fa} {k : Nat} (hk : k ≤ 2000) (hr : ∀ x ∈ r, B0 k x) (hs : ∀ x ∈ s, B0 k x) (hl : r.length ≤ 1000) (hi : fi g = some ((r.zip s).map fun p => .tuple [qD p.1, qD p.2], g)) (hx : g[x]? = some .no ∨ ∃ d, g[x]? = some (.v d)) (hy : g[y]? = some .no ∨ ∃ d, g[y]? = some (.v d)) (hxy : x ≠ y) :
    ∃ g', vLc fi (gTup (gsCons (gVar x) (gsCons (gVar y) gsNil)) 2) cYes (eV (eCall m__law_times (aCons (eTup (aCons (eC (.int 1)) (aCons (eC (.int 2)) aNil))) (aCons (eV (eCall m__law_plus (aCons (eVar x) (aCons (eVar y) aNil)))) aNil)))) [x, y] g = some (.own none ((r.zip s).map fun p => qD (hf * (p.1 + p.2))), g') ∧ g' = g := by
  have ix : x < g.length := by rcases hx with h | ⟨d, h⟩ <;> exact (List.getElem?_eq_some_iff.mp h).1
  have iy : y < g.length := by rcases hy with h | ⟨d, h⟩ <;> exact (List.getElem?_eq_some_iff.mp h).1
  have ok : okW g [x, y] = true := by
    unfold okW
    rcases hx with h | ⟨d, h⟩ <;> rcases hy with h2 | ⟨e, h2⟩ <;> simp [h, h2]
  obtain ⟨w, hw⟩ : ∃ w, w = wipeG g [x, y] := ⟨_, rfl⟩
  have wl : w.length = g.length := by rw [hw, wipeG_len]
  have wx : w[x]? = some .no := by
    rw [hw]
    show ((g.set y .no).set x .no)[x]? = _
    rw [List.getElem?_set_self (by simpa using ix)]
  have wy : w[y]? = some .no := by
    rw [hw]
    show ((g.set y .no).set x .no)[y]? = _
    rw [List.getElem?_set_ne hxy, List.getElem?_set_self iy]
  have ww : wipeG w [x, y] = w := by
    obtain ⟨_, e1⟩ := List.getElem?_eq_some_iff.mp wx
    obtain ⟨_, e2⟩ := List.getElem?_eq_some_iff.mp wy
    show (w.set y .no).set x .no = w
    have a : w.set y Sl.no = w := by rw [← e2, List.set_getElem_self]
    rw [a, ← e1, List.set_getElem_self]
  have v := vLc_map (fi := fi) (t := gTup (gsCons (gVar x) (gsCons (gVar y) gsNil)) 2) (c := cYes) (f := eV (eCall m__law_times (aCons (eTup (aCons (eC (.int 1)) (aCons (eC (.int 2)) aNil))) (aCons (eV (eCall m__law_plus (aCons (eVar x) (aCons (eVar y) aNil)))) aNil)))) (vs := [x, y]) (g := g) (g0 := g) (xs := r.zip s) (fun p => .tuple [qD p.1, qD p.2]) (fun p => qD (hf * (p.1 + p.2))) hi ok (by rw [List.length_zip]; omega) (fun p hp => by
    rw [← hw]
    have hz := List.of_mem_zip hp
    have a := hr _ hz.1
    have b := hs _ hz.2
    have ix' : x < w.length := by omega
    have iy' : y < w.length := by omega
    refine ⟨(w.set x (.v (qD p.1))).set y (.v (qD p.2)), (w.set x (.v (qD p.1))).set y (.v (qD p.2)), rfl, rfl, ?_, ?_⟩
    · have vx : eVar x ((w.set x (.v (qD p.1))).set y (.v (qD p.2))) = some (qD p.1, (w.set x (.v (qD p.1))).set y (.v (qD p.2))) := ev_of (by rw [List.getElem?_set_ne (Ne.symm hxy), List.getElem?_set_self ix'])
      have vy : eVar y ((w.set x (.v (qD p.1))).set y (.v (qD p.2))) = some (qD p.2, (w.set x (.v (qD p.1))).set y (.v (qD p.2))) := ev_of (by rw [List.getElem?_set_self (by simpa using iy')])
      have k1 := law_plus_ok (r := p.1) (s := p.2) (a.mono (by omega)) (b.mono (by omega))
      have k2 := law_times_ok (r := hf) (s := p.1 + p.2) (b0_hf.mono (by decide)) ((a.add b).mono (by omega))
      rw [q_hf] at k2
      exact eV_v (eCall_of (ar_cons (eTup_of (ar_cons (f := eC (.int 1)) rfl (ar_cons (f := eC (.int 2)) rfl ar_nil))) (ar_cons (eV_v (eCall_of (ar_cons vx (ar_cons vy ar_nil)) k1)) ar_nil)) k2)
    · show (((w.set x (.v (qD p.1))).set y (.v (qD p.2))).set y .no).set x .no = w
      rw [List.set_set, List.set_comm _ _ hxy, List.set_set]
      exact ww)
  refine ⟨_, v, ?_⟩
  rw [← hw]
  show (w.set y (g.getD y .no)).set x (g.getD x .no) = g
  rw [hw]
  apply List.ext_getElem?
  intro q
  show ((((g.set y .no).set x .no).set y (g.getD y .no)).set x (g.getD x .no))[q]? = g[q]?
  by_cases q1 : q = x
  · subst q1
    rw [List.getElem?_set_self (by simpa using ix)]
    simp [List.getD_eq_getElem?_getD, ix]
  · rw [List.getElem?_set_ne (Ne.symm q1)]
    by_cases q2 : q = y
    · subst q2
      rw [List.getElem?_set_self (by simpa using iy)]
      simp [List.getD_eq_getElem?_getD, iy]
    · rw [List.getElem?_set_ne (Ne.symm q2), List.getElem?_set_ne (Ne.symm q1), List.getElem?_set_ne (Ne.symm q2)]
end K64
set_option Elab.async false
set_option linter.all false
set_option maxRecDepth 100000
namespace K64
open PySem Dl
theorem half_loop {m : Nat} (hm6 : m ≤ 6) (a0 a1 a2 a3 a4 a5 a9 a10 : Sl) : ∀ (ps : List (List Rat × List Rat)) (acc : List (List Rat)) (z7 z8 : Sl), (∀ p ∈ ps, p.1.length = m ∧ p.2.length = m ∧ (∀ x ∈ p.1, B0 100 x) ∧ ∀ x ∈ p.2, B0 100 x) → acc.length + ps.length ≤ 1000 → Pl z7 → Pl z8 →
    ∃ z7' z8', Pl z7' ∧ Pl z8' ∧ forGo (gTup (gsCons (gVar 7) (gsCons (gVar 8) gsNil)) 2) (sEx (eApp 6 (vE (eUn tupD (eV (vLc (iZipU (aCons (eVar 7) (aCons (eVar 8) aNil))) (gTup (gsCons (gVar 11) (gsCons (gVar 12) gsNil)) 2) cYes (eV (eCall m__law_times (aCons (eTup (aCons (eC (.int 1)) (aCons (eC (.int 2)) aNil))) (aCons (eV (eCall m__law_plus (aCons (eVar 11) (aCons (eVar 12) aNil)))) aNil)))) [11, 12])))))) (ps.map fun p => .tuple [rowD p.1, rowD p.2]) [a0, a1, a2, a3, a4, a5, .own none (acc.map rowD), z7, z8, a9, a10, .no, .no] =
      some (.nx [a0, a1, a2, a3, a4, a5, .own none ((acc ++ ps.map fun p => hrow p.1 p.2).map rowD), z7', z8', a9, a10, .no, .no])
  | [], acc, z7, z8, _, _, p7, p8 => ⟨z7, z8, p7, p8, by simp [forGo]⟩
  | p :: ps, acc, z7, z8, H, hl, _, _ => by
    simp only [List.length_cons] at hl
    obtain ⟨r, s⟩ := p
    obtain ⟨l1, l2, b1, b2⟩ := H (r, s) (by simp)
    have l1 : r.length = m := l1
    have l2 : s.length = m := l2
    obtain ⟨z7', z8', q7, q8, k⟩ := half_loop hm6 a0 a1 a2 a3 a4 a5 a9 a10 ps (acc ++ [hrow r s]) (.v (rowD r)) (.v (rowD s)) (fun x hx => H x (List.mem_cons_of_mem _ hx)) (by simp; omega) (.inr ⟨_, rfl⟩) (.inr ⟨_, rfl⟩)
    refine ⟨z7', z8', q7, q8, ?_⟩
    have it := zipU_of (f := aCons (eVar 7) (aCons (eVar 8) aNil)) (g := [a0, a1, a2, a3, a4, a5, .own none (acc.map rowD), .v (rowD r), .v (rowD s), a9, a10, .no, .no]) (F := qD) (H := qD) (l := r) (m := s) (ar_cons (f := eVar 7) rfl (ar_cons (f := eVar 8) rfl ar_nil)) rfl rfl
    obtain ⟨g', v, rfl⟩ := mean_lc (i := 0) (j := 0) (x := 11) (y := 12) (k := 100) (by decide) b1 b2 (by omega) it (.inl rfl) (.inl rfl) (by decide)
    have u : eUn tupD (eV (vLc (iZipU (aCons (eVar 7) (aCons (eVar 8) aNil))) (gTup (gsCons (gVar 11) (gsCons (gVar 12) gsNil)) 2) cYes (eV (eCall m__law_times (aCons (eTup (aCons (eC (.int 1)) (aCons (eC (.int 2)) aNil))) (aCons (eV (eCall m__law_plus (aCons (eVar 11) (aCons (eVar 12) aNil)))) aNil)))) [11, 12])) [a0, a1, a2, a3, a4, a5, .own none (acc.map rowD), .v (rowD r), .v (rowD s), a9, a10, .no, .no] = some (rowD (hrow r s), [a0, a1, a2, a3, a4, a5, .own none (acc.map rowD), .v (rowD r), .v (rowD s), a9, a10, .no, .no]) := eUn_of (eV_o v) (by simp [tupD, rowD, hrow, seqD])
    have ap := app_data (i := 6) (ds := acc.map rowD) rfl u (by simp; omega)
    have e : acc.map rowD ++ [rowD (hrow r s)] = (acc ++ [hrow r s]).map rowD := by simp
    rw [e] at ap
    have tg : gTup (gsCons (gVar 7) (gsCons (gVar 8) gsNil)) 2 (.tuple [rowD r, rowD s]) [a0, a1, a2, a3, a4, a5, .own none (acc.map rowD), z7, z8, a9, a10, .no, .no] = some [a0, a1, a2, a3, a4, a5, .own none (acc.map rowD), .v (rowD r), .v (rowD s), a9, a10, .no, .no] := rfl
    rw [List.map_cons, forGo, tg]
    simp only [Option.bind_some]
    rw [ap]
    have e2 : acc ++ [hrow r s] ++ ps.map (fun p => hrow p.1 p.2) = acc ++ ((r, s) :: ps).map fun p => hrow p.1 p.2 := by simp
    rw [e2] at k
    exact k
theorem is_right_ok {es : List D} {m : Nat} {ls : List La} {rows : List (List Rat)} (hH : Hand es) (h : LsOk m ls) (hs : ShOk m ls rows) (hr : ∀ p ∈ ls.zip rows, RowOk m p.1 p.2) : ∃ es', m__law_is_right es [lsD ls, shD rows] = some (.v (.bool true), es') ∧ Hand es' := by
  have hhi := h.hi
  have hm := h.mlo
  have hm6 := h.mhi
  obtain ⟨D1, es1, e1, t1, n1, H1⟩ := lands_near_ok hH h
  obtain ⟨D2, es2, e2, t2, n2, H2⟩ := sharings_near_ok H1 h hs hr
  obtain ⟨rows2, es3, e3, hs2, hr2, H3⟩ := drawn_sharing_ok H2 h true
  have hh := half_ok hs hs2 hr hr2
  have lens : rows.length = rows2.length := by rw [hs.len, hs2.len]
  have zlen : ∀ p ∈ rows.zip rows2, p.1.length = p.2.length := fun p hp => by
    have := List.of_mem_zip hp
    rw [hs.rlen _ this.1, hs2.rlen _ this.2]
  have rowAt : ∀ {rs : List (List Rat)}, rs.length = ls.length → (∀ p ∈ ls.zip rs, RowOk m p.1 p.2) → ∀ r ∈ rs, ∃ l, RowOk m l r := fun {rs} e H r hr => by
    obtain ⟨i, hi, q⟩ := List.getElem_of_mem hr
    have hi2 : i < ls.length := by omega
    exact ⟨ls[i], H (ls[i], r) (by
      rw [List.mem_iff_getElem?]
      exact ⟨i, by rw [List.getElem?_zip_eq_some]; exact ⟨List.getElem?_eq_getElem hi2, by rw [List.getElem?_eq_getElem hi, q]⟩⟩)⟩
  refine ⟨es3, ?_, H3⟩
  unfold m__law_is_right
  refine fnI_ret fun a => ?_
  obtain ⟨A, hA⟩ : ∃ A : D, A = lsD ls := ⟨_, rfl⟩
  obtain ⟨B, hB⟩ : ∃ B : D, B = shD rows := ⟨_, rfl⟩
  have TA : Tg A := hA ▸ tg_lands h
  have TB : Tg B := hB ▸ tg_sharing h hs
  rw [← hA] at e1 e2 e3
  rw [← hB] at e2
  -- the first loop
  have i1 : iSeq (eV (vCatE (eV (vLst (aCons (eVar 1) aNil))) (eV (eCallI m__law_lands_near 0 (aCons (eVar 1) aNil))))) [.own (some a) es, .v A, .v B, .no, .no, .no, .no, .no, .no, .no, .no, .no, .no] = some (A :: D1, [.own (some a) es1, .v A, .v B, .no, .no, .no, .no, .no, .no, .no, .no, .no, .no]) := by
    have c := callI_of (i := 0) (t := some a) (g := [.own (some a) es, .v A, .v B, .no, .no, .no, .no, .no, .no, .no, .no, .no, .no]) (g1 := [.own (some a) es, .v A, .v B, .no, .no, .no, .no, .no, .no, .no, .no, .no, .no]) rfl (ar_cons (f := eVar 1) rfl ar_nil) rfl e1
    exact iSeq_of (eV_o (vCatE_of (xs := [A]) (eV_o (vLst_of (ar_cons (f := eVar 1) rfl ar_nil))) (eV_o c) (by simp; omega))) rfl
  obtain ⟨g1, F1, z3, z4, hg1⟩ := forGo_inv (t := gVar 3) (b := (sSeq (sSet 4 (vE (eUn reprD (bVar 3)))) (sIf (tOrT (tNotT (tOf (eV (eCall m__law_is (aCons (eV (eCall m_is_lands (aCons (eVar 3) aNil))) (aCons (eV (eCall m__law_is_lands (aCons (eVar 3) aNil))) aNil)))))) (tOf (eBin neD (eUn reprD (bVar 3)) (eVar 4)))) (sRet (vE (eC (.bool false)))) sNil)))
    (fun g => ∃ z3 z4, g = [.own (some a) es1, .v A, .v B, z3, z4, .no, .no, .no, .no, .no, .no, .no, .no]) (A :: D1) (fun d hd g hg => by
      obtain ⟨z3, z4, rfl⟩ := hg
      have ht : Tg d := by
        rcases List.mem_cons.mp hd with rfl | hd
        · exact TA
        · exact t1 d hd
      obtain ⟨z, k⟩ := judge_body (f1 := eV (eCall m_is_lands (aCons (eVar 3) aNil))) (f2 := eV (eCall m__law_is_lands (aCons (eVar 3) aNil))) ht (.own (some a) es1) (.v A) (.v B) z4 .no .no .no .no .no .no .no .no (fun z => eV_v (eCall_of (ar_cons (f := eVar 3) rfl ar_nil) (is_lands_J ht.gd))) (fun z => eV_v (eCall_of (ar_cons (f := eVar 3) rfl ar_nil) (law_lands_J (by decide) ht.gd)))
      exact ⟨_, _, rfl, k, _, _, rfl⟩) [.own (some a) es1, .v A, .v B, .no, .no, .no, .no, .no, .no, .no, .no, .no, .no] ⟨_, _, rfl⟩
  subst hg1
  have s1 := for_of i1 F1
  -- the second loop
  have i2 : iSeq (eV (vCatE (eV (vLst (aCons (eVar 2) aNil))) (eV (eCallI m__law_sharings_near 0 (aCons (eVar 1) (aCons (eVar 2) aNil)))))) [.own (some a) es1, .v A, .v B, z3, z4, .no, .no, .no, .no, .no, .no, .no, .no] = some (B :: D2, [.own (some a) es2, .v A, .v B, z3, z4, .no, .no, .no, .no, .no, .no, .no, .no]) := by
    have c := callI_of (i := 0) (t := some a) (g := [.own (some a) es1, .v A, .v B, z3, z4, .no, .no, .no, .no, .no, .no, .no, .no]) (g1 := [.own (some a) es1, .v A, .v B, z3, z4, .no, .no, .no, .no, .no, .no, .no, .no]) rfl (ar_cons (f := eVar 1) rfl (ar_cons (f := eVar 2) rfl ar_nil)) rfl e2
    exact iSeq_of (eV_o (vCatE_of (xs := [B]) (eV_o (vLst_of (ar_cons (f := eVar 2) rfl ar_nil))) (eV_o c) (by simp; omega))) rfl
  obtain ⟨g2, F2, y3, y4, hg2⟩ := forGo_inv (t := gVar 3) (b := (sSeq (sSet 4 (vE (eUn reprD (bVar 3)))) (sIf (tOrT (tNotT (tOf (eV (eCall m__law_is (aCons (eV (eCall m_is_sharing (aCons (eVar 1) (aCons (eVar 3) aNil)))) (aCons (eV (eCall m__law_is_sharing (aCons (eVar 1) (aCons (eVar 3) aNil)))) aNil)))))) (tOf (eBin neD (eUn reprD (bVar 3)) (eVar 4)))) (sRet (vE (eC (.bool false)))) sNil)))
    (fun g => ∃ z3 z4, g = [.own (some a) es2, .v A, .v B, z3, z4, .no, .no, .no, .no, .no, .no, .no, .no]) (B :: D2) (fun d hd g hg => by
      obtain ⟨z3, z4, rfl⟩ := hg
      have ht : Tg d := by
        rcases List.mem_cons.mp hd with rfl | hd
        · exact TB
        · exact t2 d hd
      have j1 := is_sharing_J h ht.gd
      have j2 := law_sharing_J h ht.gd
      rw [← hA] at j1 j2
      obtain ⟨z, k⟩ := judge_body (f1 := eV (eCall m_is_sharing (aCons (eVar 1) (aCons (eVar 3) aNil)))) (f2 := eV (eCall m__law_is_sharing (aCons (eVar 1) (aCons (eVar 3) aNil)))) ht (.own (some a) es2) (.v A) (.v B) z4 .no .no .no .no .no .no .no .no (fun z => eV_v (eCall_of (ar_cons (f := eVar 1) rfl (ar_cons (f := eVar 3) rfl ar_nil)) j1)) (fun z => eV_v (eCall_of (ar_cons (f := eVar 1) rfl (ar_cons (f := eVar 3) rfl ar_nil)) j2))
      exact ⟨_, _, rfl, k, _, _, rfl⟩) [.own (some a) es2, .v A, .v B, z3, z4, .no, .no, .no, .no, .no, .no, .no, .no] ⟨_, _, rfl⟩
  subst hg2
  have s2 := for_of i2 F2
  -- another sharing
  obtain ⟨C, hC⟩ : ∃ C : D, C = shD rows2 := ⟨_, rfl⟩
  rw [← hC] at e3
  have c3 : eCallI m__law_drawn_sharing 0 (aCons (eVar 1) (aCons (eC (.bool true)) aNil)) [.own (some a) es2, .v A, .v B, y3, y4, .no, .no, .no, .no, .no, .no, .no, .no] = some (.v C, [.own (some a) es3, .v A, .v B, y3, y4, .no, .no, .no, .no, .no, .no, .no, .no]) := callI_of (i := 0) (t := some a) (g1 := [.own (some a) es2, .v A, .v B, y3, y4, .no, .no, .no, .no, .no, .no, .no, .no]) rfl (ar_cons (f := eVar 1) rfl (ar_cons (f := eC (.bool true)) rfl ar_nil)) rfl e3
  have s3 := set_v (i := 5) c3
  have s4 : sSet 6 (vLst aNil) [.own (some a) es3, .v A, .v B, y3, y4, .v C, .no, .no, .no, .no, .no, .no, .no] = some (.nx [.own (some a) es3, .v A, .v B, y3, y4, .v C, .own none [], .no, .no, .no, .no, .no, .no]) := rfl
  obtain ⟨x7, x8, px7, px8, F5⟩ := half_loop hm6 (.own (some a) es3) (.v A) (.v B) y3 y4 (.v C) .no .no (rows.zip rows2) [] .no .no (fun p hp => by
    have hz := List.of_mem_zip hp
    obtain ⟨l1, o1⟩ := rowAt hs.len hr _ hz.1
    obtain ⟨l2, o2⟩ := rowAt hs2.len hr2 _ hz.2
    exact ⟨hs.rlen _ hz.1, hs2.rlen _ hz.2, fun x hx => (o1.nn x hx).2, fun x hx => (o2.nn x hx).2⟩) (by rw [List.length_zip, hs.len]; simp; omega) (.inl rfl) (.inl rfl)
  have e5 : ([] : List (List Rat)) ++ (rows.zip rows2).map (fun p => hrow p.1 p.2) = half rows rows2 := rfl
  rw [e5] at F5
  have i5 := zipU_of (f := aCons (eVar 2) (aCons (eVar 5) aNil)) (g := [.own (some a) es3, .v A, .v B, y3, y4, .v C, .own none [], .no, .no, .no, .no, .no, .no]) (g1 := [.own (some a) es3, .v A, .v B, y3, y4, .v C, .own none [], .no, .no, .no, .no, .no, .no]) (F := rowD) (H := rowD) (l := rows) (m := rows2) (ar_cons (f := eVar 2) rfl (ar_cons (f := eVar 5) rfl ar_nil)) (by rw [hB]; rfl) (by rw [hC]; rfl)
  have s5 := for_of i5 F5
  obtain ⟨hv, hhv⟩ : ∃ hv, hv = half rows rows2 := ⟨_, rfl⟩
  rw [← hhv] at s5
  -- the worlds
  have w1 := world_ok h hs
  have w2 := world_ok h hs2
  have w3 := world_ok h hh
  rw [← hhv] at w3 hh
  rw [← hA, ← hB] at w1
  rw [← hA, ← hC] at w2
  rw [← hA] at w3
  obtain ⟨G, hG⟩ : ∃ G : Dl.G, G = [.own (some a) es3, .v A, .v B, y3, y4, .v C, .own none (hv.map rowD), x7, x8, .no, .no, .no, .no] := ⟨_, rfl⟩
  have u1 : eVar 1 G = some (A, G) := by rw [hG]; rfl
  have u2 : eVar 2 G = some (B, G) := by rw [hG]; rfl
  have u5 : eVar 5 G = some (C, G) := by rw [hG]; rfl
  have u6 : eUn tupD (bVar 6) G = some (shD hv, G) := eUn_of (d := .list (hv.map rowD)) (by rw [hG]; rfl) rfl
  have v9 := vLst_of (ar_cons (eV_v (eCall_of (ar_cons u1 (ar_cons u2 ar_nil)) w1.1)) (ar_cons (eV_v (eCall_of (ar_cons u1 (ar_cons u5 ar_nil)) w2.1)) (ar_cons (eV_v (eCall_of (ar_cons u1 (ar_cons u6 ar_nil)) w3.1)) ar_nil)))
  have s9 := set_o (i := 9) v9
  rw [hG] at s9
  -- told[:2]
  obtain ⟨G2, hG2⟩ : ∃ G2 : Dl.G, G2 = [.own (some a) es3, .v A, .v B, y3, y4, .v C, .own none (hv.map rowD), x7, x8, .v (.list [rowD (wld m rows), rowD (wld m rows2), rowD (wld m hv)]), .no, .no, .no] := ⟨_, rfl⟩
  have wl : ∀ rs, (wld m rs).length = m := fun rs => by simp [wld]
  have cut : eSlU (eVar 9) oNone (oSome (eC (.int 2))) [.own (some a) es3, .v A, .v B, y3, y4, .v C, .own none (hv.map rowD), x7, x8, .own none [rowD (wld m rows), rowD (wld m rows2), rowD (wld m hv)], .no, .no, .no] = some (.list [rowD (wld m rows), rowD (wld m rows2)], G2) := by
    rw [hG2]
    exact eSlU_ofL (fa := eVar 9) (fl := oNone) (fh := oSome (eC (.int 2))) (g := [.own (some a) es3, .v A, .v B, y3, y4, .v C, .own none (hv.map rowD), x7, x8, .own none [rowD (wld m rows), rowD (wld m rows2), rowD (wld m hv)], .no, .no, .no]) (ds := [rowD (wld m rows), rowD (wld m rows2), rowD (wld m hv)]) (g1 := [.own (some a) es3, .v A, .v B, y3, y4, .v C, .own none (hv.map rowD), x7, x8, .v (.list [rowD (wld m rows), rowD (wld m rows2), rowD (wld m hv)]), .no, .no, .no]) rfl rfl (oSome_of rfl)
  have q1 : eVar 1 G2 = some (A, G2) := by rw [hG2]; rfl
  have q2 : eVar 2 G2 = some (B, G2) := by rw [hG2]; rfl
  have q5 : eVar 5 G2 = some (C, G2) := by rw [hG2]; rfl
  have lw := eV_o (vLst_of (ar_cons (eV_v (eCall_of (ar_cons q1 (ar_cons q2 ar_nil)) w1.2)) (ar_cons (eV_v (eCall_of (ar_cons q1 (ar_cons q5 ar_nil)) w2.2)) ar_nil)))
  have j := is_two (rowD (wld m rows)) (rowD (wld m rows2)) (fun d hd => by
    simp only [List.mem_cons, List.not_mem_nil, or_false] at hd
    rcases hd with rfl | rfl
    · exact is_row 4 _ (by rw [wl]; omega)
    · exact is_row 4 _ (by rw [wl]; omega))
  have t6 := tNot_of (b := true) (tOf_b (eV_v (eCall_of (m := m__law_is) (ar_cons cut (ar_cons lw ar_nil)) j)))
  -- the mean
  have wb : ∀ {rs : List (List Rat)}, ShOk m ls rs → ∀ x ∈ wld m rs, B0 2000 x := fun {rs} o x hx => by
    obtain ⟨i, hi, rfl⟩ := List.mem_map.mp hx
    have hi := List.mem_range.mp hi
    have := S_b1 (k := 250) (f := fun r : List Rat => r.getD i 0) (l := rs) (fun r hr => by
      have hu : r.getD i 0 ∈ r := by
        have : i < r.length := by rw [o.rlen r hr]; exact hi
        exact List.mem_of_getElem? (i := i) (by simp [this])
      exact (o.nn r hr _ hu).2)
    have hl : rs.length ≤ 6 := by rw [o.len]; exact hhi
    have h2 : rs.length * (250 + 1) ≤ 6 * 251 := Nat.mul_le_mul_right _ hl
    exact this.mono (by omega)
  have p0 : eIxV 9 (eC (.int 0)) G2 = some (rowD (wld m rows), G2) := by rw [hG2]; exact ixV_v rfl rfl rfl rfl
  have p1 : eIxV 9 (eC (.int 1)) G2 = some (rowD (wld m rows2), G2) := by rw [hG2]; exact ixV_v rfl rfl rfl rfl
  have p2 : ∀ z, eIxV 9 (eC (.int 2)) (G2.set 10 z) = some (rowD (wld m hv), G2.set 10 z) := fun z => by rw [hG2]; exact ixV_v rfl rfl rfl rfl
  have i10 := zipU_of (f := aCons (eIxV 9 (eC (.int 0))) (aCons (eIxV 9 (eC (.int 1))) aNil)) (g := G2) (F := qD) (H := qD) (l := wld m rows) (m := wld m rows2) (ar_cons p0 (ar_cons p1 ar_nil)) rfl rfl
  obtain ⟨g', lc10, hgg⟩ := mean_lc (i := 0) (j := 0) (x := 7) (y := 8) (k := 2000) (by decide) (wb hs) (wb hs2) (by rw [wl]; omega) i10 (by
    rw [hG2]
    rcases px7 with rfl | ⟨d, rfl⟩
    · exact .inl rfl
    · exact .inr ⟨d, rfl⟩) (by
    rw [hG2]
    rcases px8 with rfl | ⟨d, rfl⟩
    · exact .inl rfl
    · exact .inr ⟨d, rfl⟩) (by decide)
  rw [hgg] at lc10
  have mean : (((wld m rows).zip (wld m rows2)).map fun p => qD (hf * (p.1 + p.2))) = (wld m hv).map qD := by
    rw [hhv, wld_half lens zlen, List.map_map]
    rfl
  rw [mean] at lc10
  have s10 := set_v (i := 10) (vE_of (eUn_of (op := tupD) (d2 := rowD (wld m hv)) (eV_o lc10) rfl))
  obtain ⟨G3, hG3⟩ : ∃ G3 : Dl.G, G3 = G2.set 10 (.v (rowD (wld m hv))) := ⟨_, rfl⟩
  have j2 : m__law_is [rowD (wld m hv), rowD (wld m hv)] = some (.v (.bool true)) := is_row 5 _ (by rw [wl]; omega)
  have r10 : eVar 10 G3 = some (rowD (wld m hv), G3) := ev_of (by rw [hG3, List.getElem?_set_self (by rw [hG2]; simp)])
  have r1 : eVar 1 G3 = some (A, G3) := by rw [hG3, hG2]; rfl
  have r6 : eUn tupD (bVar 6) G3 = some (shD hv, G3) := by rw [hG3, hG2]; exact eUn_of (f := bVar 6) (d := .list (hv.map rowD)) rfl rfl
  have js := is_sharing_J h (hh.gd h)
  rw [hh.is, ← hA] at js
  have f1 := eV_v (eCall_of (m := m__law_is) (ar_cons (p2 (.v (rowD (wld m hv)))) (ar_cons (hG3 ▸ r10) ar_nil)) j2)
  rw [← hG3] at f1
  have f2 : eBin isBD (eV (eCall m_is_sharing (aCons (eVar 1) (aCons (eUn tupD (bVar 6)) aNil)))) (eC (.bool true)) G3 = some (.bool true, G3) := eBin_of (h := eC (.bool true)) (eV_v (eCall_of (ar_cons r1 (ar_cons r6 ar_nil)) js)) rfl rfl
  have rt := ret_v (vE_of (eAnd_t f1 f2))
  rw [← hG3] at s10
  refine ⟨G3, ?_, by rw [hG3, hG2]; rfl⟩
  rw [← hA, ← hB]
  unfold b__law_is_right
  exact seq_nx s1 (seq_nx s2 (seq_nx s3 (seq_nx s4 (seq_nx s5 (seq_nx s9 (seq_nx (if_f (h := sNil) t6 rfl) (seq_nx s10 rt)))))))
end K64
set_option Elab.async false
set_option linter.all false
set_option maxRecDepth 100000
namespace K64
open PySem Dl
def kl0 : La := ⟨100, [some 1, some 2]⟩
def kl1 : La := ⟨60, [some 3, none]⟩
def kls : List La := [kl0, kl1]
def kr0 : List (List Rat) := [[0, 50], [20, 0]]
def kr1 : List (List Rat) := [[0, 51], [20, 0]]
theorem po {r : Rat} (h1 : r.num.natAbs < 2 ^ 30) (h2 : r.den < 2 ^ 30) (h3 : 0 < r) : Po 30 r := ⟨⟨h1, h2⟩, h3⟩
theorem kok : LsOk 2 kls := by
  refine ⟨by decide, by decide, by decide, by decide, fun l hl => ?_, fun g hg => ?_⟩
  · simp only [kls, List.mem_cons, List.not_mem_nil, or_false] at hl
    rcases hl with rfl | rfl
    · refine ⟨po (by decide) (by decide) (by decide +kernel), rfl, fun r hr => ?_, ⟨1, by simp [kl0]⟩⟩
      simp only [kl0, List.mem_cons, List.not_mem_nil, or_false, Option.some.injEq] at hr
      rcases hr with rfl | rfl
      · exact po (by decide) (by decide) (by decide +kernel)
      · exact po (by decide) (by decide) (by decide +kernel)
    · refine ⟨po (by decide) (by decide) (by decide +kernel), rfl, fun r hr => ?_, ⟨3, by simp [kl1]⟩⟩
      simp only [kl1, List.mem_cons, List.not_mem_nil, or_false, Option.some.injEq, reduceCtorEq] at hr
      subst hr
      exact po (by decide) (by decide) (by decide +kernel)
  · match g, hg with
    | 0, _ => exact ⟨kl0, by simp [kls], 1, rfl⟩
    | 1, _ => exact ⟨kl0, by simp [kls], 2, rfl⟩
theorem b250 {r : Rat} (h0 : 0 ≤ r) (h1 : r.num.natAbs < 2 ^ 250) (h2 : r.den < 2 ^ 250) : 0 ≤ r ∧ B0 250 r := ⟨h0, h1, h2⟩
theorem ksh : ShOk 2 kls kr0 := by
  refine ⟨rfl, fun r hr => ?_, fun r hr x hx => ?_, fun p hp => ?_⟩
  · simp only [kr0, List.mem_cons, List.not_mem_nil, or_false] at hr
    rcases hr with rfl | rfl <;> rfl
  · simp only [kr0, List.mem_cons, List.not_mem_nil, or_false] at hr
    rcases hr with rfl | rfl
    · simp only [List.mem_cons, List.not_mem_nil, or_false] at hx
      rcases hx with rfl | rfl <;> exact b250 (by decide +kernel) (by decide +kernel) (by decide +kernel)
    · simp only [List.mem_cons, List.not_mem_nil, or_false] at hx
      rcases hx with rfl | rfl <;> exact b250 (by decide +kernel) (by decide +kernel) (by decide +kernel)
  · simp only [kls, kr0, List.zip_cons_cons, List.zip_nil_right, List.mem_cons, List.not_mem_nil, or_false] at hp
    rcases hp with rfl | rfl <;> decide +kernel
theorem k1gd : Dl.gd 400 (shD kr1) = true := by decide +kernel
theorem k1no : isSharing 2 kls (shD kr1) = false := by
  show (decide ((kr1.map rowD).length = kls.length) && (isPart 2 kl0 (rowD [0, 51]) && (isPart 2 kl1 (rowD [20, 0]) && true))) = false
  have n0 : ∀ r ∈ ([0, 51] : List Rat), 0 ≤ r := fun r hr => by
    simp only [List.mem_cons, List.not_mem_nil, or_false] at hr
    rcases hr with rfl | rfl <;> decide +kernel
  rw [isPart_row (m := 2) (l := kl0) (rs := [0, 51]) rfl n0]
  have : okRow kl0 [0, 51] = false := by decide +kernel
  rw [this]
  simp
theorem k2gd : Dl.gd 400 (.tuple [laD kl1]) = true := by decide +kernel
theorem k2no : isLands (.tuple [laD kl1]) = false := by decide +kernel
theorem kw : rowD (wld 2 kr0) = .tuple [.tuple [.int 20, .int 1], .tuple [.int 50, .int 1]] := by
  have : wld 2 kr0 = [20, 50] := by decide +kernel
  rw [this]
  rfl
theorem known_ok : m__law_is_known_right [] = some (.v (.bool true)) := by
  have c1 := is_lands_ok kok
  have c2 := is_sharing_J kok (ksh.gd kok)
  rw [ksh.is] at c2
  have c3 := is_sharing_J kok k1gd
  rw [k1no] at c3
  have c4 := is_lands_J k2gd
  rw [k2no] at c4
  have c5 := (world_ok kok ksh).1
  rw [kw] at c5
  obtain ⟨FL, hFL⟩ : ∃ FL : List D, FL = [.bool true, .bool true, .bool false, .bool false] := ⟨_, rfl⟩
  obtain ⟨WD, hWD⟩ : ∃ WD : D, WD = .tuple [.tuple [.int 20, .int 1], .tuple [.int 50, .int 1]] := ⟨_, rfl⟩
  rw [← hWD] at c5
  have j := is_two (.list FL) WD (fun d hd => by
    simp only [List.mem_cons, List.not_mem_nil, or_false] at hd
    rcases hd with rfl | rfl
    · show fnP (b__law_is (mr__law_is 6)) 4 _ = _
      refine is_seq isi2_l isi_tl isi_ll rfl rfl (by rw [hFL]; decide) fun d hd => ?_
      rw [hFL] at hd
      simp only [List.mem_cons, List.not_mem_nil, or_false] at hd
      rcases hd with rfl | rfl | rfl | rfl <;> exact is_b 5 _
    · rw [hWD, ← kw]
      exact is_row 4 _ (by simp [wld]))
  obtain ⟨S0, hS0⟩ : ∃ S0 : D, S0 = shD kr0 := ⟨_, rfl⟩
  obtain ⟨S1, hS1⟩ : ∃ S1 : D, S1 = shD kr1 := ⟨_, rfl⟩
  obtain ⟨L, hL⟩ : ∃ L : D, L = lsD kls := ⟨_, rfl⟩
  unfold m__law_is_known_right b__law_is_known_right
  have s1 : ∀ f, (f = vE (eTup (aCons (eTup (aCons (eTup (aCons (eC (.int 100)) (aCons (eC (.int 1)) aNil))) (aCons (eTup (aCons (eTup (aCons (eC (.int 1)) (aCons (eC (.int 1)) aNil))) (aCons (eTup (aCons (eC (.int 2)) (aCons (eC (.int 1)) aNil))) aNil))) aNil))) (aCons (eTup (aCons (eTup (aCons (eC (.int 60)) (aCons (eC (.int 1)) aNil))) (aCons (eTup (aCons (eTup (aCons (eC (.int 3)) (aCons (eC (.int 1)) aNil))) (aCons (eC .none) aNil))) aNil))) aNil)))) → sSet 0 f [.no, .no, .no] = some (.nx [.v L, .no, .no]) := fun f hf => by
    rw [hf, hL]
    rfl
  have s2 : ∀ f, (f = vLst (aCons (eTup (aCons (eTup (aCons (eTup (aCons (eC (.int 0)) (aCons (eC (.int 1)) aNil))) (aCons (eTup (aCons (eC (.int 50)) (aCons (eC (.int 1)) aNil))) aNil))) (aCons (eTup (aCons (eTup (aCons (eC (.int 20)) (aCons (eC (.int 1)) aNil))) (aCons (eTup (aCons (eC (.int 0)) (aCons (eC (.int 1)) aNil))) aNil))) aNil))) (aCons (eTup (aCons (eTup (aCons (eTup (aCons (eC (.int 0)) (aCons (eC (.int 1)) aNil))) (aCons (eTup (aCons (eC (.int 51)) (aCons (eC (.int 1)) aNil))) aNil))) (aCons (eTup (aCons (eTup (aCons (eC (.int 20)) (aCons (eC (.int 1)) aNil))) (aCons (eTup (aCons (eC (.int 0)) (aCons (eC (.int 1)) aNil))) aNil))) aNil))) aNil))) → sSet 1 f [.v L, .no, .no] = some (.nx [.v L, .own none [S0, S1], .no]) := fun f hf => by
    rw [hf, hS0, hS1]
    rfl
  rw [← hL] at c1 c2 c3 c5
  rw [← hS0] at c2 c5
  rw [← hS1] at c3
  obtain ⟨G, hG⟩ : ∃ G : Dl.G, G = [.v L, .own none [S0, S1], .no] := ⟨_, rfl⟩
  have v0 : eVar 0 G = some (L, G) := by rw [hG]; rfl
  have x0 : eIxV 1 (eC (.int 0)) G = some (S0, G) := by rw [hG]; exact ixV_v rfl rfl rfl rfl
  have x1 : eIxV 1 (eC (.int 1)) G = some (S1, G) := by rw [hG]; exact ixV_v rfl rfl rfl rfl
  have sl : eSlU (eVar 0) (oSome (eC (.int 1))) oNone G = some (.tuple [laD kl1], G) := by
    have := eSlU_of (fa := eVar 0) (fl := oSome (eC (.int 1))) (fh := oNone) (ds := [laD kl0, laD kl1]) (g := G) (by rw [v0, hL]; rfl) (oSome_of rfl) rfl
    rw [this]
    rfl
  have v2 := vLst_of (ar_cons (eV_v (eCall_of (ar_cons v0 ar_nil) c1)) (ar_cons (eV_v (eCall_of (ar_cons v0 (ar_cons x0 ar_nil)) c2)) (ar_cons (eV_v (eCall_of (ar_cons v0 (ar_cons x1 ar_nil)) c3)) (ar_cons (eV_v (eCall_of (ar_cons sl ar_nil) c4)) ar_nil))))
  rw [← hFL] at v2
  have s3 := set_o (i := 2) v2
  obtain ⟨G2, hG2⟩ : ∃ G2 : Dl.G, G2 = [.v L, .own none [S0, S1], .v (.list FL)] := ⟨_, rfl⟩
  have y2 : eVar 2 (G.set 2 (.own none FL)) = some (.list FL, G2) := by rw [hG, hG2]; rfl
  have y0 : eVar 0 G2 = some (L, G2) := by rw [hG2]; rfl
  have y1 : eIxV 1 (eC (.int 0)) G2 = some (S0, G2) := by rw [hG2]; exact ixV_v rfl rfl rfl rfl
  have a1 := eV_o (vLst_of (ar_cons y2 (ar_cons (eV_v (eCall_of (ar_cons y0 (ar_cons y1 ar_nil)) c5)) ar_nil)))
  have a2 : eV (vLst (aCons (eV (vLst (aCons (eC (.bool true)) (aCons (eC (.bool true)) (aCons (eC (.bool false)) (aCons (eC (.bool false)) aNil)))))) (aCons (eTup (aCons (eTup (aCons (eC (.int 20)) (aCons (eC (.int 1)) aNil))) (aCons (eTup (aCons (eC (.int 50)) (aCons (eC (.int 1)) aNil))) aNil))) aNil))) G2 = some (.list [.list FL, WD], G2) := by
    rw [hFL, hWD]
    rfl
  have s2' := s2 _ rfl
  rw [← hG] at s2'
  exact fnP_ret [.no, .no, .no] rfl (seq_nx (s1 _ rfl) (seq_nx s2' (seq_nx s3 (ret_v (eCall_of (ar_cons a1 (ar_cons a2 ar_nil)) j)))))
theorem law_good : ∀ ns : List Int, ns.length ≤ 63 → m_law [.list (ns.map .int)] = some (.v (.bool true)) := by
  intro ns hl
  obtain ⟨es, e1, H1⟩ := hand_ok ns (by omega)
  obtain ⟨A, hA⟩ : ∃ A : D, A = .list (ns.map .int) := ⟨_, rfl⟩
  rw [← hA] at e1 ⊢
  have s1 := set_o (i := 1) (eCall_of (m := m__law_hand) (f := aCons (eVar 0) aNil) (g := [.v A, .no, .no, .no, .no]) (ar_cons rfl ar_nil) e1)
  have s2 := if_f (f := sRet (vE (eC (.bool false)))) (h := sNil) (tNot_of (b := true) (tOf_b (eV_v (eCall_of (m := m__law_is_known_right) (f := aNil) (g := [.v A, .own none es, .no, .no, .no]) ar_nil known_ok)))) rfl
  obtain ⟨g', F, es', b2, b3, b4, H2, rfl⟩ := forGo_inv (t := gVar 2) (b := (sSeq (sSet 3 (eCallI m__law_drawn_lands 1 (aCons (eBin addA (eC (.int 1)) (eV (eCallI m__law_draw 1 (aCons (eC (.int 4)) aNil)))) (aCons (eBin addA (eC (.int 1)) (eV (eCallI m__law_draw 1 (aCons (eC (.int 4)) aNil)))) aNil))))
    (sSeq (sSet 4 (eCallI m__law_drawn_sharing 1 (aCons (eVar 3) (aCons (eBin eqD (eV (eCallI m__law_draw 1 (aCons (eC (.int 2)) aNil))) (eC (.int 0))) aNil))))
    (sIf (tNotT (tOf (eV (eCallI m__law_is_right 1 (aCons (eVar 3) (aCons (eVar 4) aNil)))))) (sRet (vE (eC (.bool false)))) sNil))))
    (fun g => ∃ es a2 a3 a4, Hand es ∧ g = [.v A, .own none es, a2, a3, a4]) ((List.range 3).map fun (i : Nat) => .int (i : Int)) (fun d _ g hg => by
      obtain ⟨es, a2, a3, a4, hh, rfl⟩ := hg
      obtain ⟨x1, es1, q1, h10, h11, H1⟩ := draw_ok hh (m := 4) (by decide) (by decide)
      obtain ⟨x2, es2, q2, h20, h21, H2⟩ := draw_ok H1 (m := 4) (by decide) (by decide)
      obtain ⟨a, rfl⟩ := Int.eq_ofNat_of_zero_le h10
      obtain ⟨b, rfl⟩ := Int.eq_ofNat_of_zero_le h20
      obtain ⟨ls, es3, q3, hL, _, H3⟩ := drawn_ok H2 (n := 1 + a) (m := 1 + b) (by omega) (by omega) (by omega) (by omega)
      obtain ⟨x4, es4, q4, h40, h41, H4⟩ := draw_ok H3 (m := 2) (by decide) (by decide)
      obtain ⟨rows, es5, q5, hs, hr, H5⟩ := drawn_sharing_ok H4 hL (decide (x4 = 0))
      obtain ⟨es6, q6, H6⟩ := is_right_ok H5 hL hs hr
      refine ⟨[.v A, .own none es, .v d, a3, a4], [.v A, .own none es6, .v d, .v (lsD ls), .v (shD rows)], rfl, ?_, es6, .v d, .v (lsD ls), .v (shD rows), H6, rfl⟩
      have v1 := eBin_of (f := eC (.int 1)) rfl (drawV (i := 1) (f := eC (.int 4)) (g := [.v A, .own none es, .v d, a3, a4]) rfl rfl q1) (addA_int 1 (a : Nat))
      have v2 := eBin_of (f := eC (.int 1)) rfl (drawV (i := 1) (f := eC (.int 4)) (g := [.v A, .own none es1, .v d, a3, a4]) rfl rfl q2) (addA_int 1 (b : Nat))
      have ea : (1 : Int) + ((a : Nat) : Int) = ((1 + a : Nat) : Int) := by omega
      have eb : (1 : Int) + ((b : Nat) : Int) = ((1 + b : Nat) : Int) := by omega
      rw [ea] at v1
      rw [eb] at v2
      have v3 := set_v (i := 3) (callI_of (m := m__law_drawn_lands) (i := 1) (t := none) rfl (ar_cons v1 (ar_cons v2 ar_nil)) rfl q3)
      have v4 := drawV (i := 1) (f := eC (.int 2)) (g := [.v A, .own none es3, .v d, .v (lsD ls), a4]) rfl rfl q4
      have v5 := eBin_of (op := eqD) (h := eC (.int 0)) v4 rfl (eqD_ii x4 0)
      have v6 := set_v (i := 4) (callI_of (m := m__law_drawn_sharing) (i := 1) (t := none) (g := [.v A, .own none es3, .v d, .v (lsD ls), a4]) rfl (ar_cons (f := eVar 3) rfl (ar_cons v5 ar_nil)) rfl q5)
      have v7 := eV_v (callI_of (m := m__law_is_right) (i := 1) (t := none) (g := [.v A, .own none es5, .v d, .v (lsD ls), .v (shD rows)]) (g1 := [.v A, .own none es5, .v d, .v (lsD ls), .v (shD rows)]) rfl (ar_cons (f := eVar 3) rfl (ar_cons (f := eVar 4) rfl ar_nil)) rfl q6)
      exact seq_nx v3 (seq_nx v6 (if_f (tNot_of (b := true) (tOf_b v7)) rfl)))
    [.v A, .own none es, .no, .no, .no] ⟨es, .no, .no, .no, H1, rfl⟩
  have s3 := for_of (f := iRange1 (aCons (eC (.int 3)) aNil)) (g := [.v A, .own none es, .no, .no, .no]) (rng_of (n := 3) (ar_cons rfl ar_nil) (by decide)) F
  unfold m_law b_law
  exact fnP_ret [.v A, .no, .no, .no, .no] rfl (seq_nx s1 (seq_nx s2 (seq_nx s3 (ret_v rfl))))
end K64
set_option Elab.async false
set_option linter.all false
set_option maxRecDepth 100000
set_option maxHeartbeats 4000000
namespace K64
open PySem PySem.Spec PyProof.Rows L2 Dl
section
variable {P : Program} {w : World} {K : PySem.W.Frag} {mg : Str → Option Value} {base : Heap}
theorem ok_is_integer (T : Txt K mg) : FnG P w K mg base 1 T.f_is_integer.f T.f_is_integer.fd ["thing"] (spP K 1 m_is_integer) := by
  refine fnP_ok (b := b_is_integer) (N := ["thing"]) (n := 1) T.f_is_integer.F sc_is_integer rfl ?_
  intro cd A outer st H room gd
  unfold b_is_integer
  exact (dss_one (ds_ret (dv_de (de_and (de_isi (n := "int") rfl T.n_isinstance rfl T.n_int (by decide +kernel) (de_var 0)) (de_one (de_not (db_de (de_isi (n := "bool") rfl T.n_isinstance rfl T.n_bool (by decide +kernel) (de_var 0)))))))))
theorem ok_is_sized (T : Txt K mg) : FnG P w K mg base 1 T.f_is_sized.f T.f_is_sized.fd ["thing", "low", "high"] (spP K 3 m_is_sized) := by
  refine fnP_ok (b := b_is_sized) (N := ["thing", "low", "high"]) (n := 3) T.f_is_sized.F sc_is_sized rfl ?_
  intro cd A outer st H room gd
  unfold b_is_sized
  exact (dss_one (ds_ret (dv_de (de_and (de_isi (n := "tuple") rfl T.n_isinstance rfl T.n_tuple (by decide +kernel) (de_var 0)) (de_one (de_chain op_le op_le ok_cmp ok_cmp (de_var 1) (de_len rfl T.n_len (db_var 0)) (de_var 2)))))))
theorem ok_common (T : Txt K mg) : FnG P w K mg base 1 T.f_common.f T.f_common.fd ["one", "other"] (spP K 2 m_common) := by
  refine fnP_ok (b := b_common) (N := ["one", "other"]) (n := 2) T.f_common.F sc_common rfl ?_
  intro cd A outer st H room gd
  unfold b_common
  exact (dss_cons (ds_while PassesOwn.never (dt_ne (hu64 room) (de_var 1) de_int) (dss_one (ds_par 0 1 rfl sc_common.nd (dv_de (de_var 1)) (dv_de (de_mod (de_var 0) (de_var 1))))))
    (dss_one (ds_ret (dv_de (de_abs rfl T.n_abs (db_var 0))))))
theorem ok_is_less (T : Txt K mg) : FnG P w K mg base 1 T.f_is_less.f T.f_is_less.fd ["one", "other"] (spP K 2 m_is_less) := by
  refine fnP_ok (b := b_is_less) (N := ["one", "other"]) (n := 2) T.f_is_less.F sc_is_less rfl ?_
  intro cd A outer st H room gd
  unfold b_is_less
  exact (dss_one (ds_ret (dv_de (de_lt (de_mul (de_ixV 0 de_int) (de_ixV 1 de_int)) (de_mul (de_ixV 1 de_int) (de_ixV 0 de_int))))))
theorem ok_goods_of (T : Txt K mg) : FnG P w K mg base 1 T.f_goods_of.f T.f_goods_of.fd ["lands"] (spP K 1 m_goods_of) := by
  refine fnP_ok (b := b_goods_of) (N := ["lands"]) (n := 1) T.f_goods_of.F sc_goods_of rfl ?_
  intro cd A outer st H room gd
  unfold b_goods_of
  exact (dss_one (ds_ret (dv_de (de_len rfl T.n_len (db_de (de_ix (de_ixV 0 de_int) de_int))))))
theorem ok__law_draw (T : Txt K mg) : FnG P w K mg base 1 T.f__law_draw.f T.f__law_draw.fd ["hand", "span"] (spI K 2 m__law_draw) := by
  refine fnI_ok (b := b__law_draw) (N := ["hand", "span", "cell", "digit", "number"]) (n := 2) T.f__law_draw.F sc__law_draw rfl ?_
  intro cd A outer st H room gd
  unfold b__law_draw
  exact (dss_cons (ds_if (dt_w (dw_and (dt_eq (hu64 room) (de_ixV 0 de_int) de_int) (dw_and1 (dt_lt (de_ixV 0 de_int) (de_len rfl T.n_len (db_de (de_ixV 0 de_int))))))) (dss_cons (ds_set 2 sc__law_draw.nd (dv_de (de_ix (de_ixV 0 de_int) (de_ixV 0 de_int))))
    (dss_cons (ds_put 0 (dv_de (de_addA (de_ixV 0 de_int) de_int)) de_int)
    (dss_cons (ds_put 0 (dv_de (de_mod (de_int1 rfl T.n_int (db_de (de_addA (de_addA (de_mul (de_ixV 0 de_int) de_int) (de_var 2)) de_int))) de_int)) de_int)
    (dss_one (ds_if (dt_ge (de_var 2) (de_pow de_int de_int)) (dss_one (ds_put 0 (dv_de (de_var 2)) de_int)) dss_nil))))) dss_nil)
    (dss_cons (ds_if (dt_gt (de_ixV 0 de_int) de_int) (dss_cons (ds_set 3 sc__law_draw.nd (dv_de (de_mod (de_int1 rfl T.n_int (db_de (de_ixV 0 de_int))) (de_var 1))))
    (dss_cons (ds_put 0 (dv_de (de_fdiv (de_ixV 0 de_int) (de_var 1))) de_int)
    (dss_one (ds_retV 3)))) dss_nil)
    (dss_cons (ds_put 0 (dv_de (de_addA (de_ixV 0 de_int) de_int)) de_int)
    (dss_cons (ds_set 4 sc__law_draw.nd (dv_de (de_mod (de_int1 rfl T.n_int (db_de (de_mul (de_int1 rfl T.n_int (db_de (de_addA (de_ixV 0 de_int) (de_mul de_int (de_ixV 0 de_int))))) de_int))) de_int)))
    (dss_cons (ds_set 4 sc__law_draw.nd (dv_de (de_mod (de_int1 rfl T.n_int (db_de (de_mul (de_var 4) (de_addA (de_fdiv (de_var 4) de_int) de_int)))) de_int)))
    (dss_cons (ds_set 4 sc__law_draw.nd (dv_de (de_mod (de_int1 rfl T.n_int (db_de (de_mul (de_var 4) (de_addA (de_fdiv (de_var 4) de_int) de_int)))) de_int)))
    (dss_one (ds_ret (dv_de (de_mod (de_int1 rfl T.n_int (db_de (de_fdiv (de_var 4) de_int))) (de_var 1)))))))))))
theorem ok__law_hand (T : Txt K mg) : FnG P w K mg base 1 T.f__law_hand.f T.f__law_hand.fd ["script"] (spP K 1 m__law_hand) := by
  refine fnP_ok (b := b__law_hand) (N := ["script", "cells", "cell"]) (n := 1) T.f__law_hand.F sc__law_hand rfl ?_
  intro cd A outer st H room gd
  unfold b__law_hand
  exact (dss_cons (ds_setLc 1 [("cell", 2)] rfl sc__law_hand.nd (di_seq (de_sl (de_var 0) do_none (do_some de_int))) rfl (fun _ _ _ _ _ => (dg_name 2 sc__law_hand.nd)) (fun _ _ _ _ _ => dcs_nil) (fun _ _ _ _ _ => (de_abs rfl T.n_abs (db_de (de_int1 rfl T.n_int (db_var 2))))) (sw_true rfl rfl rfl rfl))
    (dss_one (ds_ret (dv_lst (da_cons (de_var 1) (da_cons de_int (da_cons de_int (da_cons (de_addA de_int (de_mul de_int (de_len rfl T.n_len (db_var 1)))) (da_cons de_int da_nil))))) (lenCons (lenCons (lenCons (lenCons (lenCons lenNil)))))))))
theorem ok__law_low (T : Txt K mg) : FnG P w K mg base 1 T.f__law_low.f T.f__law_low.fd ["top", "bottom"] (spP K 2 m__law_low) := by
  refine fnP_ok (b := b__law_low) (N := ["top", "bottom", "one", "other"]) (n := 2) T.f__law_low.F sc__law_low rfl ?_
  intro cd A outer st H room gd
  unfold b__law_low
  exact (dss_cons (ds_par 2 3 rfl sc__law_low.nd (dv_de (de_abs rfl T.n_abs (db_var 0))) (dv_de (de_abs rfl T.n_abs (db_var 1))))
    (dss_cons (ds_while PassesOwn.never (dt_gt (de_var 3) de_int) (dss_one (ds_par 2 3 rfl sc__law_low.nd (dv_de (de_var 3)) (dv_de (de_mod (de_int1 rfl T.n_int (db_var 2)) (de_var 3))))))
    (dss_one (ds_ret (dv_de (de_if (dt_gt (de_var 1) de_int) (de_tup (da_cons (de_fdiv (de_var 0) (de_var 2)) (da_cons (de_fdiv (de_var 1) (de_var 2)) da_nil)) (lenCons (lenCons lenNil))) (de_tup (da_cons (de_fdiv (de_sub de_int (de_var 0)) (de_var 2)) (da_cons (de_fdiv (de_sub de_int (de_var 1)) (de_var 2)) da_nil)) (lenCons (lenCons lenNil)))))))))
theorem ok__law_less (T : Txt K mg) : FnG P w K mg base 1 T.f__law_less.f T.f__law_less.fd ["one", "other"] (spP K 2 m__law_less) := by
  refine fnP_ok (b := b__law_less) (N := ["one", "other"]) (n := 2) T.f__law_less.F sc__law_less rfl ?_
  intro cd A outer st H room gd
  unfold b__law_less
  exact (dss_one (ds_ret (dv_de (de_lt (de_mul (de_ixV 0 de_int) (de_ixV 1 de_int)) (de_mul (de_ixV 1 de_int) (de_ixV 0 de_int))))))
theorem ok__law_odd_fractions (T : Txt K mg) : FnG P w K mg base 1 T.f__law_odd_fractions.f T.f__law_odd_fractions.fd ["hand"] (spI K 1 m__law_odd_fractions) := by
  refine fnI_ok (b := b__law_odd_fractions) (N := ["hand", "found"]) (n := 1) T.f__law_odd_fractions.F sc__law_odd_fractions rfl ?_
  intro cd A outer st H room gd
  unfold b__law_odd_fractions
  exact (dss_cons (ds_set 1 sc__law_odd_fractions.nd (dv_lst (da_cons (de_tup (da_cons de_int (da_cons de_int da_nil)) (lenCons (lenCons lenNil))) (da_cons (de_tup (da_cons (de_neg de_int) (da_cons de_int da_nil)) (lenCons (lenCons lenNil))) (da_cons (de_tup (da_cons de_int (da_cons de_int da_nil)) (lenCons (lenCons lenNil))) (da_cons (de_tup (da_cons de_int (da_cons de_int da_nil)) (lenCons (lenCons lenNil))) (da_cons (de_tup (da_cons de_int (da_cons (de_neg de_int) da_nil)) (lenCons (lenCons lenNil))) (da_cons (de_tup (da_cons de_int (da_cons de_int da_nil)) (lenCons (lenCons lenNil))) (da_cons (de_tup (da_cons de_bl (da_cons de_int da_nil)) (lenCons (lenCons lenNil))) (da_cons (de_tup (da_cons de_int (da_cons de_bl da_nil)) (lenCons (lenCons lenNil))) (da_cons (de_dv (dv_lst (da_cons de_int (da_cons de_int da_nil)) (lenCons (lenCons lenNil)))) (da_cons (de_tup (da_cons de_int da_nil) (lenCons lenNil)) (da_cons (de_tup (da_cons de_int (da_cons de_int (da_cons de_int da_nil))) (lenCons (lenCons (lenCons lenNil)))) da_nil))))))))))) (lenCons (lenCons (lenCons (lenCons (lenCons (lenCons (lenCons (lenCons (lenCons (lenCons (lenCons lenNil)))))))))))))
    (dss_one (ds_ret (dv_catE (de_var 1) (de_dv (dv_lst (da_cons de_int (da_cons de_str (da_cons de_non da_nil))) (lenCons (lenCons (lenCons lenNil)))))))))
theorem ok_share (T : Txt K mg) : FnG P w K mg base 2 T.f_share.f T.f_share.fd ["top", "bottom"] (spP K 2 m_share) := by
  refine fnP_ok (b := b_share) (N := ["top", "bottom", "part"]) (n := 2) T.f_share.F sc_share rfl ?_
  intro cd A outer st H room gd
  unfold b_share
  exact (dss_cons (ds_set 2 sc_share.nd (dv_call (ok_common T) (room.mono (by decide)) gd rfl T.f_common.g T.f_common.F.kp T.f_common.b (da_cons (de_var 0) (da_cons (de_var 1) da_nil)) (lenCons (lenCons lenNil))))
    (dss_cons (ds_if (dt_lt (de_var 1) de_int) (dss_one (ds_set 2 sc_share.nd (dv_de (de_neg (de_var 2))))) dss_nil)
    (dss_one (ds_ret (dv_de (de_tup (da_cons (de_fdiv (de_var 0) (de_var 2)) (da_cons (de_fdiv (de_var 1) (de_var 2)) da_nil)) (lenCons (lenCons lenNil))))))))
theorem ok_is_share (T : Txt K mg) : FnG P w K mg base 2 T.f_is_share.f T.f_is_share.fd ["thing"] (spP K 1 m_is_share) := by
  refine fnP_ok (b := b_is_share) (N := ["thing"]) (n := 1) T.f_is_share.F sc_is_share rfl ?_
  intro cd A outer st H room gd
  unfold b_is_share
  exact (dss_cons (ds_if (dt_w (dw_or (dt_not (dt_of (db_dv (dv_call (ok_is_sized T) (room.mono (by decide)) gd rfl T.f_is_sized.g T.f_is_sized.F.kp T.f_is_sized.b (da_cons (de_var 0) (da_cons de_int (da_cons de_int da_nil))) (lenCons (lenCons (lenCons lenNil))))))) (dw_or (dt_not (dt_of (db_dv (dv_call (ok_is_integer T) (room.mono (by decide)) gd rfl T.f_is_integer.g T.f_is_integer.F.kp T.f_is_integer.b (da_cons (de_ixV 0 de_int) da_nil) (lenCons lenNil))))) (dw_or1 (dt_not (dt_of (db_dv (dv_call (ok_is_integer T) (room.mono (by decide)) gd rfl T.f_is_integer.g T.f_is_integer.F.kp T.f_is_integer.b (da_cons (de_ixV 0 de_int) da_nil) (lenCons lenNil))))))))) (dss_one (ds_ret (dv_de de_bl))) dss_nil)
    (dss_one (ds_ret (dv_de (de_and (de_gt (de_ixV 0 de_int) de_int) (de_one (de_eq (hu64 room) (de_dv (dv_call (ok_common T) (room.mono (by decide)) gd rfl T.f_common.g T.f_common.F.kp T.f_common.b (da_cons (de_ixV 0 de_int) (da_cons (de_ixV 0 de_int) da_nil)) (lenCons (lenCons lenNil)))) de_int)))))))
theorem ok__law_some (T : Txt K mg) : FnG P w K mg base 2 T.f__law_some.f T.f__law_some.fd ["hand", "things"] (spI K 2 m__law_some) := by
  refine fnI_ok (b := b__law_some) (N := ["hand", "things"]) (n := 2) T.f__law_some.F sc__law_some rfl ?_
  intro cd A outer st H room gd
  unfold b__law_some
  exact (dss_one (ds_ret (dv_de (de_ixV 1 (de_dv (dv_callI 0 (ok__law_draw T) (room.mono (by decide)) gd rfl T.f__law_draw.g T.f__law_draw.F.kp T.f__law_draw.b (da_cons (de_len rfl T.n_len (db_var 1)) da_nil) (lenCons lenNil)))))))
theorem ok__law_plus (T : Txt K mg) : FnG P w K mg base 2 T.f__law_plus.f T.f__law_plus.fd ["one", "other"] (spP K 2 m__law_plus) := by
  refine fnP_ok (b := b__law_plus) (N := ["one", "other"]) (n := 2) T.f__law_plus.F sc__law_plus rfl ?_
  intro cd A outer st H room gd
  unfold b__law_plus
  exact (dss_one (ds_ret (dv_call (ok__law_low T) (room.mono (by decide)) gd rfl T.f__law_low.g T.f__law_low.F.kp T.f__law_low.b (da_cons (de_addA (de_mul (de_ixV 0 de_int) (de_ixV 1 de_int)) (de_mul (de_ixV 1 de_int) (de_ixV 0 de_int))) (da_cons (de_mul (de_ixV 0 de_int) (de_ixV 1 de_int)) da_nil)) (lenCons (lenCons lenNil)))))
theorem ok__law_times (T : Txt K mg) : FnG P w K mg base 2 T.f__law_times.f T.f__law_times.fd ["one", "other"] (spP K 2 m__law_times) := by
  refine fnP_ok (b := b__law_times) (N := ["one", "other"]) (n := 2) T.f__law_times.F sc__law_times rfl ?_
  intro cd A outer st H room gd
  unfold b__law_times
  exact (dss_one (ds_ret (dv_call (ok__law_low T) (room.mono (by decide)) gd rfl T.f__law_low.g T.f__law_low.F.kp T.f__law_low.b (da_cons (de_mul (de_ixV 0 de_int) (de_ixV 1 de_int)) (da_cons (de_mul (de_ixV 0 de_int) (de_ixV 1 de_int)) da_nil)) (lenCons (lenCons lenNil)))))
theorem ok__law_over (T : Txt K mg) : FnG P w K mg base 2 T.f__law_over.f T.f__law_over.fd ["one", "other"] (spP K 2 m__law_over) := by
  refine fnP_ok (b := b__law_over) (N := ["one", "other"]) (n := 2) T.f__law_over.F sc__law_over rfl ?_
  intro cd A outer st H room gd
  unfold b__law_over
  exact (dss_one (ds_ret (dv_call (ok__law_low T) (room.mono (by decide)) gd rfl T.f__law_low.g T.f__law_low.F.kp T.f__law_low.b (da_cons (de_mul (de_ixV 0 de_int) (de_ixV 1 de_int)) (da_cons (de_mul (de_ixV 0 de_int) (de_ixV 1 de_int)) da_nil)) (lenCons (lenCons lenNil)))))
theorem ok__law_is_fraction (T : Txt K mg) : FnG P w K mg base 2 T.f__law_is_fraction.f T.f__law_is_fraction.fd ["thing", "least"] (spP K 2 m__law_is_fraction) := by
  refine fnP_ok (b := b__law_is_fraction) (N := ["thing", "least", "one"]) (n := 2) T.f__law_is_fraction.F sc__law_is_fraction rfl ?_
  intro cd A outer st H room gd
  unfold b__law_is_fraction
  exact (dss_cons (ds_if (dt_w (dw_or (dt_not (dt_of (db_de (de_isi (n := "tuple") rfl T.n_isinstance rfl T.n_tuple (by decide +kernel) (de_var 0))))) (dw_or1 (dt_ne (hu64 room) (de_len rfl T.n_len (db_var 0)) de_int)))) (dss_one (ds_ret (dv_de de_bl))) dss_nil)
    (dss_cons (ds_if (dt_w (dw_or (dt_not (dt_of (db_de (de_all rfl rfl T.n_all (db_dv (dv_lc [("one", 2)] rfl sc__law_is_fraction.nd (di_seq (de_var 0)) rfl (fun _ _ _ _ _ => (dg_name 2 sc__law_is_fraction.nd)) (fun _ _ _ _ _ => dcs_nil) (fun _ _ _ _ _ => (de_and (de_isi (n := "int") rfl T.n_isinstance rfl T.n_int (by decide +kernel) (de_var 2)) (de_one (de_not (db_de (de_isi (n := "bool") rfl T.n_isinstance rfl T.n_bool (by decide +kernel) (de_var 2))))))))))))) (dw_or1 (dt_lt (de_ixV 0 de_int) de_int)))) (dss_one (ds_ret (dv_de de_bl))) dss_nil)
    (dss_one (ds_ret (dv_de (de_and (de_ge (de_ixV 0 de_int) (de_var 1)) (de_one (de_eq (hu64 room) (de_dv (dv_call (ok__law_low T) (room.mono (by decide)) gd rfl T.f__law_low.g T.f__law_low.F.kp T.f__law_low.b (da_cons (de_ixV 0 de_int) (da_cons (de_ixV 0 de_int) da_nil)) (lenCons (lenCons lenNil)))) (de_var 0)))))))))
theorem ok_plus (T : Txt K mg) : FnG P w K mg base 3 T.f_plus.f T.f_plus.fd ["one", "other"] (spP K 2 m_plus) := by
  refine fnP_ok (b := b_plus) (N := ["one", "other"]) (n := 2) T.f_plus.F sc_plus rfl ?_
  intro cd A outer st H room gd
  unfold b_plus
  exact (dss_cons (ds_if (dt_eq (hu64 room) (de_ixV 0 de_int) (de_ixV 1 de_int)) (dss_one (ds_ret (dv_call (ok_share T) (room.mono (by decide)) gd rfl T.f_share.g T.f_share.F.kp T.f_share.b (da_cons (de_addA (de_ixV 0 de_int) (de_ixV 1 de_int)) (da_cons (de_ixV 0 de_int) da_nil)) (lenCons (lenCons lenNil))))) dss_nil)
    (dss_one (ds_ret (dv_call (ok_share T) (room.mono (by decide)) gd rfl T.f_share.g T.f_share.F.kp T.f_share.b (da_cons (de_addA (de_mul (de_ixV 0 de_int) (de_ixV 1 de_int)) (de_mul (de_ixV 1 de_int) (de_ixV 0 de_int))) (da_cons (de_mul (de_ixV 0 de_int) (de_ixV 1 de_int)) da_nil)) (lenCons (lenCons lenNil))))))
theorem ok_times (T : Txt K mg) : FnG P w K mg base 3 T.f_times.f T.f_times.fd ["one", "other"] (spP K 2 m_times) := by
  refine fnP_ok (b := b_times) (N := ["one", "other"]) (n := 2) T.f_times.F sc_times rfl ?_
  intro cd A outer st H room gd
  unfold b_times
  exact (dss_one (ds_ret (dv_call (ok_share T) (room.mono (by decide)) gd rfl T.f_share.g T.f_share.F.kp T.f_share.b (da_cons (de_mul (de_ixV 0 de_int) (de_ixV 1 de_int)) (da_cons (de_mul (de_ixV 0 de_int) (de_ixV 1 de_int)) da_nil)) (lenCons (lenCons lenNil)))))
theorem ok_is_amount (T : Txt K mg) : FnG P w K mg base 3 T.f_is_amount.f T.f_is_amount.fd ["thing"] (spP K 1 m_is_amount) := by
  refine fnP_ok (b := b_is_amount) (N := ["thing"]) (n := 1) T.f_is_amount.F sc_is_amount rfl ?_
  intro cd A outer st H room gd
  unfold b_is_amount
  exact (dss_one (ds_ret (dv_de (de_and (de_dv (dv_call (ok_is_share T) (room.mono (by decide)) gd rfl T.f_is_share.g T.f_is_share.F.kp T.f_is_share.b (da_cons (de_var 0) da_nil) (lenCons lenNil))) (de_one (de_ge (de_ixV 0 de_int) de_int))))))
theorem ok_is_positive (T : Txt K mg) : FnG P w K mg base 3 T.f_is_positive.f T.f_is_positive.fd ["thing"] (spP K 1 m_is_positive) := by
  refine fnP_ok (b := b_is_positive) (N := ["thing"]) (n := 1) T.f_is_positive.F sc_is_positive rfl ?_
  intro cd A outer st H room gd
  unfold b_is_positive
  exact (dss_one (ds_ret (dv_de (de_and (de_dv (dv_call (ok_is_share T) (room.mono (by decide)) gd rfl T.f_is_share.g T.f_is_share.F.kp T.f_is_share.b (da_cons (de_var 0) da_nil) (lenCons lenNil))) (de_one (de_gt (de_ixV 0 de_int) de_int))))))
theorem ok__law_sum (T : Txt K mg) : FnG P w K mg base 3 T.f__law_sum.f T.f__law_sum.fd ["parts"] (spP K 1 m__law_sum) := by
  refine fnP_ok (b := b__law_sum) (N := ["parts", "found", "part"]) (n := 1) T.f__law_sum.F sc__law_sum rfl ?_
  intro cd A outer st H room gd
  unfold b__law_sum
  exact (dss_cons (ds_set 1 sc__law_sum.nd (dv_de (de_tup (da_cons de_int (da_cons de_int da_nil)) (lenCons (lenCons lenNil)))))
    (dss_cons (ds_for PassesOwn.never rfl (di_seq (de_var 0)) (dg_name 2 sc__law_sum.nd) (dss_one (ds_set 1 sc__law_sum.nd (dv_call (ok__law_plus T) (room.mono (by decide)) gd rfl T.f__law_plus.g T.f__law_plus.F.kp T.f__law_plus.b (da_cons (de_var 1) (da_cons (de_var 2) da_nil)) (lenCons (lenCons lenNil))))))
    (dss_one (ds_retV 1))))
theorem ok__law_fraction (T : Txt K mg) : FnG P w K mg base 3 T.f__law_fraction.f T.f__law_fraction.fd ["hand", "most"] (spI K 2 m__law_fraction) := by
  refine fnI_ok (b := b__law_fraction) (N := ["hand", "most"]) (n := 2) T.f__law_fraction.F sc__law_fraction rfl ?_
  intro cd A outer st H room gd
  unfold b__law_fraction
  exact (dss_one (ds_ret (dv_call (ok__law_low T) (room.mono (by decide)) gd rfl T.f__law_low.g T.f__law_low.F.kp T.f__law_low.b (da_cons (de_addA de_int (de_dv (dv_callI 0 (ok__law_draw T) (room.mono (by decide)) gd rfl T.f__law_draw.g T.f__law_draw.F.kp T.f__law_draw.b (da_cons (de_var 1) da_nil) (lenCons lenNil)))) (da_cons (de_addA de_int (de_dv (dv_callI 0 (ok__law_some T) (room.mono (by decide)) gd rfl T.f__law_some.g T.f__law_some.F.kp T.f__law_some.b (da_cons (de_dv (dv_lst (da_cons de_int (da_cons de_int (da_cons de_int (da_cons de_int (da_cons de_int (da_cons (de_dv (dv_callI 0 (ok__law_draw T) (room.mono (by decide)) gd rfl T.f__law_draw.g T.f__law_draw.F.kp T.f__law_draw.b (da_cons de_int da_nil) (lenCons lenNil))) da_nil)))))) (lenCons (lenCons (lenCons (lenCons (lenCons (lenCons lenNil)))))))) da_nil) (lenCons lenNil)))) da_nil)) (lenCons (lenCons lenNil)))))
theorem ok__law_drawn_sharing (T : Txt K mg) : FnG P w K mg base 3 T.f__law_drawn_sharing.f T.f__law_drawn_sharing.fd ["hand", "lands", "is_whole"] (spI K 3 m__law_drawn_sharing) := by
  refine fnI_ok (b := b__law_drawn_sharing) (N := ["hand", "lands", "is_whole", "found", "hands", "works", "work", "able", "weights", "total", "row", "weight", "good"]) (n := 3) T.f__law_drawn_sharing.F sc__law_drawn_sharing rfl ?_
  intro cd A outer st H room gd
  unfold b__law_drawn_sharing
  exact (dss_cons (ds_set 3 sc__law_drawn_sharing.nd (dv_lst da_nil lenNil))
    (dss_cons (ds_for PassesOwn.never rfl (di_seq (de_var 1)) (dg_tup 2 rfl (dgs_cons (dg_name 4 sc__law_drawn_sharing.nd) (dgs_cons (dg_name 5 sc__law_drawn_sharing.nd) dgs_nil))) (dss_cons (ds_set 7 sc__law_drawn_sharing.nd (dv_lc [("good", 12), ("work", 6)] rfl sc__law_drawn_sharing.nd (di_enum rfl T.n_enumerate (da_cons (de_var 5) da_nil)) rfl (fun _ _ _ _ _ => (dg_tup 2 rfl (dgs_cons (dg_name 12 sc__law_drawn_sharing.nd) (dgs_cons (dg_name 6 sc__law_drawn_sharing.nd) dgs_nil)))) (fun _ _ _ _ _ => (dcs_one (dt_notN (de_var 6) de_non))) (fun _ _ _ _ _ => (de_var 12))))
    (dss_cons (ds_setLc 8 [("good", 12)] rfl sc__law_drawn_sharing.nd (di_range1 rfl T.n_range (da_cons (de_len rfl T.n_len (db_var 5)) da_nil)) rfl (fun _ _ _ _ _ => (dg_name 12 sc__law_drawn_sharing.nd)) (fun _ _ _ _ _ => dcs_nil) (fun _ _ _ _ _ => (de_if (dt_in (hu65 room) (de_var 12) (de_var 7)) (de_dv (dv_callI 0 (ok__law_some T) (room.mono (by decide)) gd rfl T.f__law_some.g T.f__law_some.F.kp T.f__law_some.b (da_cons (de_dv (dv_lst (da_cons de_int (da_cons de_int (da_cons de_int (da_cons de_int (da_cons de_int da_nil))))) (lenCons (lenCons (lenCons (lenCons (lenCons lenNil))))))) da_nil) (lenCons lenNil))) de_int)) (sw_true rfl rfl rfl rfl))
    (dss_cons (ds_if (dt_eq (hu64 room) (de_sum rfl rfl T.n_sum (db_var 8)) de_int) (dss_one (ds_put 8 (dv_de de_int) (de_dv (dv_callI 0 (ok__law_some T) (room.mono (by decide)) gd rfl T.f__law_some.g T.f__law_some.F.kp T.f__law_some.b (da_cons (de_var 7) da_nil) (lenCons lenNil))))) dss_nil)
    (dss_cons (ds_set 9 sc__law_drawn_sharing.nd (dv_de (de_addA (de_sum rfl rfl T.n_sum (db_var 8)) (de_if (dt_of (db_var 2)) de_int (de_dv (dv_callI 0 (ok__law_some T) (room.mono (by decide)) gd rfl T.f__law_some.g T.f__law_some.F.kp T.f__law_some.b (da_cons (de_dv (dv_lst (da_cons de_int (da_cons de_int (da_cons de_int (da_cons de_int da_nil)))) (lenCons (lenCons (lenCons (lenCons lenNil)))))) da_nil) (lenCons lenNil)))))))
    (dss_cons (ds_set 10 sc__law_drawn_sharing.nd (dv_lst da_nil lenNil))
    (dss_cons (ds_for PassesOwn.never rfl (di_zipU rfl T.n_zip (da_cons (de_var 8) (da_cons (de_var 5) da_nil))) (dg_tup 2 rfl (dgs_cons (dg_name 11 sc__law_drawn_sharing.nd) (dgs_cons (dg_name 6 sc__law_drawn_sharing.nd) dgs_nil))) (dss_one (ds_expr (de_append 10 (dv_de (de_if (dt_eq (hu64 room) (de_var 11) de_int) (de_tup (da_cons de_int (da_cons de_int da_nil)) (lenCons (lenCons lenNil))) (de_dv (dv_call (ok__law_over T) (room.mono (by decide)) gd rfl T.f__law_over.g T.f__law_over.F.kp T.f__law_over.b (da_cons (de_dv (dv_call (ok__law_times T) (room.mono (by decide)) gd rfl T.f__law_times.g T.f__law_times.F.kp T.f__law_times.b (da_cons (de_var 4) (da_cons (de_tup (da_cons (de_var 11) (da_cons (de_var 9) da_nil)) (lenCons (lenCons lenNil))) da_nil)) (lenCons (lenCons lenNil)))) (da_cons (de_var 6) da_nil)) (lenCons (lenCons lenNil))))))))))
    (dss_one (ds_expr (de_append 3 (dv_de (de_tuple rfl T.n_tuple (db_var 10)))))))))))))
    (dss_one (ds_ret (dv_de (de_tuple rfl T.n_tuple (db_var 3)))))))
theorem ok__law_is_lands (T : Txt K mg) : FnG P w K mg base 3 T.f__law_is_lands.f T.f__law_is_lands.fd ["thing"] (spP K 1 m__law_is_lands) := by
  refine fnP_ok (b := b__law_is_lands) (N := ["thing", "land", "goods", "good", "work"]) (n := 1) T.f__law_is_lands.F sc__law_is_lands rfl ?_
  intro cd A outer st H room gd
  unfold b__law_is_lands
  exact (dss_cons (ds_if (dt_w (dw_or (dt_not (dt_of (db_de (de_isi (n := "tuple") rfl T.n_isinstance rfl T.n_tuple (by decide +kernel) (de_var 0))))) (dw_or1 (dt_not (dt_chain op_le op_le ok_cmp ok_cmp isb_cmp de_int (de_len rfl T.n_len (db_var 0)) de_int))))) (dss_one (ds_ret (dv_de de_bl))) dss_nil)
    (dss_cons (ds_for PassesOwn.never rfl (di_seq (de_var 0)) (dg_name 1 sc__law_is_lands.nd) (dss_cons (ds_if (dt_w (dw_or (dt_not (dt_of (db_de (de_isi (n := "tuple") rfl T.n_isinstance rfl T.n_tuple (by decide +kernel) (de_var 1))))) (dw_or (dt_ne (hu64 room) (de_len rfl T.n_len (db_var 1)) de_int) (dw_or1 (dt_not (dt_of (db_dv (dv_call (ok__law_is_fraction T) (room.mono (by decide)) gd rfl T.f__law_is_fraction.g T.f__law_is_fraction.F.kp T.f__law_is_fraction.b (da_cons (de_ixV 1 de_int) (da_cons de_int da_nil)) (lenCons (lenCons lenNil)))))))))) (dss_one (ds_ret (dv_de de_bl))) dss_nil)
    (dss_cons (ds_if (dt_w (dw_or (dt_not (dt_of (db_de (de_isi (n := "tuple") rfl T.n_isinstance rfl T.n_tuple (by decide +kernel) (de_ixV 1 de_int))))) (dw_or1 (dt_not (dt_chain op_le op_le ok_cmp ok_cmp isb_cmp de_int (de_len rfl T.n_len (db_de (de_ixV 1 de_int))) de_int))))) (dss_one (ds_ret (dv_de de_bl))) dss_nil)
    (dss_one (ds_if (dt_not (dt_of (db_de (de_all rfl rfl T.n_all (db_dv (dv_lc [("work", 4)] rfl sc__law_is_lands.nd (di_seq (de_ixV 1 de_int)) rfl (fun _ _ _ _ _ => (dg_name 4 sc__law_is_lands.nd)) (fun _ _ _ _ _ => dcs_nil) (fun _ _ _ _ _ => (de_or (de_isN (de_var 4) de_non) (de_one (de_dv (dv_call (ok__law_is_fraction T) (room.mono (by decide)) gd rfl T.f__law_is_fraction.g T.f__law_is_fraction.F.kp T.f__law_is_fraction.b (da_cons (de_var 4) (da_cons de_int da_nil)) (lenCons (lenCons lenNil))))))))))))) (dss_one (ds_ret (dv_de de_bl))) dss_nil)))))
    (dss_cons (ds_set 2 sc__law_is_lands.nd (dv_de (de_len rfl T.n_len (db_de (de_ix (de_ixV 0 de_int) de_int)))))
    (dss_cons (ds_if (dt_not (dt_of (db_de (de_all rfl rfl T.n_all (db_dv (dv_lc [("land", 1)] rfl sc__law_is_lands.nd (di_seq (de_var 0)) rfl (fun _ _ _ _ _ => (dg_name 1 sc__law_is_lands.nd)) (fun _ _ _ _ _ => dcs_nil) (fun _ _ _ _ _ => (de_and (de_eq (hu64 room) (de_len rfl T.n_len (db_de (de_ixV 1 de_int))) (de_var 2)) (de_one (de_any rfl rfl T.n_any (db_dv (dv_lc [("work", 4)] rfl sc__law_is_lands.nd (di_seq (de_ixV 1 de_int)) rfl (fun _ _ _ _ _ => (dg_name 4 sc__law_is_lands.nd)) (fun _ _ _ _ _ => dcs_nil) (fun _ _ _ _ _ => (de_notN (de_var 4) de_non)))))))))))))) (dss_one (ds_ret (dv_de de_bl))) dss_nil)
    (dss_one (ds_ret (dv_de (de_all rfl rfl T.n_all (db_dv (dv_lc [("good", 3)] rfl sc__law_is_lands.nd (di_range1 rfl T.n_range (da_cons (de_var 2) da_nil)) rfl (fun _ _ _ _ _ => (dg_name 3 sc__law_is_lands.nd)) (fun _ _ _ _ _ => dcs_nil) (fun _ _ _ _ _ => (de_any rfl rfl T.n_any (db_dv (dv_lc [("land", 1)] rfl sc__law_is_lands.nd (di_seq (de_var 0)) rfl (fun _ _ _ _ _ => (dg_name 1 sc__law_is_lands.nd)) (fun _ _ _ _ _ => dcs_nil) (fun _ _ _ _ _ => (de_notN (de_ix (de_ixV 1 de_int) (de_var 3)) de_non))))))))))))))))
theorem ok__law_deep (T : Txt K mg) : FnG P w K mg base 3 T.f__law_deep.f T.f__law_deep.fd ["hand"] (spI K 1 m__law_deep) := by
  refine fnI_ok (b := b__law_deep) (N := ["hand", "thing", "turn"]) (n := 1) T.f__law_deep.F sc__law_deep rfl ?_
  intro cd A outer st H room gd
  unfold b__law_deep
  exact (dss_cons (ds_set 1 sc__law_deep.nd (dv_callI 0 (ok__law_some T) (room.mono (by decide)) gd rfl T.f__law_some.g T.f__law_some.F.kp T.f__law_some.b (da_cons (de_dv (dv_lst (da_cons de_non (da_cons de_str (da_cons de_int (da_cons (de_tup da_nil lenNil) da_nil)))) (lenCons (lenCons (lenCons (lenCons lenNil)))))) da_nil) (lenCons lenNil)))
    (dss_cons (ds_for PassesOwn.never rfl (di_range1 rfl T.n_range (da_cons (de_addA de_int (de_dv (dv_callI 0 (ok__law_draw T) (room.mono (by decide)) gd rfl T.f__law_draw.g T.f__law_draw.F.kp T.f__law_draw.b (da_cons de_int da_nil) (lenCons lenNil)))) da_nil)) (dg_name 2 sc__law_deep.nd) (dss_one (ds_set 1 sc__law_deep.nd (dv_callI 0 (ok__law_some T) (room.mono (by decide)) gd rfl T.f__law_some.g T.f__law_some.F.kp T.f__law_some.b (da_cons (de_dv (dv_lst (da_cons (de_tup (da_cons (de_var 1) da_nil) (lenCons lenNil)) (da_cons (de_dv (dv_lst (da_cons (de_var 1) da_nil) (lenCons lenNil))) da_nil)) (lenCons (lenCons lenNil)))) da_nil) (lenCons lenNil)))))
    (dss_one (ds_retV 1))))
theorem ok_summed (T : Txt K mg) : FnG P w K mg base 4 T.f_summed.f T.f_summed.fd ["many"] (spP K 1 m_summed) := by
  refine fnP_ok (b := b_summed) (N := ["many", "found", "one"]) (n := 1) T.f_summed.F sc_summed rfl ?_
  intro cd A outer st H room gd
  unfold b_summed
  exact (dss_cons (ds_set 1 sc_summed.nd (dv_de (de_glob rfl T.c_ZERO.1 T.c_ZERO.2.1 T.c_ZERO.2.2)))
    (dss_cons (ds_for PassesOwn.never rfl (di_seq (de_var 0)) (dg_name 2 sc_summed.nd) (dss_one (ds_set 1 sc_summed.nd (dv_call (ok_plus T) (room.mono (by decide)) gd rfl T.f_plus.g T.f_plus.F.kp T.f_plus.b (da_cons (de_var 1) (da_cons (de_var 2) da_nil)) (lenCons (lenCons lenNil))))))
    (dss_one (ds_retV 1))))
theorem ok_are_amounts (T : Txt K mg) : FnG P w K mg base 4 T.f_are_amounts.f T.f_are_amounts.fd ["thing", "many"] (spP K 2 m_are_amounts) := by
  refine fnP_ok (b := b_are_amounts) (N := ["thing", "many", "part"]) (n := 2) T.f_are_amounts.F sc_are_amounts rfl ?_
  intro cd A outer st H room gd
  unfold b_are_amounts
  exact (dss_one (ds_ret (dv_de (de_and (de_dv (dv_call (ok_is_sized T) (room.mono (by decide)) gd rfl T.f_is_sized.g T.f_is_sized.F.kp T.f_is_sized.b (da_cons (de_var 0) (da_cons (de_var 1) (da_cons (de_var 1) da_nil))) (lenCons (lenCons (lenCons lenNil))))) (de_one (de_all rfl rfl T.n_all (db_dv (dv_lc [("part", 2)] rfl sc_are_amounts.nd (di_seq (de_var 0)) rfl (fun _ _ _ _ _ => (dg_name 2 sc_are_amounts.nd)) (fun _ _ _ _ _ => dcs_nil) (fun _ _ _ _ _ => (de_dv (dv_call (ok_is_amount T) (room.mono (by decide)) gd rfl T.f_is_amount.g T.f_is_amount.F.kp T.f_is_amount.b (da_cons (de_var 2) da_nil) (lenCons lenNil))))))))))))
theorem ok_is_land (T : Txt K mg) : FnG P w K mg base 4 T.f_is_land.f T.f_is_land.fd ["thing"] (spP K 1 m_is_land) := by
  refine fnP_ok (b := b_is_land) (N := ["thing", "work"]) (n := 1) T.f_is_land.F sc_is_land rfl ?_
  intro cd A outer st H room gd
  unfold b_is_land
  exact (dss_cons (ds_if (dt_w (dw_or (dt_not (dt_of (db_dv (dv_call (ok_is_sized T) (room.mono (by decide)) gd rfl T.f_is_sized.g T.f_is_sized.F.kp T.f_is_sized.b (da_cons (de_var 0) (da_cons de_int (da_cons de_int da_nil))) (lenCons (lenCons (lenCons lenNil))))))) (dw_or (dt_not (dt_of (db_dv (dv_call (ok_is_positive T) (room.mono (by decide)) gd rfl T.f_is_positive.g T.f_is_positive.F.kp T.f_is_positive.b (da_cons (de_ixV 0 de_int) da_nil) (lenCons lenNil))))) (dw_or1 (dt_not (dt_of (db_dv (dv_call (ok_is_sized T) (room.mono (by decide)) gd rfl T.f_is_sized.g T.f_is_sized.F.kp T.f_is_sized.b (da_cons (de_ixV 0 de_int) (da_cons de_int (da_cons (de_glob rfl T.c_MOST_GOODS.1 T.c_MOST_GOODS.2.1 T.c_MOST_GOODS.2.2) da_nil))) (lenCons (lenCons (lenCons lenNil))))))))))) (dss_one (ds_ret (dv_de de_bl))) dss_nil)
    (dss_cons (ds_if (dt_not (dt_of (db_de (de_all rfl rfl T.n_all (db_dv (dv_lc [("work", 1)] rfl sc_is_land.nd (di_seq (de_ixV 0 de_int)) rfl (fun _ _ _ _ _ => (dg_name 1 sc_is_land.nd)) (fun _ _ _ _ _ => dcs_nil) (fun _ _ _ _ _ => (de_or (de_isN (de_var 1) de_non) (de_one (de_dv (dv_call (ok_is_positive T) (room.mono (by decide)) gd rfl T.f_is_positive.g T.f_is_positive.F.kp T.f_is_positive.b (da_cons (de_var 1) da_nil) (lenCons lenNil)))))))))))) (dss_one (ds_ret (dv_de de_bl))) dss_nil)
    (dss_one (ds_ret (dv_de (de_any rfl rfl T.n_any (db_dv (dv_lc [("work", 1)] rfl sc_is_land.nd (di_seq (de_ixV 0 de_int)) rfl (fun _ _ _ _ _ => (dg_name 1 sc_is_land.nd)) (fun _ _ _ _ _ => dcs_nil) (fun _ _ _ _ _ => (de_notN (de_var 1) de_non))))))))))
theorem ok_asked (T : Txt K mg) : FnG P w K mg base 4 T.f_asked.f T.f_asked.fd ["works", "amounts"] (spP K 2 m_asked) := by
  refine fnP_ok (b := b_asked) (N := ["works", "amounts", "found", "work", "amount"]) (n := 2) T.f_asked.F sc_asked rfl ?_
  intro cd A outer st H room gd
  unfold b_asked
  exact (dss_cons (ds_set 2 sc_asked.nd (dv_de (de_glob rfl T.c_ZERO.1 T.c_ZERO.2.1 T.c_ZERO.2.2)))
    (dss_cons (ds_for PassesOwn.never rfl (di_zipU rfl T.n_zip (da_cons (de_var 0) (da_cons (de_var 1) da_nil))) (dg_tup 2 rfl (dgs_cons (dg_name 3 sc_asked.nd) (dgs_cons (dg_name 4 sc_asked.nd) dgs_nil))) (dss_cons (ds_if (dt_w (dw_and (dt_isN (de_var 3) de_non) (dw_and1 (dt_ne (hu64 room) (de_var 4) (de_glob rfl T.c_ZERO.1 T.c_ZERO.2.1 T.c_ZERO.2.2))))) (dss_one (ds_ret (dv_de de_non))) dss_nil)
    (dss_one (ds_if (dt_notN (de_var 3) de_non) (dss_one (ds_set 2 sc_asked.nd (dv_call (ok_plus T) (room.mono (by decide)) gd rfl T.f_plus.g T.f_plus.F.kp T.f_plus.b (da_cons (de_var 2) (da_cons (de_dv (dv_call (ok_times T) (room.mono (by decide)) gd rfl T.f_times.g T.f_times.F.kp T.f_times.b (da_cons (de_var 3) (da_cons (de_var 4) da_nil)) (lenCons (lenCons lenNil)))) da_nil)) (lenCons (lenCons lenNil))))) dss_nil))))
    (dss_one (ds_retV 2))))
theorem ok__law_drawn_lands (T : Txt K mg) : FnG P w K mg base 4 T.f__law_drawn_lands.f T.f__law_drawn_lands.fd ["hand", "lands", "goods"] (spI K 3 m__law_drawn_lands) := by
  refine fnI_ok (b := b__law_drawn_lands) (N := ["hand", "lands", "goods", "share_v", "found", "land", "good", "works", "hands", "at", "work"]) (n := 3) T.f__law_drawn_lands.F sc__law_drawn_lands rfl ?_
  intro cd A outer st H room gd
  unfold b__law_drawn_lands
  exact (dss_cons (ds_set 3 sc__law_drawn_lands.nd (dv_callI 0 (ok__law_some T) (room.mono (by decide)) gd rfl T.f__law_some.g T.f__law_some.F.kp T.f__law_some.b (da_cons (de_dv (dv_lst (da_cons de_int (da_cons de_int (da_cons de_int (da_cons de_int da_nil)))) (lenCons (lenCons (lenCons (lenCons lenNil)))))) da_nil) (lenCons lenNil)))
    (dss_cons (ds_set 4 sc__law_drawn_lands.nd (dv_lst da_nil lenNil))
    (dss_cons (ds_for PassesOwn.never rfl (di_range1 rfl T.n_range (da_cons (de_var 1) da_nil)) (dg_name 5 sc__law_drawn_lands.nd) (dss_cons (ds_setLc 7 [("good", 6)] rfl sc__law_drawn_lands.nd (di_range1 rfl T.n_range (da_cons (de_var 2) da_nil)) rfl (fun _ _ _ _ _ => (dg_name 6 sc__law_drawn_lands.nd)) (fun _ _ _ _ _ => dcs_nil) (fun _ _ _ _ _ => (de_if (dt_lt (de_dv (dv_callI 0 (ok__law_draw T) (room.mono (by decide)) gd rfl T.f__law_draw.g T.f__law_draw.F.kp T.f__law_draw.b (da_cons de_int da_nil) (lenCons lenNil))) (de_var 3)) de_non (de_dv (dv_callI 0 (ok__law_fraction T) (room.mono (by decide)) gd rfl T.f__law_fraction.g T.f__law_fraction.F.kp T.f__law_fraction.b (da_cons de_int da_nil) (lenCons lenNil))))) (sw_true rfl rfl rfl rfl))
    (dss_cons (ds_if (dt_not (dt_of (db_de (de_any rfl rfl T.n_any (db_dv (dv_lcN 7 [("work", 10)] rfl sc__law_drawn_lands.nd rfl (fun _ _ _ _ _ => (dg_name 10 sc__law_drawn_lands.nd)) (fun _ _ _ _ _ => dcs_nil) (fun _ _ _ _ _ => (de_notN (de_var 10) de_non)))))))) (dss_one (ds_put 7 (dv_callI 0 (ok__law_fraction T) (room.mono (by decide)) gd rfl T.f__law_fraction.g T.f__law_fraction.F.kp T.f__law_fraction.b (da_cons de_int da_nil) (lenCons lenNil)) (de_dv (dv_callI 0 (ok__law_draw T) (room.mono (by decide)) gd rfl T.f__law_draw.g T.f__law_draw.F.kp T.f__law_draw.b (da_cons (de_var 2) da_nil) (lenCons lenNil))))) dss_nil)
    (dss_one (ds_expr (de_append 4 (dv_de (de_tup (da_cons (de_dv (dv_callI 0 (ok__law_fraction T) (room.mono (by decide)) gd rfl T.f__law_fraction.g T.f__law_fraction.F.kp T.f__law_fraction.b (da_cons de_int da_nil) (lenCons lenNil))) (da_cons (de_tuple rfl T.n_tuple (db_var 7)) da_nil)) (lenCons (lenCons lenNil))))))))))
    (dss_cons (ds_for PassesOwn.never rfl (di_range1 rfl T.n_range (da_cons (de_var 2) da_nil)) (dg_name 6 sc__law_drawn_lands.nd) (dss_one (ds_if (dt_not (dt_of (db_de (de_any rfl rfl T.n_any (db_dv (dv_fz 7 (dv_lcN 4 [("hands", 8), ("works", 7)] rfl sc__law_drawn_lands.nd rfl (fun _ _ _ _ _ => (dg_tup 2 rfl (dgs_cons (dg_name 8 sc__law_drawn_lands.nd) (dgs_cons (dg_name 7 sc__law_drawn_lands.nd) dgs_nil)))) (fun _ _ _ _ _ => dcs_nil) (fun _ _ _ _ _ => (de_notN (de_ixV 7 (de_var 6)) de_non))))))))) (dss_cons (ds_set 9 sc__law_drawn_lands.nd (dv_callI 0 (ok__law_draw T) (room.mono (by decide)) gd rfl T.f__law_draw.g T.f__law_draw.F.kp T.f__law_draw.b (da_cons (de_var 1) da_nil) (lenCons lenNil)))
    (dss_cons (ds_asg (de_ixV 4 (de_var 9)) (dg_tup 2 rfl (dgs_cons (dg_name 8 sc__law_drawn_lands.nd) (dgs_cons (dg_name 7 sc__law_drawn_lands.nd) dgs_nil))))
    (dss_one (ds_put 4 (dv_de (de_tup (da_cons (de_var 8) (da_cons (de_addA (de_addA (de_sl (de_var 7) do_none (do_some (de_var 6))) (de_tup (da_cons (de_dv (dv_callI 0 (ok__law_fraction T) (room.mono (by decide)) gd rfl T.f__law_fraction.g T.f__law_fraction.F.kp T.f__law_fraction.b (da_cons de_int da_nil) (lenCons lenNil))) da_nil) (lenCons lenNil))) (de_sl (de_var 7) (do_some (de_addA (de_var 6) de_int)) do_none)) da_nil)) (lenCons (lenCons lenNil)))) (de_var 9))))) dss_nil)))
    (dss_one (ds_ret (dv_de (de_tuple rfl T.n_tuple (db_var 4)))))))))
theorem ok__law_at_work (T : Txt K mg) : FnG P w K mg base 4 T.f__law_at_work.f T.f__law_at_work.fd ["land", "row"] (spP K 2 m__law_at_work) := by
  refine fnP_ok (b := b__law_at_work) (N := ["land", "row", "amount", "work"]) (n := 2) T.f__law_at_work.F sc__law_at_work rfl ?_
  intro cd A outer st H room gd
  unfold b__law_at_work
  exact (dss_one (ds_ret (dv_call (ok__law_sum T) (room.mono (by decide)) gd rfl T.f__law_sum.g T.f__law_sum.F.kp T.f__law_sum.b (da_cons (de_dv (dv_lc [("amount", 2), ("work", 3)] rfl sc__law_at_work.nd (di_zipU rfl T.n_zip (da_cons (de_var 1) (da_cons (de_ixV 0 de_int) da_nil))) rfl (fun _ _ _ _ _ => (dg_tup 2 rfl (dgs_cons (dg_name 2 sc__law_at_work.nd) (dgs_cons (dg_name 3 sc__law_at_work.nd) dgs_nil)))) (fun _ _ _ _ _ => (dcs_one (dt_notN (de_var 3) de_non))) (fun _ _ _ _ _ => (de_dv (dv_call (ok__law_times T) (room.mono (by decide)) gd rfl T.f__law_times.g T.f__law_times.F.kp T.f__law_times.b (da_cons (de_var 2) (da_cons (de_var 3) da_nil)) (lenCons (lenCons lenNil))))))) da_nil) (lenCons lenNil))))
theorem ok__law_world (T : Txt K mg) : FnG P w K mg base 4 T.f__law_world.f T.f__law_world.fd ["lands", "sharing"] (spP K 2 m__law_world) := by
  refine fnP_ok (b := b__law_world) (N := ["lands", "sharing", "good", "row"]) (n := 2) T.f__law_world.F sc__law_world rfl ?_
  intro cd A outer st H room gd
  unfold b__law_world
  exact (dss_one (ds_ret (dv_de (de_tuple rfl T.n_tuple (db_dv (dv_lc [("good", 2)] rfl sc__law_world.nd (di_range1 rfl T.n_range (da_cons (de_len rfl T.n_len (db_de (de_ix (de_ixV 0 de_int) de_int))) da_nil)) rfl (fun _ _ _ _ _ => (dg_name 2 sc__law_world.nd)) (fun _ _ _ _ _ => dcs_nil) (fun _ _ _ _ _ => (de_dv (dv_call (ok__law_sum T) (room.mono (by decide)) gd rfl T.f__law_sum.g T.f__law_sum.F.kp T.f__law_sum.b (da_cons (de_dv (dv_lc [("row", 3)] rfl sc__law_world.nd (di_seq (de_var 1)) rfl (fun _ _ _ _ _ => (dg_name 3 sc__law_world.nd)) (fun _ _ _ _ _ => dcs_nil) (fun _ _ _ _ _ => (de_ixV 3 (de_var 2))))) da_nil) (lenCons lenNil))))))))))
theorem ok__law_lands_near (T : Txt K mg) : FnG P w K mg base 4 T.f__law_lands_near.f T.f__law_lands_near.fd ["hand", "lands"] (spI K 2 m__law_lands_near) := by
  refine fnI_ok (b := b__law_lands_near) (N := ["hand", "lands", "at", "hands", "works", "good", "found", "news", "one", "new", "bare", "wide", "some", "row"]) (n := 2) T.f__law_lands_near.F sc__law_lands_near rfl ?_
  intro cd A outer st H room gd
  unfold b__law_lands_near
  exact (dss_cons (ds_set 2 sc__law_lands_near.nd (dv_callI 0 (ok__law_draw T) (room.mono (by decide)) gd rfl T.f__law_draw.g T.f__law_draw.F.kp T.f__law_draw.b (da_cons (de_len rfl T.n_len (db_var 1)) da_nil) (lenCons lenNil)))
    (dss_cons (ds_asg (de_ixV 1 (de_var 2)) (dg_tup 2 rfl (dgs_cons (dg_name 3 sc__law_lands_near.nd) (dgs_cons (dg_name 4 sc__law_lands_near.nd) dgs_nil))))
    (dss_cons (ds_set 5 sc__law_lands_near.nd (dv_callI 0 (ok__law_draw T) (room.mono (by decide)) gd rfl T.f__law_draw.g T.f__law_draw.F.kp T.f__law_draw.b (da_cons (de_len rfl T.n_len (db_var 4)) da_nil) (lenCons lenNil)))
    (dss_cons (ds_set 6 sc__law_lands_near.nd (dv_lst (da_cons (de_dv (dv_list rfl T.n_list (db_var 1))) (da_cons de_non (da_cons (de_tup da_nil lenNil) (da_cons de_dict0 (da_cons (de_ixV 1 de_int) (da_cons (de_dv (dv_callI 0 (ok__law_deep T) (room.mono (by decide)) gd rfl T.f__law_deep.g T.f__law_deep.F.kp T.f__law_deep.b da_nil lenNil)) (da_cons (de_addA (de_var 1) (de_tup (da_cons de_non da_nil) (lenCons lenNil))) (da_cons (de_sl (de_repT (de_var 1) de_int) do_none (do_some de_int)) (da_cons (de_sl (de_repT (de_var 1) de_int) do_none (do_some de_int)) da_nil))))))))) (lenCons (lenCons (lenCons (lenCons (lenCons (lenCons (lenCons (lenCons (lenCons lenNil)))))))))))
    (dss_cons (ds_set 7 sc__law_lands_near.nd (dv_lst (da_cons (de_tup (da_cons (de_var 3) da_nil) (lenCons lenNil)) (da_cons (de_tup (da_cons (de_var 3) (da_cons (de_var 4) (da_cons de_int da_nil))) (lenCons (lenCons (lenCons lenNil)))) (da_cons (de_dv (dv_lst (da_cons (de_var 3) (da_cons (de_var 4) da_nil)) (lenCons (lenCons lenNil)))) (da_cons (de_tup (da_cons (de_var 3) (da_cons (de_dv (dv_list rfl T.n_list (db_var 4))) da_nil)) (lenCons (lenCons lenNil))) (da_cons (de_tup (da_cons (de_var 4) (da_cons (de_var 3) da_nil)) (lenCons (lenCons lenNil))) (da_cons (de_tup (da_cons (de_var 3) (da_cons (de_tup da_nil lenNil) da_nil)) (lenCons (lenCons lenNil))) (da_cons de_non da_nil))))))) (lenCons (lenCons (lenCons (lenCons (lenCons (lenCons (lenCons lenNil)))))))))
    (dss_cons (ds_set 7 sc__law_lands_near.nd (dv_catE (de_var 7) (de_dv (dv_lst (da_cons (de_tup (da_cons (de_var 3) (da_cons (de_addA (de_var 4) (de_sl (de_var 4) do_none (do_some de_int))) da_nil)) (lenCons (lenCons lenNil))) (da_cons (de_tup (da_cons (de_var 3) (da_cons (de_sl (de_var 4) do_none (do_some (de_neg de_int))) da_nil)) (lenCons (lenCons lenNil))) (da_cons (de_tup (da_cons (de_var 3) (da_cons (de_repT (de_tup (da_cons de_non da_nil) (lenCons lenNil)) (de_len rfl T.n_len (db_var 4))) da_nil)) (lenCons (lenCons lenNil))) (da_cons (de_tup (da_cons (de_var 3) (da_cons (de_repT (de_var 4) de_int) da_nil)) (lenCons (lenCons lenNil))) da_nil)))) (lenCons (lenCons (lenCons (lenCons lenNil))))))))
    (dss_cons (ds_set 7 sc__law_lands_near.nd (dv_catE (de_var 7) (de_dv (dv_lc [("one", 8)] rfl sc__law_lands_near.nd (di_seq (de_dv (dv_callI 0 (ok__law_odd_fractions T) (room.mono (by decide)) gd rfl T.f__law_odd_fractions.g T.f__law_odd_fractions.F.kp T.f__law_odd_fractions.b da_nil lenNil))) rfl (fun _ _ _ _ _ => (dg_name 8 sc__law_lands_near.nd)) (fun _ _ _ _ _ => dcs_nil) (fun _ _ _ _ _ => (de_tup (da_cons (de_var 8) (da_cons (de_var 4) da_nil)) (lenCons (lenCons lenNil))))))))
    (dss_cons (ds_for PassesOwn.never rfl (di_seq (de_dv (dv_callI 0 (ok__law_odd_fractions T) (room.mono (by decide)) gd rfl T.f__law_odd_fractions.g T.f__law_odd_fractions.F.kp T.f__law_odd_fractions.b da_nil lenNil))) (dg_name 8 sc__law_lands_near.nd) (dss_one (ds_expr (de_append 7 (dv_de (de_tup (da_cons (de_var 3) (da_cons (de_addA (de_addA (de_sl (de_var 4) do_none (do_some (de_var 5))) (de_tup (da_cons (de_var 8) da_nil) (lenCons lenNil))) (de_sl (de_var 4) (do_some (de_addA (de_var 5) de_int)) do_none)) da_nil)) (lenCons (lenCons lenNil))))))))
    (dss_cons (ds_for PassesOwn.never rfl (di_seq (de_var 7)) (dg_name 9 sc__law_lands_near.nd) (dss_one (ds_expr (de_append 6 (dv_de (de_addA (de_addA (de_sl (de_var 1) do_none (do_some (de_var 2))) (de_tup (da_cons (de_var 9) da_nil) (lenCons lenNil))) (de_sl (de_var 1) (do_some (de_addA (de_var 2) de_int)) do_none)))))))
    (dss_cons (ds_set 10 sc__law_lands_near.nd (dv_de (de_tuple rfl T.n_tuple (db_dv (dv_lc [("some", 12), ("row", 13)] rfl sc__law_lands_near.nd (di_seq (de_var 1)) rfl (fun _ _ _ _ _ => (dg_tup 2 rfl (dgs_cons (dg_name 12 sc__law_lands_near.nd) (dgs_cons (dg_name 13 sc__law_lands_near.nd) dgs_nil)))) (fun _ _ _ _ _ => dcs_nil) (fun _ _ _ _ _ => (de_tup (da_cons (de_var 12) (da_cons (de_addA (de_addA (de_sl (de_var 13) do_none (do_some (de_var 5))) (de_tup (da_cons de_non da_nil) (lenCons lenNil))) (de_sl (de_var 13) (do_some (de_addA (de_var 5) de_int)) do_none)) da_nil)) (lenCons (lenCons lenNil)))))))))
    (dss_cons (ds_set 11 sc__law_lands_near.nd (dv_de (de_tuple rfl T.n_tuple (db_dv (dv_lc [("some", 12), ("row", 13)] rfl sc__law_lands_near.nd (di_seq (de_var 1)) rfl (fun _ _ _ _ _ => (dg_tup 2 rfl (dgs_cons (dg_name 12 sc__law_lands_near.nd) (dgs_cons (dg_name 13 sc__law_lands_near.nd) dgs_nil)))) (fun _ _ _ _ _ => dcs_nil) (fun _ _ _ _ _ => (de_tup (da_cons (de_var 12) (da_cons (de_sl (de_repT (de_var 13) de_int) do_none (do_some de_int)) da_nil)) (lenCons (lenCons lenNil)))))))))
    (dss_one (ds_ret (dv_catE (de_var 6) (de_dv (dv_lst (da_cons (de_var 10) (da_cons (de_var 11) (da_cons (de_tuple rfl T.n_tuple (db_dv (dv_lc [("some", 12), ("row", 13)] rfl sc__law_lands_near.nd (di_seq (de_var 1)) rfl (fun _ _ _ _ _ => (dg_tup 2 rfl (dgs_cons (dg_name 12 sc__law_lands_near.nd) (dgs_cons (dg_name 13 sc__law_lands_near.nd) dgs_nil)))) (fun _ _ _ _ _ => dcs_nil) (fun _ _ _ _ _ => (de_tup (da_cons (de_var 12) (da_cons (de_sl (de_repT (de_var 13) de_int) do_none (do_some de_int)) da_nil)) (lenCons (lenCons lenNil))))))) da_nil))) (lenCons (lenCons (lenCons lenNil)))))))))))))))))))
theorem ok_is_lands (T : Txt K mg) : FnG P w K mg base 5 T.f_is_lands.f T.f_is_lands.fd ["thing"] (spP K 1 m_is_lands) := by
  refine fnP_ok (b := b_is_lands) (N := ["thing", "good", "land"]) (n := 1) T.f_is_lands.F sc_is_lands rfl ?_
  intro cd A outer st H room gd
  unfold b_is_lands
  exact (dss_cons (ds_if (dt_w (dw_or (dt_not (dt_of (db_dv (dv_call (ok_is_sized T) (room.mono (by decide)) gd rfl T.f_is_sized.g T.f_is_sized.F.kp T.f_is_sized.b (da_cons (de_var 0) (da_cons de_int (da_cons (de_glob rfl T.c_MOST_LANDS.1 T.c_MOST_LANDS.2.1 T.c_MOST_LANDS.2.2) da_nil))) (lenCons (lenCons (lenCons lenNil))))))) (dw_or1 (dt_not (dt_of (db_de (de_all rfl rfl T.n_all (db_dv (dv_lc [("land", 2)] rfl sc_is_lands.nd (di_seq (de_var 0)) rfl (fun _ _ _ _ _ => (dg_name 2 sc_is_lands.nd)) (fun _ _ _ _ _ => dcs_nil) (fun _ _ _ _ _ => (de_dv (dv_call (ok_is_land T) (room.mono (by decide)) gd rfl T.f_is_land.g T.f_is_land.F.kp T.f_is_land.b (da_cons (de_var 2) da_nil) (lenCons lenNil))))))))))))) (dss_one (ds_ret (dv_de de_bl))) dss_nil)
    (dss_cons (ds_if (dt_not (dt_of (db_de (de_all rfl rfl T.n_all (db_dv (dv_lc [("land", 2)] rfl sc_is_lands.nd (di_seq (de_var 0)) rfl (fun _ _ _ _ _ => (dg_name 2 sc_is_lands.nd)) (fun _ _ _ _ _ => dcs_nil) (fun _ _ _ _ _ => (de_eq (hu64 room) (de_len rfl T.n_len (db_de (de_ixV 2 de_int))) (de_len rfl T.n_len (db_de (de_ix (de_ixV 0 de_int) de_int))))))))))) (dss_one (ds_ret (dv_de de_bl))) dss_nil)
    (dss_cons (ds_for PassesOwn.never rfl (di_range1 rfl T.n_range (da_cons (de_len rfl T.n_len (db_de (de_ix (de_ixV 0 de_int) de_int))) da_nil)) (dg_name 1 sc_is_lands.nd) (dss_one (ds_if (dt_of (db_de (de_all rfl rfl T.n_all (db_dv (dv_lc [("land", 2)] rfl sc_is_lands.nd (di_seq (de_var 0)) rfl (fun _ _ _ _ _ => (dg_name 2 sc_is_lands.nd)) (fun _ _ _ _ _ => dcs_nil) (fun _ _ _ _ _ => (de_isN (de_ix (de_ixV 2 de_int) (de_var 1)) de_non))))))) (dss_one (ds_ret (dv_de de_bl))) dss_nil)))
    (dss_one (ds_ret (dv_de de_bl))))))
theorem ok_is_part (T : Txt K mg) : FnG P w K mg base 5 T.f_is_part.f T.f_is_part.fd ["lands", "land", "thing"] (spP K 3 m_is_part) := by
  refine fnP_ok (b := b_is_part) (N := ["lands", "land", "thing", "work"]) (n := 3) T.f_is_part.F sc_is_part rfl ?_
  intro cd A outer st H room gd
  unfold b_is_part
  exact (dss_cons (ds_if (dt_not (dt_of (db_dv (dv_call (ok_are_amounts T) (room.mono (by decide)) gd rfl T.f_are_amounts.g T.f_are_amounts.F.kp T.f_are_amounts.b (da_cons (de_var 2) (da_cons (de_dv (dv_call (ok_goods_of T) (room.mono (by decide)) gd rfl T.f_goods_of.g T.f_goods_of.F.kp T.f_goods_of.b (da_cons (de_var 0) da_nil) (lenCons lenNil))) da_nil)) (lenCons (lenCons lenNil)))))) (dss_one (ds_ret (dv_de de_bl))) dss_nil)
    (dss_cons (ds_set 3 sc_is_part.nd (dv_call (ok_asked T) (room.mono (by decide)) gd rfl T.f_asked.g T.f_asked.F.kp T.f_asked.b (da_cons (de_ix (de_ixV 0 (de_var 1)) de_int) (da_cons (de_var 2) da_nil)) (lenCons (lenCons lenNil))))
    (dss_one (ds_ret (dv_de (de_and (de_notN (de_var 3) de_non) (de_one (de_not (db_dv (dv_call (ok_is_less T) (room.mono (by decide)) gd rfl T.f_is_less.g T.f_is_less.F.kp T.f_is_less.b (da_cons (de_ix (de_ixV 0 (de_var 1)) de_int) (da_cons (de_var 3) da_nil)) (lenCons (lenCons lenNil))))))))))))
theorem ok_raw_world (T : Txt K mg) : FnG P w K mg base 5 T.f_raw_world.f T.f_raw_world.fd ["lands", "sharing"] (spP K 2 m_raw_world) := by
  refine fnP_ok (b := b_raw_world) (N := ["lands", "sharing", "good", "part"]) (n := 2) T.f_raw_world.F sc_raw_world rfl ?_
  intro cd A outer st H room gd
  unfold b_raw_world
  exact (dss_one (ds_ret (dv_de (de_tuple rfl T.n_tuple (db_dv (dv_lc [("good", 2)] rfl sc_raw_world.nd (di_range1 rfl T.n_range (da_cons (de_dv (dv_call (ok_goods_of T) (room.mono (by decide)) gd rfl T.f_goods_of.g T.f_goods_of.F.kp T.f_goods_of.b (da_cons (de_var 0) da_nil) (lenCons lenNil))) da_nil)) rfl (fun _ _ _ _ _ => (dg_name 2 sc_raw_world.nd)) (fun _ _ _ _ _ => dcs_nil) (fun _ _ _ _ _ => (de_dv (dv_call (ok_summed T) (room.mono (by decide)) gd rfl T.f_summed.g T.f_summed.F.kp T.f_summed.b (da_cons (de_dv (dv_lc [("part", 3)] rfl sc_raw_world.nd (di_seq (de_var 1)) rfl (fun _ _ _ _ _ => (dg_name 3 sc_raw_world.nd)) (fun _ _ _ _ _ => dcs_nil) (fun _ _ _ _ _ => (de_ixV 3 (de_var 2))))) da_nil) (lenCons lenNil))))))))))
theorem ok__law_is_sharing (T : Txt K mg) : FnG P w K mg base 5 T.f__law_is_sharing.f T.f__law_is_sharing.fd ["lands", "thing"] (spP K 2 m__law_is_sharing) := by
  refine fnP_ok (b := b__law_is_sharing) (N := ["lands", "thing", "land", "row", "amount", "work"]) (n := 2) T.f__law_is_sharing.F sc__law_is_sharing rfl ?_
  intro cd A outer st H room gd
  unfold b__law_is_sharing
  exact (dss_cons (ds_if (dt_w (dw_or (dt_not (dt_of (db_de (de_isi (n := "tuple") rfl T.n_isinstance rfl T.n_tuple (by decide +kernel) (de_var 1))))) (dw_or1 (dt_ne (hu64 room) (de_len rfl T.n_len (db_var 1)) (de_len rfl T.n_len (db_var 0)))))) (dss_one (ds_ret (dv_de de_bl))) dss_nil)
    (dss_cons (ds_for PassesOwn.never rfl (di_zipU rfl T.n_zip (da_cons (de_var 0) (da_cons (de_var 1) da_nil))) (dg_tup 2 rfl (dgs_cons (dg_name 2 sc__law_is_sharing.nd) (dgs_cons (dg_name 3 sc__law_is_sharing.nd) dgs_nil))) (dss_cons (ds_if (dt_w (dw_or (dt_not (dt_of (db_de (de_isi (n := "tuple") rfl T.n_isinstance rfl T.n_tuple (by decide +kernel) (de_var 3))))) (dw_or1 (dt_ne (hu64 room) (de_len rfl T.n_len (db_var 3)) (de_len rfl T.n_len (db_de (de_ixV 2 de_int))))))) (dss_one (ds_ret (dv_de de_bl))) dss_nil)
    (dss_cons (ds_if (dt_not (dt_of (db_de (de_all rfl rfl T.n_all (db_dv (dv_lc [("amount", 4)] rfl sc__law_is_sharing.nd (di_seq (de_var 3)) rfl (fun _ _ _ _ _ => (dg_name 4 sc__law_is_sharing.nd)) (fun _ _ _ _ _ => dcs_nil) (fun _ _ _ _ _ => (de_dv (dv_call (ok__law_is_fraction T) (room.mono (by decide)) gd rfl T.f__law_is_fraction.g T.f__law_is_fraction.F.kp T.f__law_is_fraction.b (da_cons (de_var 4) (da_cons de_int da_nil)) (lenCons (lenCons lenNil))))))))))) (dss_one (ds_ret (dv_de de_bl))) dss_nil)
    (dss_cons (ds_if (dt_of (db_de (de_any rfl rfl T.n_any (db_dv (dv_lc [("amount", 4), ("work", 5)] rfl sc__law_is_sharing.nd (di_zipU rfl T.n_zip (da_cons (de_var 3) (da_cons (de_ixV 2 de_int) da_nil))) rfl (fun _ _ _ _ _ => (dg_tup 2 rfl (dgs_cons (dg_name 4 sc__law_is_sharing.nd) (dgs_cons (dg_name 5 sc__law_is_sharing.nd) dgs_nil)))) (fun _ _ _ _ _ => dcs_nil) (fun _ _ _ _ _ => (de_and (de_gt (de_ixV 4 de_int) de_int) (de_one (de_isN (de_var 5) de_non))))))))) (dss_one (ds_ret (dv_de de_bl))) dss_nil)
    (dss_one (ds_if (dt_of (db_dv (dv_call (ok__law_less T) (room.mono (by decide)) gd rfl T.f__law_less.g T.f__law_less.F.kp T.f__law_less.b (da_cons (de_ixV 2 de_int) (da_cons (de_dv (dv_call (ok__law_at_work T) (room.mono (by decide)) gd rfl T.f__law_at_work.g T.f__law_at_work.F.kp T.f__law_at_work.b (da_cons (de_var 2) (da_cons (de_var 3) da_nil)) (lenCons (lenCons lenNil)))) da_nil)) (lenCons (lenCons lenNil))))) (dss_one (ds_ret (dv_de de_bl))) dss_nil))))))
    (dss_one (ds_ret (dv_de de_bl)))))
theorem ok__law_sharings_near (T : Txt K mg) : FnG P w K mg base 5 T.f__law_sharings_near.f T.f__law_sharings_near.fd ["hand", "lands", "sharing"] (spI K 3 m__law_sharings_near) := by
  refine fnI_ok (b := b__law_sharings_near) (N := ["hand", "lands", "sharing", "at", "row", "found", "good", "work", "news", "odd", "left", "more", "one", "new"]) (n := 3) T.f__law_sharings_near.F sc__law_sharings_near rfl ?_
  intro cd A outer st H room gd
  unfold b__law_sharings_near
  exact (dss_cons (ds_set 3 sc__law_sharings_near.nd (dv_callI 0 (ok__law_draw T) (room.mono (by decide)) gd rfl T.f__law_draw.g T.f__law_draw.F.kp T.f__law_draw.b (da_cons (de_len rfl T.n_len (db_var 1)) da_nil) (lenCons lenNil)))
    (dss_cons (ds_par 4 5 rfl sc__law_sharings_near.nd (dv_de (de_ixV 2 (de_var 3))) (dv_lst (da_cons (de_dv (dv_list rfl T.n_list (db_var 2))) (da_cons de_non (da_cons (de_tup da_nil lenNil) (da_cons (de_sl (de_var 2) do_none (do_some (de_neg de_int))) (da_cons (de_addA (de_var 2) (de_sl (de_var 2) do_none (do_some de_int))) (da_cons de_dict0 (da_cons (de_dv (dv_callI 0 (ok__law_deep T) (room.mono (by decide)) gd rfl T.f__law_deep.g T.f__law_deep.F.kp T.f__law_deep.b da_nil lenNil)) da_nil))))))) (lenCons (lenCons (lenCons (lenCons (lenCons (lenCons (lenCons lenNil)))))))))
    (dss_cons (ds_set 6 sc__law_sharings_near.nd (dv_callI 0 (ok__law_draw T) (room.mono (by decide)) gd rfl T.f__law_draw.g T.f__law_draw.F.kp T.f__law_draw.b (da_cons (de_len rfl T.n_len (db_var 4)) da_nil) (lenCons lenNil)))
    (dss_cons (ds_set 7 sc__law_sharings_near.nd (dv_de (de_ix (de_ix (de_ixV 1 (de_var 3)) de_int) (de_var 6))))
    (dss_cons (ds_set 8 sc__law_sharings_near.nd (dv_lst (da_cons (de_dv (dv_list rfl T.n_list (db_var 4))) (da_cons (de_sl (de_var 4) do_none (do_some (de_neg de_int))) (da_cons (de_addA (de_var 4) (de_tup (da_cons (de_tup (da_cons de_int (da_cons de_int da_nil)) (lenCons (lenCons lenNil))) da_nil) (lenCons lenNil))) (da_cons de_non (da_cons (de_rev (de_var 4)) da_nil))))) (lenCons (lenCons (lenCons (lenCons (lenCons lenNil)))))))
    (dss_cons (ds_set 9 sc__law_sharings_near.nd (dv_catE (de_dv (dv_callI 0 (ok__law_odd_fractions T) (room.mono (by decide)) gd rfl T.f__law_odd_fractions.g T.f__law_odd_fractions.F.kp T.f__law_odd_fractions.b da_nil lenNil)) (de_dv (dv_lst (da_cons (de_tup (da_cons de_int (da_cons (de_pow de_int de_int) da_nil)) (lenCons (lenCons lenNil))) (da_cons (de_tup (da_cons (de_pow de_int de_int) (da_cons de_int da_nil)) (lenCons (lenCons lenNil))) da_nil)) (lenCons (lenCons lenNil))))))
    (dss_cons (ds_if (dt_notN (de_var 7) de_non) (dss_cons (ds_set 10 sc__law_sharings_near.nd (dv_call (ok__law_plus T) (room.mono (by decide)) gd rfl T.f__law_plus.g T.f__law_plus.F.kp T.f__law_plus.b (da_cons (de_ix (de_ixV 1 (de_var 3)) de_int) (da_cons (de_dv (dv_call (ok__law_times T) (room.mono (by decide)) gd rfl T.f__law_times.g T.f__law_times.F.kp T.f__law_times.b (da_cons (de_tup (da_cons (de_neg de_int) (da_cons de_int da_nil)) (lenCons (lenCons lenNil))) (da_cons (de_dv (dv_call (ok__law_at_work T) (room.mono (by decide)) gd rfl T.f__law_at_work.g T.f__law_at_work.F.kp T.f__law_at_work.b (da_cons (de_ixV 1 (de_var 3)) (da_cons (de_var 4) da_nil)) (lenCons (lenCons lenNil)))) da_nil)) (lenCons (lenCons lenNil)))) da_nil)) (lenCons (lenCons lenNil))))
    (dss_cons (ds_set 11 sc__law_sharings_near.nd (dv_call (ok__law_plus T) (room.mono (by decide)) gd rfl T.f__law_plus.g T.f__law_plus.F.kp T.f__law_plus.b (da_cons (de_ixV 4 (de_var 6)) (da_cons (de_dv (dv_call (ok__law_over T) (room.mono (by decide)) gd rfl T.f__law_over.g T.f__law_over.F.kp T.f__law_over.b (da_cons (de_var 10) (da_cons (de_var 7) da_nil)) (lenCons (lenCons lenNil)))) da_nil)) (lenCons (lenCons lenNil))))
    (dss_one (ds_set 9 sc__law_sharings_near.nd (dv_catE (de_var 9) (de_dv (dv_lst (da_cons (de_var 11) (da_cons (de_dv (dv_call (ok__law_plus T) (room.mono (by decide)) gd rfl T.f__law_plus.g T.f__law_plus.F.kp T.f__law_plus.b (da_cons (de_var 11) (da_cons (de_tup (da_cons de_int (da_cons (de_pow de_int de_int) da_nil)) (lenCons (lenCons lenNil))) da_nil)) (lenCons (lenCons lenNil)))) da_nil)) (lenCons (lenCons lenNil))))))))) dss_nil)
    (dss_cons (ds_for PassesOwn.never rfl (di_seq (de_var 9)) (dg_name 12 sc__law_sharings_near.nd) (dss_one (ds_expr (de_append 8 (dv_de (de_addA (de_addA (de_sl (de_var 4) do_none (do_some (de_var 6))) (de_tup (da_cons (de_var 12) da_nil) (lenCons lenNil))) (de_sl (de_var 4) (do_some (de_addA (de_var 6) de_int)) do_none)))))))
    (dss_one (ds_ret (dv_catE (de_var 5) (de_dv (dv_lcN 8 [("new", 13)] rfl sc__law_sharings_near.nd rfl (fun _ _ _ _ _ => (dg_name 13 sc__law_sharings_near.nd)) (fun _ _ _ _ _ => dcs_nil) (fun _ _ _ _ _ => (de_addA (de_addA (de_sl (de_var 2) do_none (do_some (de_var 3))) (de_tup (da_cons (de_var 13) da_nil) (lenCons lenNil))) (de_sl (de_var 2) (do_some (de_addA (de_var 3) de_int)) do_none))))))))))))))))
theorem ok_check_lands (T : Txt K mg) : FnG P w K mg base 6 T.f_check_lands.f T.f_check_lands.fd ["thing"] (spP K 1 m_check_lands) := by
  refine fnP_ok (b := b_check_lands) (N := ["thing"]) (n := 1) T.f_check_lands.F sc_check_lands rfl ?_
  intro cd A outer st H room gd
  unfold b_check_lands
  exact (dss_one (ds_if (dt_not (dt_of (db_dv (dv_call (ok_is_lands T) (room.mono (by decide)) gd rfl T.f_is_lands.g T.f_is_lands.F.kp T.f_is_lands.b (da_cons (de_var 0) da_nil) (lenCons lenNil))))) (dss_one ds_no) dss_nil))
theorem ok_is_sharing_of (T : Txt K mg) : FnG P w K mg base 6 T.f_is_sharing_of.f T.f_is_sharing_of.fd ["lands", "thing"] (spP K 2 m_is_sharing_of) := by
  refine fnP_ok (b := b_is_sharing_of) (N := ["lands", "thing", "many", "land", "part"]) (n := 2) T.f_is_sharing_of.F sc_is_sharing_of rfl ?_
  intro cd A outer st H room gd
  unfold b_is_sharing_of
  exact (dss_cons (ds_set 2 sc_is_sharing_of.nd (dv_de (de_len rfl T.n_len (db_var 0))))
    (dss_cons (ds_if (dt_not (dt_of (db_dv (dv_call (ok_is_sized T) (room.mono (by decide)) gd rfl T.f_is_sized.g T.f_is_sized.F.kp T.f_is_sized.b (da_cons (de_var 1) (da_cons (de_var 2) (da_cons (de_var 2) da_nil))) (lenCons (lenCons (lenCons lenNil))))))) (dss_one (ds_ret (dv_de de_bl))) dss_nil)
    (dss_one (ds_ret (dv_de (de_all rfl rfl T.n_all (db_dv (dv_lc [("land", 3), ("part", 4)] rfl sc_is_sharing_of.nd (di_enum rfl T.n_enumerate (da_cons (de_var 1) da_nil)) rfl (fun _ _ _ _ _ => (dg_tup 2 rfl (dgs_cons (dg_name 3 sc_is_sharing_of.nd) (dgs_cons (dg_name 4 sc_is_sharing_of.nd) dgs_nil)))) (fun _ _ _ _ _ => dcs_nil) (fun _ _ _ _ _ => (de_dv (dv_call (ok_is_part T) (room.mono (by decide)) gd rfl T.f_is_part.g T.f_is_part.F.kp T.f_is_part.b (da_cons (de_var 0) (da_cons (de_var 3) (da_cons (de_var 4) da_nil))) (lenCons (lenCons (lenCons lenNil))))))))))))))
theorem ok_is_sharing (T : Txt K mg) : FnG P w K mg base 7 T.f_is_sharing.f T.f_is_sharing.fd ["lands", "thing"] (spP K 2 m_is_sharing) := by
  refine fnP_ok (b := b_is_sharing) (N := ["lands", "thing"]) (n := 2) T.f_is_sharing.F sc_is_sharing rfl ?_
  intro cd A outer st H room gd
  unfold b_is_sharing
  exact (dss_cons (ds_expr (de_dv (dv_call (ok_check_lands T) (room.mono (by decide)) gd rfl T.f_check_lands.g T.f_check_lands.F.kp T.f_check_lands.b (da_cons (de_var 0) da_nil) (lenCons lenNil))))
    (dss_one (ds_ret (dv_call (ok_is_sharing_of T) (room.mono (by decide)) gd rfl T.f_is_sharing_of.g T.f_is_sharing_of.F.kp T.f_is_sharing_of.b (da_cons (de_var 0) (da_cons (de_var 1) da_nil)) (lenCons (lenCons lenNil))))))
theorem ok_check_sharing (T : Txt K mg) : FnG P w K mg base 7 T.f_check_sharing.f T.f_check_sharing.fd ["lands", "sharing"] (spP K 2 m_check_sharing) := by
  refine fnP_ok (b := b_check_sharing) (N := ["lands", "sharing"]) (n := 2) T.f_check_sharing.F sc_check_sharing rfl ?_
  intro cd A outer st H room gd
  unfold b_check_sharing
  exact (dss_cons (ds_expr (de_dv (dv_call (ok_check_lands T) (room.mono (by decide)) gd rfl T.f_check_lands.g T.f_check_lands.F.kp T.f_check_lands.b (da_cons (de_var 0) da_nil) (lenCons lenNil))))
    (dss_one (ds_if (dt_not (dt_of (db_dv (dv_call (ok_is_sharing_of T) (room.mono (by decide)) gd rfl T.f_is_sharing_of.g T.f_is_sharing_of.F.kp T.f_is_sharing_of.b (da_cons (de_var 0) (da_cons (de_var 1) da_nil)) (lenCons (lenCons lenNil)))))) (dss_one ds_no) dss_nil)))
theorem ok_world (T : Txt K mg) : FnG P w K mg base 8 T.f_world.f T.f_world.fd ["lands", "sharing"] (spP K 2 m_world) := by
  refine fnP_ok (b := b_world) (N := ["lands", "sharing"]) (n := 2) T.f_world.F sc_world rfl ?_
  intro cd A outer st H room gd
  unfold b_world
  exact (dss_cons (ds_expr (de_dv (dv_call (ok_check_sharing T) (room.mono (by decide)) gd rfl T.f_check_sharing.g T.f_check_sharing.F.kp T.f_check_sharing.b (da_cons (de_var 0) (da_cons (de_var 1) da_nil)) (lenCons (lenCons lenNil)))))
    (dss_one (ds_ret (dv_call (ok_raw_world T) (room.mono (by decide)) gd rfl T.f_raw_world.g T.f_raw_world.F.kp T.f_raw_world.b (da_cons (de_var 0) (da_cons (de_var 1) da_nil)) (lenCons (lenCons lenNil))))))
theorem okr__law_is (T : Txt K mg) : ∀ n : Nat, FnG P w K mg base (0 + n) T.f__law_is.f T.f__law_is.fd ["thing", "due"] (spP K 2 (mr__law_is n))
  | 0 => FnG.none rfl
  | k + 1 => by
    have ih := okr__law_is T k
    refine fnP_ok (b := b__law_is (mr__law_is k)) (N := ["thing", "due", "one", "other"]) (n := 2) T.f__law_is.F sc__law_is rfl ?_
    intro cd A outer st H room gd
    unfold b__law_is
    exact (dss_cons (ds_if (dt_of (db_de (de_isi2 (n := "tuple") (m := "list") rfl T.n_isinstance rfl T.n_tuple (by decide +kernel) rfl T.n_list (by decide +kernel) (de_var 1)))) (dss_cons (ds_if (dt_w (dw_or (dt_ne (hu64 room) (de_isi (n := "tuple") rfl T.n_isinstance rfl T.n_tuple (by decide +kernel) (de_var 0)) (de_isi (n := "tuple") rfl T.n_isinstance rfl T.n_tuple (by decide +kernel) (de_var 1))) (dw_or1 (dt_ne (hu64 room) (de_isi (n := "list") rfl T.n_isinstance rfl T.n_list (by decide +kernel) (de_var 0)) (de_isi (n := "list") rfl T.n_isinstance rfl T.n_list (by decide +kernel) (de_var 1)))))) (dss_one (ds_ret (dv_de de_bl))) dss_nil)
    (dss_one (ds_ret (dv_de (de_and (de_eq (hu64 room) (de_len rfl T.n_len (db_var 0)) (de_len rfl T.n_len (db_var 1))) (de_one (de_all rfl rfl T.n_all (db_dv (dv_lc [("one", 2), ("other", 3)] rfl sc__law_is.nd (di_zipU rfl T.n_zip (da_cons (de_var 0) (da_cons (de_var 1) da_nil))) rfl (fun _ _ _ _ _ => (dg_tup 2 rfl (dgs_cons (dg_name 2 sc__law_is.nd) (dgs_cons (dg_name 3 sc__law_is.nd) dgs_nil)))) (fun _ _ _ _ _ => dcs_nil) (fun _ _ _ _ _ => (de_dv (dv_call ih (room.mono (Nat.le_refl _)) gd rfl T.f__law_is.g T.f__law_is.F.kp T.f__law_is.b (da_cons (de_var 2) (da_cons (de_var 3) da_nil)) (lenCons (lenCons lenNil)))))))))))))) dss_nil)
    (dss_cons (ds_if (dt_w (dw_or (dt_isN (de_var 1) de_non) (dw_or1 (dt_isN (de_var 0) de_non)))) (dss_one (ds_ret (dv_de (de_and (de_isN (de_var 1) de_non) (de_one (de_isN (de_var 0) de_non)))))) dss_nil)
    (dss_cons (ds_if (dt_w (dw_or (dt_ne (hu64 room) (de_isi (n := "bool") rfl T.n_isinstance rfl T.n_bool (by decide +kernel) (de_var 0)) (de_isi (n := "bool") rfl T.n_isinstance rfl T.n_bool (by decide +kernel) (de_var 1))) (dw_or1 (dt_ne (hu64 room) (de_isi (n := "int") rfl T.n_isinstance rfl T.n_int (by decide +kernel) (de_var 0)) (de_isi (n := "int") rfl T.n_isinstance rfl T.n_int (by decide +kernel) (de_var 1)))))) (dss_one (ds_ret (dv_de de_bl))) dss_nil)
    (dss_one (ds_ret (dv_de (de_and (de_eq (hu64 room) (de_isi (n := "str") rfl T.n_isinstance rfl T.n_str (by decide +kernel) (de_var 0)) (de_isi (n := "str") rfl T.n_isinstance rfl T.n_str (by decide +kernel) (de_var 1))) (de_one (de_eq (hu64 room) (de_var 0) (de_var 1))))))))))
theorem ok__law_is (T : Txt K mg) : FnG P w K mg base 8 T.f__law_is.f T.f__law_is.fd ["thing", "due"] (spP K 2 m__law_is) := okr__law_is T 8
theorem ok__law_is_right (T : Txt K mg) : FnG P w K mg base 9 T.f__law_is_right.f T.f__law_is_right.fd ["hand", "lands", "sharing"] (spI K 3 m__law_is_right) := by
  refine fnI_ok (b := b__law_is_right) (N := ["hand", "lands", "sharing", "thing", "before", "other", "half", "one", "two", "told", "mean", "first", "last"]) (n := 3) T.f__law_is_right.F sc__law_is_right rfl ?_
  intro cd A outer st H room gd
  unfold b__law_is_right
  exact (dss_cons (ds_for PassesOwn.never rfl (di_seq (de_dv (dv_catE (de_dv (dv_lst (da_cons (de_var 1) da_nil) (lenCons lenNil))) (de_dv (dv_callI 0 (ok__law_lands_near T) (room.mono (by decide)) gd rfl T.f__law_lands_near.g T.f__law_lands_near.F.kp T.f__law_lands_near.b (da_cons (de_var 1) da_nil) (lenCons lenNil)))))) (dg_name 3 sc__law_is_right.nd) (dss_cons (ds_set 4 sc__law_is_right.nd (dv_de (de_repr gd (hu64 room) rfl T.n_repr (db_var 3))))
    (dss_one (ds_if (dt_w (dw_or (dt_not (dt_of (db_dv (dv_call (ok__law_is T) (room.mono (by decide)) gd rfl T.f__law_is.g T.f__law_is.F.kp T.f__law_is.b (da_cons (de_dv (dv_call (ok_is_lands T) (room.mono (by decide)) gd rfl T.f_is_lands.g T.f_is_lands.F.kp T.f_is_lands.b (da_cons (de_var 3) da_nil) (lenCons lenNil))) (da_cons (de_dv (dv_call (ok__law_is_lands T) (room.mono (by decide)) gd rfl T.f__law_is_lands.g T.f__law_is_lands.F.kp T.f__law_is_lands.b (da_cons (de_var 3) da_nil) (lenCons lenNil))) da_nil)) (lenCons (lenCons lenNil)))))) (dw_or1 (dt_ne (hu64 room) (de_repr gd (hu64 room) rfl T.n_repr (db_var 3)) (de_var 4))))) (dss_one (ds_ret (dv_de de_bl))) dss_nil))))
    (dss_cons (ds_for PassesOwn.never rfl (di_seq (de_dv (dv_catE (de_dv (dv_lst (da_cons (de_var 2) da_nil) (lenCons lenNil))) (de_dv (dv_callI 0 (ok__law_sharings_near T) (room.mono (by decide)) gd rfl T.f__law_sharings_near.g T.f__law_sharings_near.F.kp T.f__law_sharings_near.b (da_cons (de_var 1) (da_cons (de_var 2) da_nil)) (lenCons (lenCons lenNil))))))) (dg_name 3 sc__law_is_right.nd) (dss_cons (ds_set 4 sc__law_is_right.nd (dv_de (de_repr gd (hu64 room) rfl T.n_repr (db_var 3))))
    (dss_one (ds_if (dt_w (dw_or (dt_not (dt_of (db_dv (dv_call (ok__law_is T) (room.mono (by decide)) gd rfl T.f__law_is.g T.f__law_is.F.kp T.f__law_is.b (da_cons (de_dv (dv_call (ok_is_sharing T) (room.mono (by decide)) gd rfl T.f_is_sharing.g T.f_is_sharing.F.kp T.f_is_sharing.b (da_cons (de_var 1) (da_cons (de_var 3) da_nil)) (lenCons (lenCons lenNil)))) (da_cons (de_dv (dv_call (ok__law_is_sharing T) (room.mono (by decide)) gd rfl T.f__law_is_sharing.g T.f__law_is_sharing.F.kp T.f__law_is_sharing.b (da_cons (de_var 1) (da_cons (de_var 3) da_nil)) (lenCons (lenCons lenNil)))) da_nil)) (lenCons (lenCons lenNil)))))) (dw_or1 (dt_ne (hu64 room) (de_repr gd (hu64 room) rfl T.n_repr (db_var 3)) (de_var 4))))) (dss_one (ds_ret (dv_de de_bl))) dss_nil))))
    (dss_cons (ds_set 5 sc__law_is_right.nd (dv_callI 0 (ok__law_drawn_sharing T) (room.mono (by decide)) gd rfl T.f__law_drawn_sharing.g T.f__law_drawn_sharing.F.kp T.f__law_drawn_sharing.b (da_cons (de_var 1) (da_cons de_bl da_nil)) (lenCons (lenCons lenNil))))
    (dss_cons (ds_set 6 sc__law_is_right.nd (dv_lst da_nil lenNil))
    (dss_cons (ds_for PassesOwn.never rfl (di_zipU rfl T.n_zip (da_cons (de_var 2) (da_cons (de_var 5) da_nil))) (dg_tup 2 rfl (dgs_cons (dg_name 7 sc__law_is_right.nd) (dgs_cons (dg_name 8 sc__law_is_right.nd) dgs_nil))) (dss_one (ds_expr (de_append 6 (dv_de (de_tuple rfl T.n_tuple (db_dv (dv_lc [("first", 11), ("last", 12)] rfl sc__law_is_right.nd (di_zipU rfl T.n_zip (da_cons (de_var 7) (da_cons (de_var 8) da_nil))) rfl (fun _ _ _ _ _ => (dg_tup 2 rfl (dgs_cons (dg_name 11 sc__law_is_right.nd) (dgs_cons (dg_name 12 sc__law_is_right.nd) dgs_nil)))) (fun _ _ _ _ _ => dcs_nil) (fun _ _ _ _ _ => (de_dv (dv_call (ok__law_times T) (room.mono (by decide)) gd rfl T.f__law_times.g T.f__law_times.F.kp T.f__law_times.b (da_cons (de_tup (da_cons de_int (da_cons de_int da_nil)) (lenCons (lenCons lenNil))) (da_cons (de_dv (dv_call (ok__law_plus T) (room.mono (by decide)) gd rfl T.f__law_plus.g T.f__law_plus.F.kp T.f__law_plus.b (da_cons (de_var 11) (da_cons (de_var 12) da_nil)) (lenCons (lenCons lenNil)))) da_nil)) (lenCons (lenCons lenNil)))))))))))))
    (dss_cons (ds_set 9 sc__law_is_right.nd (dv_lst (da_cons (de_dv (dv_call (ok_world T) (room.mono (by decide)) gd rfl T.f_world.g T.f_world.F.kp T.f_world.b (da_cons (de_var 1) (da_cons (de_var 2) da_nil)) (lenCons (lenCons lenNil)))) (da_cons (de_dv (dv_call (ok_world T) (room.mono (by decide)) gd rfl T.f_world.g T.f_world.F.kp T.f_world.b (da_cons (de_var 1) (da_cons (de_var 5) da_nil)) (lenCons (lenCons lenNil)))) (da_cons (de_dv (dv_call (ok_world T) (room.mono (by decide)) gd rfl T.f_world.g T.f_world.F.kp T.f_world.b (da_cons (de_var 1) (da_cons (de_tuple rfl T.n_tuple (db_var 6)) da_nil)) (lenCons (lenCons lenNil)))) da_nil))) (lenCons (lenCons (lenCons lenNil)))))
    (dss_cons (ds_if (dt_not (dt_of (db_dv (dv_call (ok__law_is T) (room.mono (by decide)) gd rfl T.f__law_is.g T.f__law_is.F.kp T.f__law_is.b (da_cons (de_sl (de_var 9) do_none (do_some de_int)) (da_cons (de_dv (dv_lst (da_cons (de_dv (dv_call (ok__law_world T) (room.mono (by decide)) gd rfl T.f__law_world.g T.f__law_world.F.kp T.f__law_world.b (da_cons (de_var 1) (da_cons (de_var 2) da_nil)) (lenCons (lenCons lenNil)))) (da_cons (de_dv (dv_call (ok__law_world T) (room.mono (by decide)) gd rfl T.f__law_world.g T.f__law_world.F.kp T.f__law_world.b (da_cons (de_var 1) (da_cons (de_var 5) da_nil)) (lenCons (lenCons lenNil)))) da_nil)) (lenCons (lenCons lenNil)))) da_nil)) (lenCons (lenCons lenNil)))))) (dss_one (ds_ret (dv_de de_bl))) dss_nil)
    (dss_cons (ds_set 10 sc__law_is_right.nd (dv_de (de_tuple rfl T.n_tuple (db_dv (dv_lc [("one", 7), ("two", 8)] rfl sc__law_is_right.nd (di_zipU rfl T.n_zip (da_cons (de_ixV 9 de_int) (da_cons (de_ixV 9 de_int) da_nil))) rfl (fun _ _ _ _ _ => (dg_tup 2 rfl (dgs_cons (dg_name 7 sc__law_is_right.nd) (dgs_cons (dg_name 8 sc__law_is_right.nd) dgs_nil)))) (fun _ _ _ _ _ => dcs_nil) (fun _ _ _ _ _ => (de_dv (dv_call (ok__law_times T) (room.mono (by decide)) gd rfl T.f__law_times.g T.f__law_times.F.kp T.f__law_times.b (da_cons (de_tup (da_cons de_int (da_cons de_int da_nil)) (lenCons (lenCons lenNil))) (da_cons (de_dv (dv_call (ok__law_plus T) (room.mono (by decide)) gd rfl T.f__law_plus.g T.f__law_plus.F.kp T.f__law_plus.b (da_cons (de_var 7) (da_cons (de_var 8) da_nil)) (lenCons (lenCons lenNil)))) da_nil)) (lenCons (lenCons lenNil))))))))))
    (dss_one (ds_ret (dv_de (de_and (de_dv (dv_call (ok__law_is T) (room.mono (by decide)) gd rfl T.f__law_is.g T.f__law_is.F.kp T.f__law_is.b (da_cons (de_ixV 9 de_int) (da_cons (de_var 10) da_nil)) (lenCons (lenCons lenNil)))) (de_one (de_isBl (de_dv (dv_call (ok_is_sharing T) (room.mono (by decide)) gd rfl T.f_is_sharing.g T.f_is_sharing.F.kp T.f_is_sharing.b (da_cons (de_var 1) (da_cons (de_tuple rfl T.n_tuple (db_var 6)) da_nil)) (lenCons (lenCons lenNil)))) de_bl))))))))))))))
theorem ok__law_is_known_right (T : Txt K mg) : FnG P w K mg base 9 T.f__law_is_known_right.f T.f__law_is_known_right.fd [] (spP K 0 m__law_is_known_right) := by
  refine fnP_ok (b := b__law_is_known_right) (N := ["lands", "rows", "flags"]) (n := 0) T.f__law_is_known_right.F sc__law_is_known_right rfl ?_
  intro cd A outer st H room gd
  unfold b__law_is_known_right
  exact (dss_cons (ds_set 0 sc__law_is_known_right.nd (dv_de (de_tup (da_cons (de_tup (da_cons (de_tup (da_cons de_int (da_cons de_int da_nil)) (lenCons (lenCons lenNil))) (da_cons (de_tup (da_cons (de_tup (da_cons de_int (da_cons de_int da_nil)) (lenCons (lenCons lenNil))) (da_cons (de_tup (da_cons de_int (da_cons de_int da_nil)) (lenCons (lenCons lenNil))) da_nil)) (lenCons (lenCons lenNil))) da_nil)) (lenCons (lenCons lenNil))) (da_cons (de_tup (da_cons (de_tup (da_cons de_int (da_cons de_int da_nil)) (lenCons (lenCons lenNil))) (da_cons (de_tup (da_cons (de_tup (da_cons de_int (da_cons de_int da_nil)) (lenCons (lenCons lenNil))) (da_cons de_non da_nil)) (lenCons (lenCons lenNil))) da_nil)) (lenCons (lenCons lenNil))) da_nil)) (lenCons (lenCons lenNil)))))
    (dss_cons (ds_set 1 sc__law_is_known_right.nd (dv_lst (da_cons (de_tup (da_cons (de_tup (da_cons (de_tup (da_cons de_int (da_cons de_int da_nil)) (lenCons (lenCons lenNil))) (da_cons (de_tup (da_cons de_int (da_cons de_int da_nil)) (lenCons (lenCons lenNil))) da_nil)) (lenCons (lenCons lenNil))) (da_cons (de_tup (da_cons (de_tup (da_cons de_int (da_cons de_int da_nil)) (lenCons (lenCons lenNil))) (da_cons (de_tup (da_cons de_int (da_cons de_int da_nil)) (lenCons (lenCons lenNil))) da_nil)) (lenCons (lenCons lenNil))) da_nil)) (lenCons (lenCons lenNil))) (da_cons (de_tup (da_cons (de_tup (da_cons (de_tup (da_cons de_int (da_cons de_int da_nil)) (lenCons (lenCons lenNil))) (da_cons (de_tup (da_cons de_int (da_cons de_int da_nil)) (lenCons (lenCons lenNil))) da_nil)) (lenCons (lenCons lenNil))) (da_cons (de_tup (da_cons (de_tup (da_cons de_int (da_cons de_int da_nil)) (lenCons (lenCons lenNil))) (da_cons (de_tup (da_cons de_int (da_cons de_int da_nil)) (lenCons (lenCons lenNil))) da_nil)) (lenCons (lenCons lenNil))) da_nil)) (lenCons (lenCons lenNil))) da_nil)) (lenCons (lenCons lenNil))))
    (dss_cons (ds_set 2 sc__law_is_known_right.nd (dv_lst (da_cons (de_dv (dv_call (ok_is_lands T) (room.mono (by decide)) gd rfl T.f_is_lands.g T.f_is_lands.F.kp T.f_is_lands.b (da_cons (de_var 0) da_nil) (lenCons lenNil))) (da_cons (de_dv (dv_call (ok_is_sharing T) (room.mono (by decide)) gd rfl T.f_is_sharing.g T.f_is_sharing.F.kp T.f_is_sharing.b (da_cons (de_var 0) (da_cons (de_ixV 1 de_int) da_nil)) (lenCons (lenCons lenNil)))) (da_cons (de_dv (dv_call (ok_is_sharing T) (room.mono (by decide)) gd rfl T.f_is_sharing.g T.f_is_sharing.F.kp T.f_is_sharing.b (da_cons (de_var 0) (da_cons (de_ixV 1 de_int) da_nil)) (lenCons (lenCons lenNil)))) (da_cons (de_dv (dv_call (ok_is_lands T) (room.mono (by decide)) gd rfl T.f_is_lands.g T.f_is_lands.F.kp T.f_is_lands.b (da_cons (de_sl (de_var 0) (do_some de_int) do_none) da_nil) (lenCons lenNil))) da_nil)))) (lenCons (lenCons (lenCons (lenCons lenNil))))))
    (dss_one (ds_ret (dv_call (ok__law_is T) (room.mono (by decide)) gd rfl T.f__law_is.g T.f__law_is.F.kp T.f__law_is.b (da_cons (de_dv (dv_lst (da_cons (de_var 2) (da_cons (de_dv (dv_call (ok_world T) (room.mono (by decide)) gd rfl T.f_world.g T.f_world.F.kp T.f_world.b (da_cons (de_var 0) (da_cons (de_ixV 1 de_int) da_nil)) (lenCons (lenCons lenNil)))) da_nil)) (lenCons (lenCons lenNil)))) (da_cons (de_dv (dv_lst (da_cons (de_dv (dv_lst (da_cons de_bl (da_cons de_bl (da_cons de_bl (da_cons de_bl da_nil)))) (lenCons (lenCons (lenCons (lenCons lenNil)))))) (da_cons (de_tup (da_cons (de_tup (da_cons de_int (da_cons de_int da_nil)) (lenCons (lenCons lenNil))) (da_cons (de_tup (da_cons de_int (da_cons de_int da_nil)) (lenCons (lenCons lenNil))) da_nil)) (lenCons (lenCons lenNil))) da_nil)) (lenCons (lenCons lenNil)))) da_nil)) (lenCons (lenCons lenNil))))))))
theorem ok_law (T : Txt K mg) : FnG P w K mg base 10 T.f_law.f T.f_law.fd ["script"] (spP K 1 m_law) := by
  refine fnP_ok (b := b_law) (N := ["script", "hand", "turn", "lands", "sharing"]) (n := 1) T.f_law.F sc_law rfl ?_
  intro cd A outer st H room gd
  unfold b_law
  exact (dss_cons (ds_set 1 sc_law.nd (dv_call (ok__law_hand T) (room.mono (by decide)) gd rfl T.f__law_hand.g T.f__law_hand.F.kp T.f__law_hand.b (da_cons (de_var 0) da_nil) (lenCons lenNil)))
    (dss_cons (ds_if (dt_not (dt_of (db_dv (dv_call0 (ok__law_is_known_right T) (room.mono (by decide)) gd rfl T.f__law_is_known_right.g T.f__law_is_known_right.F.kp T.f__law_is_known_right.b)))) (dss_one (ds_ret (dv_de de_bl))) dss_nil)
    (dss_cons (ds_for PassesOwn.never rfl (di_range1 rfl T.n_range (da_cons de_int da_nil)) (dg_name 2 sc_law.nd) (dss_cons (ds_set 3 sc_law.nd (dv_callI 1 (ok__law_drawn_lands T) (room.mono (by decide)) gd rfl T.f__law_drawn_lands.g T.f__law_drawn_lands.F.kp T.f__law_drawn_lands.b (da_cons (de_addA de_int (de_dv (dv_callI 1 (ok__law_draw T) (room.mono (by decide)) gd rfl T.f__law_draw.g T.f__law_draw.F.kp T.f__law_draw.b (da_cons de_int da_nil) (lenCons lenNil)))) (da_cons (de_addA de_int (de_dv (dv_callI 1 (ok__law_draw T) (room.mono (by decide)) gd rfl T.f__law_draw.g T.f__law_draw.F.kp T.f__law_draw.b (da_cons de_int da_nil) (lenCons lenNil)))) da_nil)) (lenCons (lenCons lenNil))))
    (dss_cons (ds_set 4 sc_law.nd (dv_callI 1 (ok__law_drawn_sharing T) (room.mono (by decide)) gd rfl T.f__law_drawn_sharing.g T.f__law_drawn_sharing.F.kp T.f__law_drawn_sharing.b (da_cons (de_var 3) (da_cons (de_eq (hu64 room) (de_dv (dv_callI 1 (ok__law_draw T) (room.mono (by decide)) gd rfl T.f__law_draw.g T.f__law_draw.F.kp T.f__law_draw.b (da_cons de_int da_nil) (lenCons lenNil))) de_int) da_nil)) (lenCons (lenCons lenNil))))
    (dss_one (ds_if (dt_not (dt_of (db_dv (dv_callI 1 (ok__law_is_right T) (room.mono (by decide)) gd rfl T.f__law_is_right.g T.f__law_is_right.F.kp T.f__law_is_right.b (da_cons (de_var 3) (da_cons (de_var 4) da_nil)) (lenCons (lenCons lenNil)))))) (dss_one (ds_ret (dv_de de_bl))) dss_nil)))))
    (dss_one (ds_ret (dv_de de_bl))))))
end
end K64
set_option Elab.async false
set_option linter.all false
set_option maxRecDepth 100000
set_option maxHeartbeats 0
namespace K64
open PySem PySem.Spec PyProof.Rows L2 Dl
def dd_is_integer : He.DefD := ⟨("is_integer", none), "is_integer", "is_integer", defArgs s_is_integer, defBody s_is_integer, defScope s_is_integer, [], []⟩
def dd_is_sized : He.DefD := ⟨("is_sized", none), "is_sized", "is_sized", defArgs s_is_sized, defBody s_is_sized, defScope s_is_sized, [], []⟩
def dd_common : He.DefD := ⟨("common", none), "common", "common", defArgs s_common, defBody s_common, defScope s_common, [], []⟩
def dd_is_less : He.DefD := ⟨("is_less", none), "is_less", "is_less", defArgs s_is_less, defBody s_is_less, defScope s_is_less, [], []⟩
def dd_goods_of : He.DefD := ⟨("goods_of", none), "goods_of", "goods_of", defArgs s_goods_of, defBody s_goods_of, defScope s_goods_of, [], []⟩
def dd__law_draw : He.DefD := ⟨("_law_draw", none), "_law_draw", "_law_draw", defArgs s__law_draw, defBody s__law_draw, defScope s__law_draw, [], []⟩
def dd__law_hand : He.DefD := ⟨("_law_hand", none), "_law_hand", "_law_hand", defArgs s__law_hand, defBody s__law_hand, defScope s__law_hand, [], []⟩
def dd__law_low : He.DefD := ⟨("_law_low", none), "_law_low", "_law_low", defArgs s__law_low, defBody s__law_low, defScope s__law_low, [], []⟩
def dd__law_less : He.DefD := ⟨("_law_less", none), "_law_less", "_law_less", defArgs s__law_less, defBody s__law_less, defScope s__law_less, [], []⟩
def dd__law_odd_fractions : He.DefD := ⟨("_law_odd_fractions", none), "_law_odd_fractions", "_law_odd_fractions", defArgs s__law_odd_fractions, defBody s__law_odd_fractions, defScope s__law_odd_fractions, [], []⟩
def dd_share : He.DefD := ⟨("share", none), "share", "share", defArgs s_share, defBody s_share, defScope s_share, [], []⟩
def dd_is_share : He.DefD := ⟨("is_share", none), "is_share", "is_share", defArgs s_is_share, defBody s_is_share, defScope s_is_share, [], []⟩
def dd__law_some : He.DefD := ⟨("_law_some", none), "_law_some", "_law_some", defArgs s__law_some, defBody s__law_some, defScope s__law_some, [], []⟩
def dd__law_plus : He.DefD := ⟨("_law_plus", none), "_law_plus", "_law_plus", defArgs s__law_plus, defBody s__law_plus, defScope s__law_plus, [], []⟩
def dd__law_times : He.DefD := ⟨("_law_times", none), "_law_times", "_law_times", defArgs s__law_times, defBody s__law_times, defScope s__law_times, [], []⟩
def dd__law_over : He.DefD := ⟨("_law_over", none), "_law_over", "_law_over", defArgs s__law_over, defBody s__law_over, defScope s__law_over, [], []⟩
def dd__law_is_fraction : He.DefD := ⟨("_law_is_fraction", none), "_law_is_fraction", "_law_is_fraction", defArgs s__law_is_fraction, defBody s__law_is_fraction, defScope s__law_is_fraction, [], []⟩
def dd_plus : He.DefD := ⟨("plus", none), "plus", "plus", defArgs s_plus, defBody s_plus, defScope s_plus, [], []⟩
def dd_times : He.DefD := ⟨("times", none), "times", "times", defArgs s_times, defBody s_times, defScope s_times, [], []⟩
def dd_is_amount : He.DefD := ⟨("is_amount", none), "is_amount", "is_amount", defArgs s_is_amount, defBody s_is_amount, defScope s_is_amount, [], []⟩
def dd_is_positive : He.DefD := ⟨("is_positive", none), "is_positive", "is_positive", defArgs s_is_positive, defBody s_is_positive, defScope s_is_positive, [], []⟩
def dd__law_sum : He.DefD := ⟨("_law_sum", none), "_law_sum", "_law_sum", defArgs s__law_sum, defBody s__law_sum, defScope s__law_sum, [], []⟩
def dd__law_fraction : He.DefD := ⟨("_law_fraction", none), "_law_fraction", "_law_fraction", defArgs s__law_fraction, defBody s__law_fraction, defScope s__law_fraction, [], []⟩
def dd__law_drawn_sharing : He.DefD := ⟨("_law_drawn_sharing", none), "_law_drawn_sharing", "_law_drawn_sharing", defArgs s__law_drawn_sharing, defBody s__law_drawn_sharing, defScope s__law_drawn_sharing, [], []⟩
def dd__law_is_lands : He.DefD := ⟨("_law_is_lands", none), "_law_is_lands", "_law_is_lands", defArgs s__law_is_lands, defBody s__law_is_lands, defScope s__law_is_lands, [], []⟩
def dd__law_deep : He.DefD := ⟨("_law_deep", none), "_law_deep", "_law_deep", defArgs s__law_deep, defBody s__law_deep, defScope s__law_deep, [], []⟩
def dd_summed : He.DefD := ⟨("summed", none), "summed", "summed", defArgs s_summed, defBody s_summed, defScope s_summed, [], []⟩
def dd_are_amounts : He.DefD := ⟨("are_amounts", none), "are_amounts", "are_amounts", defArgs s_are_amounts, defBody s_are_amounts, defScope s_are_amounts, [], []⟩
def dd_is_land : He.DefD := ⟨("is_land", none), "is_land", "is_land", defArgs s_is_land, defBody s_is_land, defScope s_is_land, [], []⟩
def dd_asked : He.DefD := ⟨("asked", none), "asked", "asked", defArgs s_asked, defBody s_asked, defScope s_asked, [], []⟩
def dd__law_drawn_lands : He.DefD := ⟨("_law_drawn_lands", none), "_law_drawn_lands", "_law_drawn_lands", defArgs s__law_drawn_lands, defBody s__law_drawn_lands, defScope s__law_drawn_lands, [], []⟩
def dd__law_at_work : He.DefD := ⟨("_law_at_work", none), "_law_at_work", "_law_at_work", defArgs s__law_at_work, defBody s__law_at_work, defScope s__law_at_work, [], []⟩
def dd__law_world : He.DefD := ⟨("_law_world", none), "_law_world", "_law_world", defArgs s__law_world, defBody s__law_world, defScope s__law_world, [], []⟩
def dd__law_lands_near : He.DefD := ⟨("_law_lands_near", none), "_law_lands_near", "_law_lands_near", defArgs s__law_lands_near, defBody s__law_lands_near, defScope s__law_lands_near, [], []⟩
def dd_is_lands : He.DefD := ⟨("is_lands", none), "is_lands", "is_lands", defArgs s_is_lands, defBody s_is_lands, defScope s_is_lands, [], []⟩
def dd_is_part : He.DefD := ⟨("is_part", none), "is_part", "is_part", defArgs s_is_part, defBody s_is_part, defScope s_is_part, [], []⟩
def dd_raw_world : He.DefD := ⟨("raw_world", none), "raw_world", "raw_world", defArgs s_raw_world, defBody s_raw_world, defScope s_raw_world, [], []⟩
def dd__law_is_sharing : He.DefD := ⟨("_law_is_sharing", none), "_law_is_sharing", "_law_is_sharing", defArgs s__law_is_sharing, defBody s__law_is_sharing, defScope s__law_is_sharing, [], []⟩
def dd__law_sharings_near : He.DefD := ⟨("_law_sharings_near", none), "_law_sharings_near", "_law_sharings_near", defArgs s__law_sharings_near, defBody s__law_sharings_near, defScope s__law_sharings_near, [], []⟩
def dd_check_lands : He.DefD := ⟨("check_lands", none), "check_lands", "check_lands", defArgs s_check_lands, defBody s_check_lands, defScope s_check_lands, [], []⟩
def dd_is_sharing_of : He.DefD := ⟨("is_sharing_of", none), "is_sharing_of", "is_sharing_of", defArgs s_is_sharing_of, defBody s_is_sharing_of, defScope s_is_sharing_of, [], []⟩
def dd_is_sharing : He.DefD := ⟨("is_sharing", none), "is_sharing", "is_sharing", defArgs s_is_sharing, defBody s_is_sharing, defScope s_is_sharing, [], []⟩
def dd_check_sharing : He.DefD := ⟨("check_sharing", none), "check_sharing", "check_sharing", defArgs s_check_sharing, defBody s_check_sharing, defScope s_check_sharing, [], []⟩
def dd_world : He.DefD := ⟨("world", none), "world", "world", defArgs s_world, defBody s_world, defScope s_world, [], []⟩
def dd__law_is : He.DefD := ⟨("_law_is", none), "_law_is", "_law_is", defArgs s__law_is, defBody s__law_is, defScope s__law_is, [], []⟩
def dd__law_is_right : He.DefD := ⟨("_law_is_right", none), "_law_is_right", "_law_is_right", defArgs s__law_is_right, defBody s__law_is_right, defScope s__law_is_right, [], []⟩
def dd__law_is_known_right : He.DefD := ⟨("_law_is_known_right", none), "_law_is_known_right", "_law_is_known_right", defArgs s__law_is_known_right, defBody s__law_is_known_right, defScope s__law_is_known_right, [], []⟩
def dd_law : He.DefD := ⟨("law", none), "law", "law", defArgs s_law, defBody s_law, defScope s_law, [], []⟩
def hfn : List He.DefD := [dd_is_integer, dd_is_sized, dd_common, dd_is_less, dd_goods_of, dd__law_draw, dd__law_hand, dd__law_low, dd__law_less, dd__law_odd_fractions, dd_share, dd_is_share, dd__law_some, dd__law_plus, dd__law_times, dd__law_over, dd__law_is_fraction, dd_plus, dd_times, dd_is_amount, dd_is_positive, dd__law_sum, dd__law_fraction, dd__law_drawn_sharing, dd__law_is_lands, dd__law_deep, dd_summed, dd_are_amounts, dd_is_land, dd_asked, dd__law_drawn_lands, dd__law_at_work, dd__law_world, dd__law_lands_near, dd_is_lands, dd_is_part, dd_raw_world, dd__law_is_sharing, dd__law_sharings_near, dd_check_lands, dd_is_sharing_of, dd_is_sharing, dd_check_sharing, dd_world, dd__law_is, dd__law_is_right, dd__law_is_known_right, dd_law]
def hfa : List He.Fa := [.glo "is_integer", .glo "is_sized", .glo "common", .glo "is_less", .glo "goods_of", .glo "_law_draw", .glo "_law_hand", .glo "_law_low", .glo "_law_less", .glo "_law_odd_fractions", .glo "share", .glo "is_share", .glo "_law_some", .glo "_law_plus", .glo "_law_times", .glo "_law_over", .glo "_law_is_fraction", .glo "plus", .glo "times", .glo "is_amount", .glo "is_positive", .glo "_law_sum", .glo "_law_fraction", .glo "_law_drawn_sharing", .glo "_law_is_lands", .glo "_law_deep", .glo "summed", .glo "are_amounts", .glo "is_land", .glo "asked", .glo "_law_drawn_lands", .glo "_law_at_work", .glo "_law_world", .glo "_law_lands_near", .glo "is_lands", .glo "is_part", .glo "raw_world", .glo "_law_is_sharing", .glo "_law_sharings_near", .glo "check_lands", .glo "is_sharing_of", .glo "is_sharing", .glo "check_sharing", .glo "world", .glo "_law_is", .glo "_law_is_right", .glo "_law_is_known_right", .glo "law", .free "abs", .free "all", .free "any", .free "bool", .free "enumerate", .free "int", .free "isinstance", .free "len", .free "list", .free "range", .free "repr", .free "str", .free "sum", .free "tuple", .free "zip", .int "MOST_GOODS" 6, .int "MOST_LANDS" 6, .glo "ZERO"]
def hex (K : PySem.W.Frag) : Bool := He.tupB K "ZERO" [.int 0, .int 1]
theorem txt_of {w : World} {K : PySem.W.Frag} {h : Heap} {mg : Str → Option Value} (X : K.In h) (G : h.Ns mainGlobals mg) (c : He.SaysX hfa hfn [] [] hex w h K) : Nonempty (Txt K mg) := by
  have cd := c.t.d
  obtain ⟨d0, F0⟩ := cd.def_ 0 (d := dd_is_integer) rfl
  obtain ⟨d1, F1⟩ := cd.def_ 1 (d := dd_is_sized) rfl
  obtain ⟨d2, F2⟩ := cd.def_ 2 (d := dd_common) rfl
  obtain ⟨d3, F3⟩ := cd.def_ 3 (d := dd_is_less) rfl
  obtain ⟨d4, F4⟩ := cd.def_ 4 (d := dd_goods_of) rfl
  obtain ⟨d5, F5⟩ := cd.def_ 5 (d := dd__law_draw) rfl
  obtain ⟨d6, F6⟩ := cd.def_ 6 (d := dd__law_hand) rfl
  obtain ⟨d7, F7⟩ := cd.def_ 7 (d := dd__law_low) rfl
  obtain ⟨d8, F8⟩ := cd.def_ 8 (d := dd__law_less) rfl
  obtain ⟨d9, F9⟩ := cd.def_ 9 (d := dd__law_odd_fractions) rfl
  obtain ⟨d10, F10⟩ := cd.def_ 10 (d := dd_share) rfl
  obtain ⟨d11, F11⟩ := cd.def_ 11 (d := dd_is_share) rfl
  obtain ⟨d12, F12⟩ := cd.def_ 12 (d := dd__law_some) rfl
  obtain ⟨d13, F13⟩ := cd.def_ 13 (d := dd__law_plus) rfl
  obtain ⟨d14, F14⟩ := cd.def_ 14 (d := dd__law_times) rfl
  obtain ⟨d15, F15⟩ := cd.def_ 15 (d := dd__law_over) rfl
  obtain ⟨d16, F16⟩ := cd.def_ 16 (d := dd__law_is_fraction) rfl
  obtain ⟨d17, F17⟩ := cd.def_ 17 (d := dd_plus) rfl
  obtain ⟨d18, F18⟩ := cd.def_ 18 (d := dd_times) rfl
  obtain ⟨d19, F19⟩ := cd.def_ 19 (d := dd_is_amount) rfl
  obtain ⟨d20, F20⟩ := cd.def_ 20 (d := dd_is_positive) rfl
  obtain ⟨d21, F21⟩ := cd.def_ 21 (d := dd__law_sum) rfl
  obtain ⟨d22, F22⟩ := cd.def_ 22 (d := dd__law_fraction) rfl
  obtain ⟨d23, F23⟩ := cd.def_ 23 (d := dd__law_drawn_sharing) rfl
  obtain ⟨d24, F24⟩ := cd.def_ 24 (d := dd__law_is_lands) rfl
  obtain ⟨d25, F25⟩ := cd.def_ 25 (d := dd__law_deep) rfl
  obtain ⟨d26, F26⟩ := cd.def_ 26 (d := dd_summed) rfl
  obtain ⟨d27, F27⟩ := cd.def_ 27 (d := dd_are_amounts) rfl
  obtain ⟨d28, F28⟩ := cd.def_ 28 (d := dd_is_land) rfl
  obtain ⟨d29, F29⟩ := cd.def_ 29 (d := dd_asked) rfl
  obtain ⟨d30, F30⟩ := cd.def_ 30 (d := dd__law_drawn_lands) rfl
  obtain ⟨d31, F31⟩ := cd.def_ 31 (d := dd__law_at_work) rfl
  obtain ⟨d32, F32⟩ := cd.def_ 32 (d := dd__law_world) rfl
  obtain ⟨d33, F33⟩ := cd.def_ 33 (d := dd__law_lands_near) rfl
  obtain ⟨d34, F34⟩ := cd.def_ 34 (d := dd_is_lands) rfl
  obtain ⟨d35, F35⟩ := cd.def_ 35 (d := dd_is_part) rfl
  obtain ⟨d36, F36⟩ := cd.def_ 36 (d := dd_raw_world) rfl
  obtain ⟨d37, F37⟩ := cd.def_ 37 (d := dd__law_is_sharing) rfl
  obtain ⟨d38, F38⟩ := cd.def_ 38 (d := dd__law_sharings_near) rfl
  obtain ⟨d39, F39⟩ := cd.def_ 39 (d := dd_check_lands) rfl
  obtain ⟨d40, F40⟩ := cd.def_ 40 (d := dd_is_sharing_of) rfl
  obtain ⟨d41, F41⟩ := cd.def_ 41 (d := dd_is_sharing) rfl
  obtain ⟨d42, F42⟩ := cd.def_ 42 (d := dd_check_sharing) rfl
  obtain ⟨d43, F43⟩ := cd.def_ 43 (d := dd_world) rfl
  obtain ⟨d44, F44⟩ := cd.def_ 44 (d := dd__law_is) rfl
  obtain ⟨d45, F45⟩ := cd.def_ 45 (d := dd__law_is_right) rfl
  obtain ⟨d46, F46⟩ := cd.def_ 46 (d := dd__law_is_known_right) rfl
  obtain ⟨d47, F47⟩ := cd.def_ 47 (d := dd_law) rfl
  obtain ⟨t0, e0⟩ := He.int_ok X G (cd.fact 63 (f := .int "MOST_GOODS" 6) rfl)
  obtain ⟨t1, e1⟩ := He.int_ok X G (cd.fact 64 (f := .int "MOST_LANDS" 6) rfl)
  have ex : hex K = true := c.more
  unfold hex at ex
  exact ⟨{
    f_is_integer := Dk.mk' ⟨d0, F0⟩ (He.glo_ok X G (cd.fact 0 (f := .glo "is_integer") rfl)) fun _ _ _ _ _ _ us hl => match us, hl with | [_], _ => rfl
    f_is_sized := Dk.mk' ⟨d1, F1⟩ (He.glo_ok X G (cd.fact 1 (f := .glo "is_sized") rfl)) fun _ _ _ _ _ _ us hl => match us, hl with | [_, _, _], _ => rfl
    f_common := Dk.mk' ⟨d2, F2⟩ (He.glo_ok X G (cd.fact 2 (f := .glo "common") rfl)) fun _ _ _ _ _ _ us hl => match us, hl with | [_, _], _ => rfl
    f_is_less := Dk.mk' ⟨d3, F3⟩ (He.glo_ok X G (cd.fact 3 (f := .glo "is_less") rfl)) fun _ _ _ _ _ _ us hl => match us, hl with | [_, _], _ => rfl
    f_goods_of := Dk.mk' ⟨d4, F4⟩ (He.glo_ok X G (cd.fact 4 (f := .glo "goods_of") rfl)) fun _ _ _ _ _ _ us hl => match us, hl with | [_], _ => rfl
    f__law_draw := Dk.mk' ⟨d5, F5⟩ (He.glo_ok X G (cd.fact 5 (f := .glo "_law_draw") rfl)) fun _ _ _ _ _ _ us hl => match us, hl with | [_, _], _ => rfl
    f__law_hand := Dk.mk' ⟨d6, F6⟩ (He.glo_ok X G (cd.fact 6 (f := .glo "_law_hand") rfl)) fun _ _ _ _ _ _ us hl => match us, hl with | [_], _ => rfl
    f__law_low := Dk.mk' ⟨d7, F7⟩ (He.glo_ok X G (cd.fact 7 (f := .glo "_law_low") rfl)) fun _ _ _ _ _ _ us hl => match us, hl with | [_, _], _ => rfl
    f__law_less := Dk.mk' ⟨d8, F8⟩ (He.glo_ok X G (cd.fact 8 (f := .glo "_law_less") rfl)) fun _ _ _ _ _ _ us hl => match us, hl with | [_, _], _ => rfl
    f__law_odd_fractions := Dk.mk' ⟨d9, F9⟩ (He.glo_ok X G (cd.fact 9 (f := .glo "_law_odd_fractions") rfl)) fun _ _ _ _ _ _ us hl => match us, hl with | [_], _ => rfl
    f_share := Dk.mk' ⟨d10, F10⟩ (He.glo_ok X G (cd.fact 10 (f := .glo "share") rfl)) fun _ _ _ _ _ _ us hl => match us, hl with | [_, _], _ => rfl
    f_is_share := Dk.mk' ⟨d11, F11⟩ (He.glo_ok X G (cd.fact 11 (f := .glo "is_share") rfl)) fun _ _ _ _ _ _ us hl => match us, hl with | [_], _ => rfl
    f__law_some := Dk.mk' ⟨d12, F12⟩ (He.glo_ok X G (cd.fact 12 (f := .glo "_law_some") rfl)) fun _ _ _ _ _ _ us hl => match us, hl with | [_, _], _ => rfl
    f__law_plus := Dk.mk' ⟨d13, F13⟩ (He.glo_ok X G (cd.fact 13 (f := .glo "_law_plus") rfl)) fun _ _ _ _ _ _ us hl => match us, hl with | [_, _], _ => rfl
    f__law_times := Dk.mk' ⟨d14, F14⟩ (He.glo_ok X G (cd.fact 14 (f := .glo "_law_times") rfl)) fun _ _ _ _ _ _ us hl => match us, hl with | [_, _], _ => rfl
    f__law_over := Dk.mk' ⟨d15, F15⟩ (He.glo_ok X G (cd.fact 15 (f := .glo "_law_over") rfl)) fun _ _ _ _ _ _ us hl => match us, hl with | [_, _], _ => rfl
    f__law_is_fraction := Dk.mk' ⟨d16, F16⟩ (He.glo_ok X G (cd.fact 16 (f := .glo "_law_is_fraction") rfl)) fun _ _ _ _ _ _ us hl => match us, hl with | [_, _], _ => rfl
    f_plus := Dk.mk' ⟨d17, F17⟩ (He.glo_ok X G (cd.fact 17 (f := .glo "plus") rfl)) fun _ _ _ _ _ _ us hl => match us, hl with | [_, _], _ => rfl
    f_times := Dk.mk' ⟨d18, F18⟩ (He.glo_ok X G (cd.fact 18 (f := .glo "times") rfl)) fun _ _ _ _ _ _ us hl => match us, hl with | [_, _], _ => rfl
    f_is_amount := Dk.mk' ⟨d19, F19⟩ (He.glo_ok X G (cd.fact 19 (f := .glo "is_amount") rfl)) fun _ _ _ _ _ _ us hl => match us, hl with | [_], _ => rfl
    f_is_positive := Dk.mk' ⟨d20, F20⟩ (He.glo_ok X G (cd.fact 20 (f := .glo "is_positive") rfl)) fun _ _ _ _ _ _ us hl => match us, hl with | [_], _ => rfl
    f__law_sum := Dk.mk' ⟨d21, F21⟩ (He.glo_ok X G (cd.fact 21 (f := .glo "_law_sum") rfl)) fun _ _ _ _ _ _ us hl => match us, hl with | [_], _ => rfl
    f__law_fraction := Dk.mk' ⟨d22, F22⟩ (He.glo_ok X G (cd.fact 22 (f := .glo "_law_fraction") rfl)) fun _ _ _ _ _ _ us hl => match us, hl with | [_, _], _ => rfl
    f__law_drawn_sharing := Dk.mk' ⟨d23, F23⟩ (He.glo_ok X G (cd.fact 23 (f := .glo "_law_drawn_sharing") rfl)) fun _ _ _ _ _ _ us hl => match us, hl with | [_, _, _], _ => rfl
    f__law_is_lands := Dk.mk' ⟨d24, F24⟩ (He.glo_ok X G (cd.fact 24 (f := .glo "_law_is_lands") rfl)) fun _ _ _ _ _ _ us hl => match us, hl with | [_], _ => rfl
    f__law_deep := Dk.mk' ⟨d25, F25⟩ (He.glo_ok X G (cd.fact 25 (f := .glo "_law_deep") rfl)) fun _ _ _ _ _ _ us hl => match us, hl with | [_], _ => rfl
    f_summed := Dk.mk' ⟨d26, F26⟩ (He.glo_ok X G (cd.fact 26 (f := .glo "summed") rfl)) fun _ _ _ _ _ _ us hl => match us, hl with | [_], _ => rfl
    f_are_amounts := Dk.mk' ⟨d27, F27⟩ (He.glo_ok X G (cd.fact 27 (f := .glo "are_amounts") rfl)) fun _ _ _ _ _ _ us hl => match us, hl with | [_, _], _ => rfl
    f_is_land := Dk.mk' ⟨d28, F28⟩ (He.glo_ok X G (cd.fact 28 (f := .glo "is_land") rfl)) fun _ _ _ _ _ _ us hl => match us, hl with | [_], _ => rfl
    f_asked := Dk.mk' ⟨d29, F29⟩ (He.glo_ok X G (cd.fact 29 (f := .glo "asked") rfl)) fun _ _ _ _ _ _ us hl => match us, hl with | [_, _], _ => rfl
    f__law_drawn_lands := Dk.mk' ⟨d30, F30⟩ (He.glo_ok X G (cd.fact 30 (f := .glo "_law_drawn_lands") rfl)) fun _ _ _ _ _ _ us hl => match us, hl with | [_, _, _], _ => rfl
    f__law_at_work := Dk.mk' ⟨d31, F31⟩ (He.glo_ok X G (cd.fact 31 (f := .glo "_law_at_work") rfl)) fun _ _ _ _ _ _ us hl => match us, hl with | [_, _], _ => rfl
    f__law_world := Dk.mk' ⟨d32, F32⟩ (He.glo_ok X G (cd.fact 32 (f := .glo "_law_world") rfl)) fun _ _ _ _ _ _ us hl => match us, hl with | [_, _], _ => rfl
    f__law_lands_near := Dk.mk' ⟨d33, F33⟩ (He.glo_ok X G (cd.fact 33 (f := .glo "_law_lands_near") rfl)) fun _ _ _ _ _ _ us hl => match us, hl with | [_, _], _ => rfl
    f_is_lands := Dk.mk' ⟨d34, F34⟩ (He.glo_ok X G (cd.fact 34 (f := .glo "is_lands") rfl)) fun _ _ _ _ _ _ us hl => match us, hl with | [_], _ => rfl
    f_is_part := Dk.mk' ⟨d35, F35⟩ (He.glo_ok X G (cd.fact 35 (f := .glo "is_part") rfl)) fun _ _ _ _ _ _ us hl => match us, hl with | [_, _, _], _ => rfl
    f_raw_world := Dk.mk' ⟨d36, F36⟩ (He.glo_ok X G (cd.fact 36 (f := .glo "raw_world") rfl)) fun _ _ _ _ _ _ us hl => match us, hl with | [_, _], _ => rfl
    f__law_is_sharing := Dk.mk' ⟨d37, F37⟩ (He.glo_ok X G (cd.fact 37 (f := .glo "_law_is_sharing") rfl)) fun _ _ _ _ _ _ us hl => match us, hl with | [_, _], _ => rfl
    f__law_sharings_near := Dk.mk' ⟨d38, F38⟩ (He.glo_ok X G (cd.fact 38 (f := .glo "_law_sharings_near") rfl)) fun _ _ _ _ _ _ us hl => match us, hl with | [_, _, _], _ => rfl
    f_check_lands := Dk.mk' ⟨d39, F39⟩ (He.glo_ok X G (cd.fact 39 (f := .glo "check_lands") rfl)) fun _ _ _ _ _ _ us hl => match us, hl with | [_], _ => rfl
    f_is_sharing_of := Dk.mk' ⟨d40, F40⟩ (He.glo_ok X G (cd.fact 40 (f := .glo "is_sharing_of") rfl)) fun _ _ _ _ _ _ us hl => match us, hl with | [_, _], _ => rfl
    f_is_sharing := Dk.mk' ⟨d41, F41⟩ (He.glo_ok X G (cd.fact 41 (f := .glo "is_sharing") rfl)) fun _ _ _ _ _ _ us hl => match us, hl with | [_, _], _ => rfl
    f_check_sharing := Dk.mk' ⟨d42, F42⟩ (He.glo_ok X G (cd.fact 42 (f := .glo "check_sharing") rfl)) fun _ _ _ _ _ _ us hl => match us, hl with | [_, _], _ => rfl
    f_world := Dk.mk' ⟨d43, F43⟩ (He.glo_ok X G (cd.fact 43 (f := .glo "world") rfl)) fun _ _ _ _ _ _ us hl => match us, hl with | [_, _], _ => rfl
    f__law_is := Dk.mk' ⟨d44, F44⟩ (He.glo_ok X G (cd.fact 44 (f := .glo "_law_is") rfl)) fun _ _ _ _ _ _ us hl => match us, hl with | [_, _], _ => rfl
    f__law_is_right := Dk.mk' ⟨d45, F45⟩ (He.glo_ok X G (cd.fact 45 (f := .glo "_law_is_right") rfl)) fun _ _ _ _ _ _ us hl => match us, hl with | [_, _, _], _ => rfl
    f__law_is_known_right := Dk.mk' ⟨d46, F46⟩ (He.glo_ok X G (cd.fact 46 (f := .glo "_law_is_known_right") rfl)) fun _ _ _ _ _ _ us hl => match us, hl with | [], _ => rfl
    f_law := Dk.mk' ⟨d47, F47⟩ (He.glo_ok X G (cd.fact 47 (f := .glo "law") rfl)) fun _ _ _ _ _ _ us hl => match us, hl with | [_], _ => rfl
    n_abs := He.free_ok X G (cd.fact 48 (f := .free "abs") rfl)
    n_all := He.free_ok X G (cd.fact 49 (f := .free "all") rfl)
    n_any := He.free_ok X G (cd.fact 50 (f := .free "any") rfl)
    n_bool := He.free_ok X G (cd.fact 51 (f := .free "bool") rfl)
    n_enumerate := He.free_ok X G (cd.fact 52 (f := .free "enumerate") rfl)
    n_int := He.free_ok X G (cd.fact 53 (f := .free "int") rfl)
    n_isinstance := He.free_ok X G (cd.fact 54 (f := .free "isinstance") rfl)
    n_len := He.free_ok X G (cd.fact 55 (f := .free "len") rfl)
    n_list := He.free_ok X G (cd.fact 56 (f := .free "list") rfl)
    n_range := He.free_ok X G (cd.fact 57 (f := .free "range") rfl)
    n_repr := He.free_ok X G (cd.fact 58 (f := .free "repr") rfl)
    n_str := He.free_ok X G (cd.fact 59 (f := .free "str") rfl)
    n_sum := He.free_ok X G (cd.fact 60 (f := .free "sum") rfl)
    n_tuple := He.free_ok X G (cd.fact 61 (f := .free "tuple") rfl)
    n_zip := He.free_ok X G (cd.fact 62 (f := .free "zip") rfl)
    u_MOST_GOODS := .int 6 t0
    v_MOST_GOODS := .int 6
    c_MOST_GOODS := ⟨e0, ⟨_, rfl⟩, fun _ => .int _⟩
    u_MOST_LANDS := .int 6 t1
    v_MOST_LANDS := .int 6
    c_MOST_LANDS := ⟨e1, ⟨_, rfl⟩, fun _ => .int _⟩
    u_ZERO := .ref (He.ga K "ZERO")
    v_ZERO := .ref (He.ga K "ZERO")
    c_ZERO := ⟨He.glo_ok X G (cd.fact 65 (f := .glo "ZERO") rfl), rfl, fun F => .tup (He.tupB_ok ex F) (.cons (.int _) (.cons (.int _) .nil))⟩
  }⟩
def hl0 : List PySem.Str := ["GoodsError", "NoLands", "NoSharing", "ZERO", "is_integer", "is_sized", "common", "share", "is_share", "plus", "times", "is_less", "summed", "MOST_GOODS", "is_amount", "are_amounts", "MOST_LANDS", "is_positive", "is_land", "is_lands", "check_lands", "goods_of", "asked", "is_part", "is_sharing_of", "is_sharing", "check_sharing", "raw_world", "world", "_law_draw"]
def hl1 : List PySem.Str := ["_law_some", "_law_is", "_law_hand", "_law_low", "_law_plus", "_law_times", "_law_over", "_law_less", "_law_sum", "_law_fraction", "_law_drawn_lands", "_law_drawn_sharing", "_law_is_fraction", "_law_is_lands", "_law_at_work", "_law_is_sharing", "_law_world", "_law_deep", "_law_odd_fractions", "_law_lands_near", "_law_sharings_near", "_law_is_right", "_law_is_known_right"]
def hloose : List PySem.Str := hl0 ++ hl1
abbrev hR : PySem.W.OpenRow := PySem.W.OpenLaw.row PySem.Challenge.rw_makeprice_k64_lands_and_sharings_judged
abbrev hk : PySem.W.Hook := He.hookX 4 hfa hfn [] [] hex
def hob (s : PySem.W.SharedT) : He.AlX := He.obsX 4 hfa hfn [] [] hex (HandSHeadRun.getT s)
theorem hob_eq (s : PySem.W.SharedT) : hob s = hk.obs s.abs := He.obsX_eq (HandSHeadRun.getT_eq s)
theorem hrun (w : World) : HandSHeadRun.RunEq hR (PySem.W.view hR.prog [58]) hk hob 4000 hloose w := by
  intro os
  kernel_rfl
end K64
set_option Elab.async false
set_option linter.all false
open PySem PySem.W PySem.Calls PyProof.Rows
set_option maxHeartbeats 0 in
theorem PySem.Challenge.cw_makeprice_k64_lands_and_sharings_judged_holds : PySem.Challenge.rw_makeprice_k64_lands_and_sharings_judged.Holds := by
  w_on; o_law
  refine HandSHeadRun.head_any (r := OpenLaw.row PySem.Challenge.rw_makeprice_k64_lands_and_sharings_judged) (q := view (OpenLaw.row PySem.Challenge.rw_makeprice_k64_lands_and_sharings_judged).prog [58]) (H := K64.hk) (ob := K64.hob) (M := 4000) (loose := K64.hloose) (d := HandSHeadRun.topDef (OpenLaw.row PySem.Challenge.rw_makeprice_k64_lands_and_sharings_judged).prog 58) (kwd := []) K64.hob_eq
    (by kernel_rfl) (fun s => by kernel_rfl) K64.hrun (by kernel_rfl) (by kernel_rfl) (by kernel_rfl) (by rfl) (by first | assumption | decide +kernel) (by decide +kernel) ⟨rfl, rfl, rfl, rfl, rfl, by decide +kernel⟩ ?hw ?hc
  case hw => w_witness2
  case hc =>
    refine Dl.walkK (l := PySem.Challenge.rw_makeprice_k64_lands_and_sharings_judged) (n := 63) (k := 10) (x := "script") (m := K64.m_law) rfl (by decide) (by kernel_rfl) ⟨rfl, by decide, by decide⟩ ?G K64.law_good
    intro w mg fa h Y G hmg0
    obtain ⟨K, KX, c⟩ := Y
    have hmg : mg ("law" : PySem.Str) = some (.ref fa) := by
      have e : (HandSHeadRun.topDef (OpenLaw.row PySem.Challenge.rw_makeprice_k64_lands_and_sharings_judged).prog 58).name = ("law" : PySem.Str) := by kernel_rfl
      rw [← e]
      exact hmg0
    obtain ⟨T⟩ := K64.txt_of KX G c
    have e := hmg.symm.trans T.f_law.g
    cases e
    exact ⟨K, T.f_law.fd, KX, fun s u => T.f_law.bA s [u] rfl, fun base _ _ => K64.ok_law T⟩
