import PyProof.Rows.All
import Wide.All
import OpenK.AllK
import Wide.FinOn
import HandS.ForMost
import HandS.Wide
import HandS.Walk
import HandS.IsInst
import HandS.Zip
import HandS.Flow
import HandS.TupAny
import KE.GoesMore
import KE.GoesEnum
import HandS.Defaults
import HandS.More
import HandS.Words
import HandS.Style
import HandS.Rev
import HandS.Deep
import HandS.Head0
import HandS.Head1
import HandS.Head2
import HandS.HeadEnd
import HandS.HeadHook1
import HandS.HeadHook2
import HandS.HeadHook3
import HandS.HeadHook4
import KE.KStateDown
import Lean
import HandS.SortInts
import HandS.Remove
import KE.GoesZip
import HandS.IterVal
import HandS.Conv
import KE.KDictZip
import KE.KDictList
import HandS.Dict
import HandS.TupMul
import PyProof.ReprLen
import HandS.Exc
import HandS.ExcOwn
import HandS.ExcIs
import HandS.Call
import HandS.RaiseMore
import PySem.Challenge.RW_makeprice_k80_whole_courses_led_year_by
set_option Elab.async false
set_option linter.all false
set_option maxRecDepth 100000
/-! Dl: plain data over the hand layer. A def is told by a plain function of data. -/
namespace Dl
open PySem PySem.Spec PyProof.Rows L2

abbrev D := PyData
abbrev Sg := L2.St

/-! ### data, an empty dict among them -/
mutual
inductive Dp (K : PySem.W.Frag) (H : Hp) : V → D → Prop
  | non : Dp K H .non .none
  | bl (b : Bool) : Dp K H (.bl b) (.bool b)
  | int (i : Int) : Dp K H (.int i) (.int i)
  | str (x : Str) : Dp K H (.str x) (.str x)
  | lst {a : Addr} {xs : List V} {ds : List D} : SqL K H a xs → DpAll K H xs ds → Dp K H (.ref a) (.list ds)
  | tup {a : Addr} {xs : List V} {ds : List D} : SqT K H a xs → DpAll K H xs ds → Dp K H (.ref a) (.tuple ds)
  | dct {a : Addr} : H a = some (.dT []) → Dp K H (.ref a) (.dict [])
inductive DpAll (K : PySem.W.Frag) (H : Hp) : List V → List D → Prop
  | nil : DpAll K H [] []
  | cons {v : V} {vs : List V} {d : D} {ds : List D} : Dp K H v d → DpAll K H vs ds → DpAll K H (v :: vs) (d :: ds)
end
mutual
theorem Dp.hand {K : PySem.W.Frag} {H : Hp} : ∀ (d : D) (v : V), d.canLay0 = true → Dp K H v d → L2.Dp K H v d
  | .none, _, _, h => by cases h; exact .non
  | .bool b, _, _, h => by cases h; exact .bl b
  | .int i, _, _, h => by cases h; exact .int i
  | .str x, _, _, h => by cases h; exact .str x
  | .list ds, _, q, h => by
    cases h with
    | lst hs ha => exact .lst hs (DpAll.hand ds _ (by simpa only [PyData.canLay0] using q) ha)
  | .tuple ds, _, q, h => by
    cases h with
    | tup hs ha => exact .tup hs (DpAll.hand ds _ (by simpa only [PyData.canLay0] using q) ha)
  | .dict _, _, q, _ => by simp [PyData.canLay0] at q
theorem DpAll.hand {K : PySem.W.Frag} {H : Hp} : ∀ (ds : List D) (vs : List V), PyData.canLayAll0 ds = true → DpAll K H vs ds → L2.DpAll K H vs ds
  | [], _, _, h => by cases h; exact .nil
  | d :: ds, _, q, h => by
    cases h with
    | cons h1 h2 =>
      simp only [PyData.canLayAll0, Bool.and_eq_true] at q
      exact .cons (Dp.hand d _ q.1 h1) (DpAll.hand ds _ q.2 h2)
end
theorem shaped_lay {d : D} (h : SeqAt.shaped d = true) : d.canLay0 = true := by
  unfold SeqAt.shaped at h
  simp only [Bool.and_eq_true] at h
  exact h.1
section
variable {X : Cx} {pins : List (Addr × Obj)} {σ : L2.St} {H : Hp} {s : Shared}
mutual
theorem Dp.reads (I : Inv X pins σ H s) : ∀ (d : D) (v : V) (u : Value), Dp X.K H v d → RelV v u → ∃ as, Reads s.heap u d as
  | .none, _, _, h, r => by cases h; cases r; exact ⟨_, Reads.none⟩
  | .bool b, _, _, h, r => by cases h; cases r; exact ⟨_, Reads.bool b⟩
  | .int i, _, _, h, r => by
    cases h
    obtain ⟨t, rfl⟩ := r
    exact ⟨_, Reads.int i t⟩
  | .str x, _, _, h, r => by
    cases h
    obtain ⟨t, rfl⟩ := r
    exact ⟨_, Reads.str x t⟩
  | .list ds, _, _, h, r => by
    cases h with
    | lst hs ha =>
      cases r
      obtain ⟨its, rv, ⟨o, n, ho, hc, _, hd⟩, _⟩ := I.list hs
      obtain ⟨as, q⟩ := DpAll.reads I ds _ its ha rv
      exact ⟨_, Reads.list ho hc hd q⟩
  | .tuple ds, _, _, h, r => by
    cases h with
    | tup hs ha =>
      cases r
      obtain ⟨its, rv, ⟨o, ho, hc, n, hd⟩, _⟩ := I.tuple hs
      obtain ⟨as, q⟩ := DpAll.reads I ds _ its ha rv
      exact ⟨_, Reads.tuple ho hc hd q⟩
  | .dict _, _, _, h, r => by
    cases h with
    | dct e =>
      cases r
      obtain ⟨_, _, xs, hp, o, es, ep, ho, hx, hd, he, _⟩ := (show ObjOk X.prog X.w H s.heap _ (.dT []) from I.hok _ _ e)
      cases hp
      exact ⟨_, Reads.dict ho hx.1 hd (by rw [he]; exact .nil) (by rw [he]; exact .nil)⟩
theorem DpAll.reads (I : Inv X pins σ H s) : ∀ (ds : List D) (vs : List V) (us : List Value), DpAll X.K H vs ds → Vals vs us → ∃ as, ReadsAll s.heap us ds as
  | [], _, _, h, r => by cases h; cases r; exact ⟨_, ReadsAll.nil⟩
  | d :: ds, _, _, h, r => by
    cases h with
    | cons h1 h2 =>
      cases r with
      | cons r1 r2 =>
        obtain ⟨as, q1⟩ := Dp.reads I d _ _ h1 r1
        obtain ⟨bs, q2⟩ := DpAll.reads I ds _ _ h2 r2
        exact ⟨_, ReadsAll.cons q1 q2⟩
end
end

/-! ### data stands while the heap grows -/
theorem Same.tupS {K : PySem.W.Frag} {H H' : Hp} {a : Addr} {xs : List V} (e : Same H H') (h : SqT K H a xs) : SqT K H' a xs := by
  rcases h with (h | ⟨o, h⟩) | h
  · exact .inl (.inl (e _ _ h))
  · exact .inl (.inr ⟨o, e _ _ h⟩)
  · exact .inr h

mutual
theorem dpMono {K : PySem.W.Frag} {H H' : Hp} (e : Same H H') : ∀ (d : D) (v : V), Dp K H v d → Dp K H' v d
  | .none, _, h => by cases h; exact .non
  | .bool b, _, h => by cases h; exact .bl b
  | .int i, _, h => by cases h; exact .int i
  | .str x, _, h => by cases h; exact .str x
  | .list ds, _, h => by
    cases h with
    | lst hs ha => exact .lst (e.seq hs) (dpMonos e ds _ ha)
  | .tuple ds, _, h => by
    cases h with
    | tup hs ha => exact .tup (Same.tupS e hs) (dpMonos e ds _ ha)
  | .dict _, _, h => by
    cases h with
    | dct q => exact .dct (e _ _ q)
theorem dpMonos {K : PySem.W.Frag} {H H' : Hp} (e : Same H H') : ∀ (ds : List D) (vs : List V), DpAll K H vs ds → DpAll K H' vs ds
  | [], _, h => by cases h; exact .nil
  | d :: ds, _, h => by
    cases h with
    | cons h1 h2 => exact .cons (dpMono e d _ h1) (dpMonos e ds _ h2)
end

theorem dpLen {K : PySem.W.Frag} {H : Hp} : ∀ {vs : List V} {ds : List D}, DpAll K H vs ds → vs.length = ds.length
  | _, [], h => by cases h; rfl
  | _, d :: ds, h => by
    cases h with
    | cons _ h2 => simp [dpLen h2]
theorem dpAt {K : PySem.W.Frag} {H : Hp} : ∀ {vs : List V} {ds : List D} {i : Nat} {d : D}, DpAll K H vs ds → ds[i]? = some d → ∃ v, vs[i]? = some v ∧ Dp K H v d
  | _, [], _, _, _, e => by simp at e
  | _, d :: ds, 0, d', h, e => by
    cases h with
    | cons h1 h2 => simp at e; subst e; exact ⟨_, rfl, h1⟩
  | _, d :: ds, i + 1, d', h, e => by
    cases h with
    | cons h1 h2 =>
      obtain ⟨v, q, r⟩ := dpAt h2 (i := i) (by simpa using e)
      exact ⟨v, by simpa using q, r⟩
theorem dpAtV {K : PySem.W.Frag} {H : Hp} : ∀ {vs : List V} {ds : List D} {i : Nat} {v : V}, DpAll K H vs ds → vs[i]? = some v → ∃ d, ds[i]? = some d ∧ Dp K H v d
  | _, [], _, _, h, e => by cases h; simp at e
  | _, d :: ds, 0, d', h, e => by
    cases h with
    | cons h1 h2 => simp at e; subst e; exact ⟨_, rfl, h1⟩
  | _, d :: ds, i + 1, d', h, e => by
    cases h with
    | cons h1 h2 =>
      obtain ⟨v, q, r⟩ := dpAtV h2 (i := i) (by simpa using e)
      exact ⟨v, by simpa using q, r⟩
theorem dpApp {K : PySem.W.Frag} {H : Hp} : ∀ {vs ws : List V} {ds es : List D}, DpAll K H vs ds → DpAll K H ws es → DpAll K H (vs ++ ws) (ds ++ es)
  | _, _, [], _, h, g => by cases h; exact g
  | _, _, d :: ds, _, h, g => by
    cases h with
    | cons h1 h2 => exact .cons h1 (dpApp h2 g)
theorem dpTake {K : PySem.W.Frag} {H : Hp} : ∀ (n : Nat) {vs : List V} {ds : List D}, DpAll K H vs ds → DpAll K H (vs.take n) (ds.take n)
  | 0, _, _, _ => .nil
  | n + 1, _, [], h => by cases h; exact .nil
  | n + 1, _, d :: ds, h => by
    cases h with
    | cons h1 h2 => exact .cons h1 (dpTake n h2)
theorem dpDrop {K : PySem.W.Frag} {H : Hp} : ∀ (n : Nat) {vs : List V} {ds : List D}, DpAll K H vs ds → DpAll K H (vs.drop n) (ds.drop n)
  | 0, _, _, h => h
  | n + 1, _, [], h => by cases h; exact .nil
  | n + 1, _, d :: ds, h => by
    cases h with
    | cons h1 h2 => exact dpDrop n h2
theorem dpSet {K : PySem.W.Frag} {H : Hp} {v : V} {d : D} (hd : Dp K H v d) : ∀ (n : Nat) {vs : List V} {ds : List D}, DpAll K H vs ds → DpAll K H (vs.set n v) (ds.set n d)
  | _, _, [], h => by cases h; exact .nil
  | 0, _, d :: ds, h => by
    cases h with
    | cons h1 h2 => exact .cons hd h2
  | n + 1, _, d :: ds, h => by
    cases h with
    | cons h1 h2 => exact .cons h1 (dpSet hd n h2)

/-! ### slots -/
/-- what a slot holds: nothing, data that stays, a list that this frame alone may change -/
inductive Sl where
  | no | v (d : D) | own (t : Option Addr) (ds : List D) | ex (a : Addr)
abbrev G := List Sl

def RepS (K : PySem.W.Frag) (F H : Hp) : Sl → Option V → Prop
  | .no, _ => True
  | .v d, o => ∃ x, o = some x ∧ Dp K F x d
  | .own t ds, o => ∃ a xs, o = some (.ref a) ∧ F a = none ∧ H a = some (.lst xs) ∧ DpAll K F xs ds ∧ ∀ b, t = some b → b = a
  | .ex a, o => o = some (.ref a)

/-- the address of a list of the frame's own -/
def OwnAt (g : G) (s : Sg) (a : Addr) : Prop := ∃ (i : Nat) (t : Option Addr) (ds : List D), g[i]? = some (.own t ds) ∧ s[i]? = some (some (.ref a))

structure Rep (K : PySem.W.Frag) (F : Hp) (g : G) (s : Sg) (H : Hp) : Prop where
  fh : Same F H
  len : g.length = s.length
  sl : ∀ (i : Nat) (x : Sl) (o : Option V), g[i]? = some x → s[i]? = some o → RepS K F H x o
  uq : ∀ (i j : Nat) (a : Addr) (t u : Option Addr) (ds es : List D), g[i]? = some (.own t ds) → g[j]? = some (.own u es) → s[i]? = some (some (.ref a)) → s[j]? = some (some (.ref a)) → i = j

/-- from one heap to a later one: what is frozen stays, all but the addresses O stays -/
structure Stp (O : Addr → Prop) (F H F' H' : Hp) : Prop where
  fs : Same F F'
  keep : ∀ b o, H b = some o → ¬ O b → H' b = some o
  fresh : ∀ b, F b = none → F' b ≠ none → H b = none ∨ O b
  dom : ∀ b, H b ≠ none → H' b ≠ none

abbrev Non : Addr → Prop := fun _ => False

theorem Stp.refl {O : Addr → Prop} {F H : Hp} : Stp O F H F H := ⟨.refl _, fun _ _ h _ => h, fun _ h h' => absurd h h', fun _ h => h⟩
theorem Stp.weak {O O' : Addr → Prop} {F H F' H' : Hp} (s : Stp O F H F' H') (h : ∀ b, O b → O' b) : Stp O' F H F' H' :=
  ⟨s.fs, fun b o e n => s.keep b o e fun z => n (h b z), fun b e e' => (s.fresh b e e').imp id (h b), s.dom⟩
theorem Stp.trans {O O1 : Addr → Prop} {F H F1 H1 F2 H2 : Hp} (s : Stp O F H F1 H1) (t : Stp O1 F1 H1 F2 H2) (h : ∀ b, O1 b → O b ∨ H b = none) : Stp O F H F2 H2 where
  fs := s.fs.trans t.fs
  keep := fun b o e n => t.keep b o (s.keep b o e n) fun z => by
    rcases h b z with q | q
    · exact n q
    · rw [q] at e; cases e
  fresh := fun b e e' => by
    by_cases q : F1 b = none
    · rcases t.fresh b q e' with z | z
      · left
        cases hb : H b with
        | none => rfl
        | some o => exact absurd z (s.dom b (by rw [hb]; simp))
      · exact (h b z).symm.imp id id
    · exact s.fresh b e q
  dom := fun b e => t.dom b (s.dom b e)

/-- a new object, frozen at once -/
theorem Stp.laid {O : Addr → Prop} {F H : Hp} {p : Addr} {o : HO} (np : H p = none) (fh : Same F H) : Stp O F H (upd F p o) (upd H p o) := by
  have fp : F p = none := by
    cases e : F p with
    | none => rfl
    | some u => rw [fh _ _ e] at np; cases np
  refine ⟨fun b u e => ?_, fun b u e _ => ?_, fun b e e' => ?_, fun b e => ?_⟩
  · rw [upd_ne (ne_of_none e fp)]; exact e
  · rw [upd_ne (ne_of_none e np)]; exact e
  · by_cases z : b = p
    · left; rw [z]; exact np
    · rw [upd_ne z] at e'; exact absurd e e'
  · by_cases z : b = p
    · rw [z] at e; exact absurd np e
    · rw [upd_ne z]; exact e
/-- a new object, not frozen -/
theorem Stp.made {O : Addr → Prop} {F H : Hp} {p : Addr} {o : HO} (np : H p = none) : Stp O F H F (upd H p o) := by
  refine ⟨.refl _, fun b u e _ => ?_, fun b e e' => absurd e e', fun b e => ?_⟩
  · rw [upd_ne (ne_of_none e np)]; exact e
  · by_cases z : b = p
    · rw [z] at e; exact absurd np e
    · rw [upd_ne z]; exact e
theorem sameLaid {F H : Hp} {p : Addr} {o : HO} (fh : Same F H) (np : H p = none) : Same (upd F p o) (upd H p o) := fun b u e => by
  by_cases z : b = p
  · subst z; rw [upd_same] at e ⊢; exact e
  · rw [upd_ne z] at e ⊢; exact fh b u e
theorem sameMade {F H : Hp} {p : Addr} {o : HO} (fh : Same F H) (np : H p = none) : Same F (upd H p o) := fun b u e => by
  have h := fh b u e
  rw [upd_ne (ne_of_none h np)]; exact h

/-- slots behind a step that touches none of the frame's lists -/
theorem Rep.step {K : PySem.W.Frag} {F F' H H' : Hp} {g : G} {s : Sg} {O : Addr → Prop} (r : Rep K F g s H) (t : Stp O F H F' H') (hO : ∀ b, OwnAt g s b → ¬ O b) (fh : Same F' H') : Rep K F' g s H' := by
  refine ⟨fh, r.len, fun i x o hx ho => ?_, r.uq⟩
  have q := r.sl i x o hx ho
  cases x with
  | no => trivial
  | ex _ => exact q
  | v d =>
    obtain ⟨y, e, h⟩ := q
    exact ⟨y, e, dpMono t.fs _ _ h⟩
  | own tg ds =>
    obtain ⟨a, xs, e, fa, ha, h, ht⟩ := q
    have ow : OwnAt g s a := ⟨i, tg, ds, hx, by rw [ho, e]⟩
    refine ⟨a, xs, e, ?_, t.keep a _ ha (hO a ow), dpMonos t.fs _ _ h, ht⟩
    cases z : F' a with
    | none => rfl
    | some u =>
      rcases t.fresh a fa (by rw [z]; simp) with q | q
      · rw [q] at ha; cases ha
      · exact absurd q (hO a ow)
theorem Rep.stepN {K : PySem.W.Frag} {F F' H H' : Hp} {g : G} {s : Sg} (r : Rep K F g s H) (t : Stp Non F H F' H') (fh : Same F' H') : Rep K F' g s H' := r.step t (fun _ _ z => z) fh

/-- the frame's lists grow no more -/
def Mo (g g' : G) : Prop := ∀ (i : Nat) (t : Option Addr) (ds : List D), g'[i]? = some (.own t ds) → ∃ es, g[i]? = some (.own t es)
theorem Mo.refl {g : G} : Mo g g := fun _ _ ds h => ⟨ds, h⟩
theorem Mo.trans {a b c : G} (x : Mo a b) (y : Mo b c) : Mo a c := fun i t ds h => let ⟨es, e⟩ := y i t ds h; x i t es e
theorem Mo.own {g g' : G} {s : Sg} {a : Addr} (m : Mo g g') (h : OwnAt g' s a) : OwnAt g s a := by
  obtain ⟨i, t, ds, e, q⟩ := h
  obtain ⟨es, z⟩ := m i t ds e
  exact ⟨i, t, es, z, q⟩

theorem Rep.get {K : PySem.W.Frag} {F H : Hp} {g : G} {s : Sg} (r : Rep K F g s H) {i : Nat} {x : Sl} (h : g[i]? = some x) : ∃ o, s[i]? = some o ∧ RepS K F H x o := by
  have hi : i < s.length := by rw [← r.len]; exact (List.getElem?_eq_some_iff.mp h).1
  exact ⟨s[i], List.getElem?_eq_getElem hi, r.sl i x _ h (List.getElem?_eq_getElem hi)⟩

theorem ownIn {g : G} {s : Sg} {a : Addr} {i : Nat} {x : Sl} {o : Option V} (h : OwnAt (g.set i x) (s.set i o) a) (hl : g.length = s.length) : OwnAt g s a ∨ (∃ t ds, x = .own t ds ∧ o = some (.ref a)) := by
  obtain ⟨j, t, ds, e, q⟩ := h
  by_cases z : i = j
  · subst z
    have hi : i < g.length := by
      have := (List.getElem?_eq_some_iff.mp e).1
      simpa using this
    rw [List.getElem?_set_self hi] at e
    rw [List.getElem?_set_self (by omega)] at q
    right
    cases e; cases q
    exact ⟨t, ds, rfl, rfl⟩
  · rw [List.getElem?_set_ne z] at e q
    exact .inl ⟨j, t, ds, e, q⟩
/-- a slot is written -/
theorem Rep.put {K : PySem.W.Frag} {F H : Hp} {g : G} {s : Sg} (r : Rep K F g s H) (i : Nat) (x : Sl) (o : Option V) (h : RepS K F H x o) (hn : ∀ t ds a, x = .own t ds → o = some (.ref a) → ¬ OwnAt g s a) : Rep K F (g.set i x) (s.set i o) H := by
  refine ⟨r.fh, by simp [r.len], fun j y o' hy ho => ?_, fun j k a t u ds es h1 h2 h3 h4 => ?_⟩
  · by_cases z : i = j
    · subst z
      have hi : i < g.length := by
        have := (List.getElem?_eq_some_iff.mp hy).1
        simpa using this
      rw [List.getElem?_set_self hi] at hy
      rw [List.getElem?_set_self (by rw [← r.len]; exact hi)] at ho
      cases hy; cases ho; exact h
    · rw [List.getElem?_set_ne z] at hy ho
      exact r.sl j y o' hy ho
  · by_cases z1 : i = j
    · by_cases z2 : i = k
      · exact z1.symm.trans z2
      · subst z1
        have hi : i < g.length := by
          have := (List.getElem?_eq_some_iff.mp h1).1
          simpa using this
        rw [List.getElem?_set_self hi] at h1
        rw [List.getElem?_set_self (by rw [← r.len]; exact hi)] at h3
        rw [List.getElem?_set_ne z2] at h2 h4
        cases h1; cases h3
        exact absurd ⟨k, u, es, h2, h4⟩ (hn t ds a rfl rfl)
    · by_cases z2 : i = k
      · subst z2
        have hi : i < g.length := by
          have := (List.getElem?_eq_some_iff.mp h2).1
          simpa using this
        rw [List.getElem?_set_self hi] at h2
        rw [List.getElem?_set_self (by rw [← r.len]; exact hi)] at h4
        rw [List.getElem?_set_ne z1] at h1 h3
        cases h2; cases h4
        exact absurd ⟨j, t, ds, h1, h3⟩ (hn u es a rfl rfl)
      · rw [List.getElem?_set_ne z1] at h1 h3
        rw [List.getElem?_set_ne z2] at h2 h4
        exact r.uq j k a t u ds es h1 h2 h3 h4
end Dl
set_option Elab.async false
set_option linter.all false
set_option maxRecDepth 100000
namespace Dl
open PySem PySem.Spec PyProof.Rows L2

theorem Stp.two {F H F1 H1 F2 H2 : Hp} {g g1 : G} {s : Sg} (t1 : Stp (OwnAt g s) F H F1 H1) (m : Mo g g1) (t2 : Stp (OwnAt g1 s) F1 H1 F2 H2) : Stp (OwnAt g s) F H F2 H2 := t1.trans t2 fun _ h => .inl (m.own h)
theorem Stp.andN {O : Addr → Prop} {F H F1 H1 F2 H2 : Hp} (t1 : Stp O F H F1 H1) (t2 : Stp Non F1 H1 F2 H2) : Stp O F H F2 H2 := t1.trans t2 fun _ h => h.elim

theorem peMono {X : Cx} {e : Expr} {t t' : TE} (h : PE X e t) (m : ∀ s H Q, t' s H Q → t s H Q) : PE X e t' := ⟨fun pins st s H Q I w => h.run pins st s H Q I (m s H Q w)⟩
theorem ptMono {X : Cx} {e : Expr} {t t' : TT} (h : PT X e t) (m : ∀ s H Q, t' s H Q → t s H Q) : PT X e t' := ⟨fun pins st s H Q I w => h.run pins st s H Q I (m s H Q w)⟩
theorem paMono {X : Cx} {e : List Expr} {t t' : TA} (h : PA X e t) (m : ∀ s H Q, t' s H Q → t s H Q) : PA X e t' := ⟨fun pos pins st s H Q I w => h.run pos pins st s H Q I (m s H Q w)⟩
theorem psMono {X : Cx} {e : Stmt} {t t' : TS} (h : PS X e t) (m : ∀ D s H, t' D s H → t D s H) : PS X e t' := ⟨fun pins st s H D I w => h.run pins st s H D I (m D s H w)⟩
theorem pssMono {X : Cx} {e : List Stmt} {t t' : TS} (h : PSs X e t) (m : ∀ D s H, t' D s H → t D s H) : PSs X e t' := ⟨fun pins st s H D I w => h.run pins st s H D I (m D s H w)⟩
theorem pwMono {X : Cx} {e : Expr} {t t' : TT} (h : PW X e t) (m : ∀ s H Q, t' s H Q → t s H Q) : PW X e t' := ⟨fun wh pins st s H Q I w => h.run wh pins st s H Q I (m s H Q w)⟩

/-! ### the judgements by data -/
abbrev Fe := G → Option (D × G)
abbrev Fv := G → Option (Sl × G)
abbrev Ft := G → Option (Bool × G)
abbrev Fa := G → Option (List D × G)

def tD (K : PySem.W.Frag) (f : Fe) : TE := fun s H Q => ∃ F g d g', Rep K F g s H ∧ f g = some (d, g') ∧
  ∀ v F' H', Dp K F' v d → Rep K F' g' s H' → Stp (OwnAt g s) F H F' H' → Mo g g' → Q v H'
/-- data to be read at once: frozen, or a list of the frame's own -/
def BD (K : PySem.W.Frag) (F H : Hp) (v : V) (d : D) : Prop := Dp K F v d ∨ ∃ ds a xs, d = .list ds ∧ v = .ref a ∧ H a = some (.lst xs) ∧ DpAll K F xs ds
theorem BD.dp {K : PySem.W.Frag} {F H : Hp} {v : V} {d : D} (h : BD K F H v d) (fh : Same F H) : Dp K H v d := by
  rcases h with h | ⟨ds, a, xs, rfl, rfl, ha, hp⟩
  · exact dpMono fh _ _ h
  · exact .lst (SqL.of ha) (dpMonos fh _ _ hp)
def tB (K : PySem.W.Frag) (f : Fe) : TE := fun s H Q => ∃ F g d g', Rep K F g s H ∧ f g = some (d, g') ∧
  ∀ v F' H', BD K F' H' v d → Rep K F' g' s H' → Stp (OwnAt g s) F H F' H' → Mo g g' → Q v H'
def tV (K : PySem.W.Frag) (f : Fv) : TE := fun s H Q => ∃ F g x g', Rep K F g s H ∧ f g = some (x, g') ∧
  ∀ v F' H', RepS K F' H' x (some v) → (∀ t ds, x = .own t ds → t = none ∧ ∃ a, v = .ref a ∧ H a = none) → Rep K F' g' s H' → Stp (OwnAt g s) F H F' H' → Mo g g' → Q v H'
def tT (K : PySem.W.Frag) (f : Ft) : TT := fun s H Q => ∃ F g b g', Rep K F g s H ∧ f g = some (b, g') ∧
  ∀ F' H', Rep K F' g' s H' → Stp (OwnAt g s) F H F' H' → Mo g g' → Q b H'
def tA (K : PySem.W.Frag) (f : Fa) : TA := fun s H Q => ∃ F g ds g', Rep K F g s H ∧ f g = some (ds, g') ∧
  ∀ vs F' H', DpAll K F' vs ds → Rep K F' g' s H' → Stp (OwnAt g s) F H F' H' → Mo g g' → Q vs H'
def DE (X : Cx) (e : Expr) (f : Fe) : Prop := PE X e (tD X.K f)
def DB (X : Cx) (e : Expr) (f : Fe) : Prop := PE X e (tB X.K f)
def DV (X : Cx) (e : Expr) (f : Fv) : Prop := PE X e (tV X.K f)
def DT (X : Cx) (e : Expr) (f : Ft) : Prop := PT X e (tT X.K f)
def DW (X : Cx) (e : Expr) (f : Ft) : Prop := PW X e (tT X.K f)
def DA (X : Cx) (es : List Expr) (f : Fa) : Prop := PA X es (tA X.K f)

variable {X : Cx}

/-! ### constants, names -/
def eC (d : D) : Fe := fun g => some (d, g)
theorem de_const {e : Expr} {v : V} {d : D} (h : PE X e (tC v)) (hd : ∀ F, Dp X.K F v d) : DE X e (eC d) := peMono h fun s H Q ⟨F, g, d', g', r, e1, k⟩ => by
  cases e1
  exact k v F H (hd F) r Stp.refl Mo.refl
theorem de_int {i j pos} : DE X (.Constant (.int i) j pos) (eC (.int i)) := de_const pe_int fun _ => .int i
theorem de_str {i j pos} : DE X (.Constant (.str i) j pos) (eC (.str i)) := de_const pe_str fun _ => .str i
theorem de_bl {i j pos} : DE X (.Constant (.bool i) j pos) (eC (.bool i)) := de_const pe_bl fun _ => .bl i
theorem de_non {j pos} : DE X (.Constant .none j pos) (eC .none) := de_const pe_non fun _ => .non
/-- a constant of the module -/
theorem de_glob {x : Str} {v : V} {u : Value} {d : D} {pos : Pos} (hg : Gl X x) (hm : X.mg x = some u) (r : RelV v u) (hd : ∀ F, Dp X.K F v d) (hdb : (x == ("__debug__" : Str)) = false := by decide) : DE X (.Name x pos) (eC d) := de_const (pe_glob hg hm r hdb) hd

def eVar (i : Nat) : Fe := fun g => match g[i]? with
  | some (.v d) => some (d, g)
  | some (.own none ds) => some (.list ds, g.set i (.v (.list ds)))
  | _ => none
/-- read without being frozen -/
def bVar (i : Nat) : Fe := fun g => match g[i]? with
  | some (.v d) => some (d, g)
  | some (.own _ ds) => some (.list ds, g)
  | _ => none

theorem setSelf {s : Sg} {i : Nat} {o : Option V} (h : s[i]? = some o) : s.set i o = s := by
  apply List.ext_getElem?
  intro j
  by_cases z : i = j
  · subst z
    rw [List.getElem?_set_self (List.getElem?_eq_some_iff.mp h).1, h]
  · rw [List.getElem?_set_ne z]

/-- a list of the frame's own is frozen where it stands -/
theorem Rep.freeze {K : PySem.W.Frag} {F H : Hp} {g : G} {s : Sg} (r : Rep K F g s H) {i : Nat} {t : Option Addr} {ds : List D} (h : g[i]? = some (.own t ds)) :
    ∃ a F', s[i]? = some (some (.ref a)) ∧ Dp K F' (.ref a) (.list ds) ∧ Rep K F' (g.set i (.v (.list ds))) s H ∧ Stp (OwnAt g s) F H F' H ∧ Mo g (g.set i (.v (.list ds))) := by
  obtain ⟨o, ho, a, xs, eo, fa, ha, hp, ht⟩ := r.get h
  subst eo
  have hi : i < g.length := (List.getElem?_eq_some_iff.mp h).1
  have sf : Same F (upd F a (.lst xs)) := fun b u e => by rw [upd_ne (ne_of_none e fa)]; exact e
  have fh : Same (upd F a (.lst xs)) H := fun b u e => by
    by_cases z : b = a
    · subst z; rw [upd_same] at e; cases e; exact ha
    · rw [upd_ne z] at e; exact r.fh b u e
  have t1 : Stp (fun b => b = a) F H (upd F a (.lst xs)) H := ⟨sf, fun b o e _ => e, fun b e e' => by
    by_cases z : b = a
    · exact .inr z
    · rw [upd_ne z] at e'; exact absurd e e', fun b e => e⟩
  have r0 : Rep K F (g.set i .no) s H := by
    have := r.put i .no (some (.ref a)) trivial (fun _ _ _ e => nomatch e)
    rwa [setSelf ho] at this
  have r1 : Rep K (upd F a (.lst xs)) (g.set i .no) s H := by
    refine r0.step t1 (fun b hb z => ?_) fh
    subst z
    obtain ⟨j, tg, es, e1, e2⟩ := hb
    by_cases z : i = j
    · subst z; rw [List.getElem?_set_self hi] at e1; cases e1
    · rw [List.getElem?_set_ne z] at e1
      exact z (r.uq i j b t tg ds es h e1 ho e2)
  have dp : Dp K (upd F a (.lst xs)) (.ref a) (.list ds) := .lst (SqL.of upd_same) (dpMonos sf _ _ hp)
  have r2 : Rep K (upd F a (.lst xs)) (g.set i (.v (.list ds))) s H := by
    have := r1.put i (.v (.list ds)) (some (.ref a)) ⟨_, rfl, dp⟩ (fun _ _ _ e => nomatch e)
    rwa [setSelf ho, List.set_set] at this
  refine ⟨a, _, ho, dp, r2, t1.weak fun b z => by subst z; exact ⟨i, t, ds, h, ho⟩, fun j tg es e => ?_⟩
  by_cases z : i = j
  · subst z; rw [List.getElem?_set_self hi] at e; cases e
  · rw [List.getElem?_set_ne z] at e; exact ⟨es, e⟩

theorem de_var (i : Nat) {x : Str} {pos : Pos} (hN : X.N[i]? = some x := by rfl) (hv : Vis X.env.scope x := by first | exact Or.inl rfl | exact Or.inr (Or.inl rfl) | exact Or.inr (Or.inr rfl)) (hd : (x == ("__debug__" : Str)) = false := by decide)
    (hcd : (x == ("__classdict__" : Str)) = false := by decide) : DE X (.Name x pos) (eVar i) := peMono (pe_var hN hv hd hcd) fun s H Q ⟨F, g, d, g', r, e, k⟩ => by
  unfold eVar at e
  split at e
  · rename_i d0 hg
    cases e
    obtain ⟨o, ho, v, rfl, hp⟩ := r.get hg
    exact ⟨v, ho, k v F H hp r Stp.refl Mo.refl⟩
  · rename_i ds hg
    cases e
    obtain ⟨a, F', ho, dp, r2, st, mo⟩ := r.freeze hg
    exact ⟨_, ho, k _ F' H dp r2 st mo⟩
  · cases e
theorem db_var (i : Nat) {x : Str} {pos : Pos} (hN : X.N[i]? = some x := by rfl) (hv : Vis X.env.scope x := by first | exact Or.inl rfl | exact Or.inr (Or.inl rfl) | exact Or.inr (Or.inr rfl)) (hd : (x == ("__debug__" : Str)) = false := by decide)
    (hcd : (x == ("__classdict__" : Str)) = false := by decide) : DB X (.Name x pos) (bVar i) := peMono (pe_var hN hv hd hcd) fun s H Q ⟨F, g, d, g', r, e, k⟩ => by
  unfold bVar at e
  split at e
  · rename_i d0 hg
    cases e
    obtain ⟨o, ho, v, rfl, hp⟩ := r.get hg
    exact ⟨v, ho, k v F H (.inl hp) r Stp.refl Mo.refl⟩
  · rename_i t ds hg
    cases e
    obtain ⟨o, ho, a, xs, rfl, fa, ha, hp, ht⟩ := r.get hg
    exact ⟨_, ho, k _ F H (.inr ⟨ds, a, xs, rfl, rfl, ha, hp⟩) r Stp.refl Mo.refl⟩
  · cases e
theorem db_de {e : Expr} {f : Fe} (h : DE X e f) : DB X e f := peMono h fun s H Q ⟨F, g, d, g', r, e1, k⟩ =>
  ⟨F, g, d, g', r, e1, fun v F' H' p r' t m => k v F' H' (.inl p) r' t m⟩
/-- a value that is no list of the frame's own -/
def vE (f : Fe) : Fv := fun g => (f g).map fun p => (.v p.1, p.2)
theorem dv_de {e : Expr} {f : Fe} (h : DE X e f) : DV X e (vE f) := peMono h fun s H Q ⟨F, g, x, g', r, e1, k⟩ => by
  unfold vE at e1
  cases q : f g with
  | none => rw [q] at e1; cases e1
  | some p =>
    rw [q] at e1; cases e1
    exact ⟨F, g, p.1, p.2, r, q, fun v F' H' hp r' t m => k v F' H' ⟨v, rfl, hp⟩ (fun _ _ z => nomatch z) r' t m⟩
/-- frozen -/
def dat : Sl → Option D
  | .v d => some d
  | .own _ ds => some (.list ds)
  | .no => none
  | .ex _ => none
def eV (f : Fv) : Fe := fun g => (f g).bind fun p => (dat p.1).map fun d => (d, p.2)
theorem freezeNew {K : PySem.W.Frag} {F H F' H' : Hp} {g g' : G} {s : Sg} {a : Addr} {xs : List V} {ds : List D} (r0 : Rep K F g s H) (r : Rep K F' g' s H') (fa : F' a = none) (ha : H' a = some (.lst xs)) (hp : DpAll K F' xs ds) (na : H a = none) (t : Stp (OwnAt g s) F H F' H') (m : Mo g g') :
    ∃ F2, Dp K F2 (.ref a) (.list ds) ∧ Rep K F2 g' s H' ∧ Stp (OwnAt g s) F H F2 H' := by
  have sf : Same F' (upd F' a (.lst xs)) := fun b u e => by rw [upd_ne (ne_of_none e fa)]; exact e
  have fh : Same (upd F' a (.lst xs)) H' := fun b u e => by
    by_cases z : b = a
    · subst z; rw [upd_same] at e; cases e; exact ha
    · rw [upd_ne z] at e; exact r.fh b u e
  have t1 : Stp (fun b => b = a) F' H' (upd F' a (.lst xs)) H' := ⟨sf, fun b o e _ => e, fun b e e' => by
    by_cases z : b = a
    · exact .inr z
    · rw [upd_ne z] at e'; exact absurd e e', fun b e => e⟩
  refine ⟨_, .lst (SqL.of upd_same) (dpMonos sf _ _ hp), r.step t1 (fun b hb z => ?_) fh, t.trans t1 fun b z => .inr (by rw [z]; exact na)⟩
  subst z
  obtain ⟨i, tg, es, e1, e2⟩ := m.own hb
  obtain ⟨o, ho, a2, ys, eo, _, ha2, _⟩ := r0.get e1
  rw [e2] at ho; cases ho; cases eo
  rw [na] at ha2; cases ha2
theorem de_dv {e : Expr} {f : Fv} (h : DV X e f) : DE X e (eV f) := peMono h fun s H Q ⟨F, g, d, g', r, e1, k⟩ => by
  unfold eV at e1
  cases q : f g with
  | none => rw [q] at e1; cases e1
  | some p =>
    obtain ⟨x, g1⟩ := p
    rw [q] at e1
    cases x with
    | no => cases e1
    | ex _ => cases e1
    | v d0 =>
      cases e1
      exact ⟨F, g, _, g1, r, q, fun v F' H' hp _ r' t m => by
        obtain ⟨y, e2, hp⟩ := hp
        cases e2
        exact k v F' H' hp r' t m⟩
    | own tg ds =>
      cases e1
      refine ⟨F, g, _, g1, r, q, fun v F' H' hp hn r' t m => ?_⟩
      obtain ⟨a, xs, e2, fa, ha, hp, _⟩ := hp
      cases e2
      obtain ⟨_, a', e3, na⟩ := hn tg ds rfl
      cases e3
      obtain ⟨F2, dp, r2, t2⟩ := freezeNew r r' fa ha hp na t m
      exact k _ F2 H' dp r2 t2 m
/-- read at once, not frozen -/
theorem db_dv {e : Expr} {f : Fv} (h : DV X e f) : DB X e (eV f) := peMono h fun s H Q ⟨F, g, d, g', r, e1, k⟩ => by
  unfold eV at e1
  cases q : f g with
  | none => rw [q] at e1; cases e1
  | some p =>
    obtain ⟨x, g1⟩ := p
    rw [q] at e1
    cases x with
    | no => cases e1
    | ex _ => cases e1
    | v d0 =>
      cases e1
      exact ⟨F, g, _, g1, r, q, fun v F' H' hp _ r' t m => by
        obtain ⟨y, e2, hp⟩ := hp
        cases e2
        exact k v F' H' (.inl hp) r' t m⟩
    | own tg ds =>
      cases e1
      refine ⟨F, g, _, g1, r, q, fun v F' H' hp hn r' t m => ?_⟩
      obtain ⟨a, xs, e2, fa, ha, hp, _⟩ := hp
      cases e2
      exact k _ F' H' (.inr ⟨ds, a, xs, rfl, rfl, ha, hp⟩) r' t m

/-! ### two operands -/
def BinOk (K : PySem.W.Frag) (r : R2) (op : D → D → Option D) : Prop := ∀ (x y : V) (d1 d2 d : D) (F H : Hp) (Q : VK), Same F H → Dp K F x d1 → Dp K F y d2 → op d1 d2 = some d →
  (∀ v F' H', Dp K F' v d → Same F' H' → Stp Non F H F' H' → Q v H') → r x y H Q
def eBin (op : D → D → Option D) (fa fb : Fe) : Fe := fun g => (fa g).bind fun p => (fb p.2).bind fun q => (op p.1 q.1).map fun d => (d, q.2)
theorem eBin_inv {op : D → D → Option D} {fa fb : Fe} {g g' : G} {d : D} (h : eBin op fa fb g = some (d, g')) : ∃ d1 g1 d2, fa g = some (d1, g1) ∧ fb g1 = some (d2, g') ∧ op d1 d2 = some d := by
  unfold eBin at h
  cases q : fa g with
  | none => rw [q] at h; cases h
  | some p =>
    rw [q] at h
    cases q2 : fb p.2 with
    | none =>
      have h : (fb p.2).bind _ = some (d, g') := h
      rw [q2] at h; cases h
    | some p2 =>
      have h : (fb p.2).bind _ = some (d, g') := h
      rw [q2] at h
      have h : (op p.1 p2.1).map _ = some (d, g') := h
      cases q3 : op p.1 p2.1 with
      | none => rw [q3] at h; cases h
      | some d3 =>
        rw [q3] at h; cases h
        exact ⟨p.1, p.2, p2.1, rfl, q2, q3⟩
theorem tD_bin {K : PySem.W.Frag} {op : D → D → Option D} {fa fb : Fe} {r : R2} (hr : BinOk K r op) {s : Sg} {H : Hp} {Q : VK} (h : tD K (eBin op fa fb) s H Q) : tOp r (tD K fa) (tD K fb) s H Q := by
  obtain ⟨F, g, d, g', rp, e, k⟩ := h
  obtain ⟨d1, g1, d2, e1, e2, e3⟩ := eBin_inv e
  refine ⟨F, g, d1, g1, rp, e1, fun v1 F1 H1 p1 r1 t1 m1 => ⟨F1, g1, d2, g', r1, e2, fun v2 F2 H2 p2 r2 t2 m2 => ?_⟩⟩
  exact hr v1 v2 d1 d2 d F2 H2 Q r2.fh (dpMono t2.fs _ _ p1) p2 e3 fun v F3 H3 p3 fh t3 => k v F3 H3 p3 (r2.stepN t3 fh) ((t1.two m1 t2).andN t3) (m1.trans m2)
theorem de_op {a b : Expr} {pos : Pos} {o : Operator} {r : R2} {op : D → D → Option D} {fa fb : Fe} (ho : OpR X (binaryOp o) r) (hr : BinOk X.K r op) (ha : DE X a fa) (hb : DE X b fb) : DE X (.BinOp a o b pos) (eBin op fa fb) :=
  peMono (pe_op ho ha hb) fun _ _ _ h => tD_bin hr h
theorem de_cmp {a b : Expr} {pos : Pos} {o : CmpOp} {r : R2} {op : D → D → Option D} {fa fb : Fe} (ho : OpR X (compareOp o) r) (hr : BinOk X.K r op) (hm : behindInMarks o b = false) (ha : DE X a fa) (hb : DE X b fb) : DE X (.Compare a [o] [b] pos) (eBin op fa fb) :=
  peMono (pe_cmpR ho ha hb hm) fun _ _ _ h => tD_bin hr h
theorem BinOk.or {K : PySem.W.Frag} {r r' : R2} {op op' : D → D → Option D} (h : BinOk K r op) (h' : BinOk K r' op') : BinOk K (fun x y H Q => r x y H Q ∨ r' x y H Q) (fun a b => (op a b).or (op' a b)) := by
  intro x y d1 d2 d F H Q fh p1 p2 e k
  cases q : op d1 d2 with
  | none =>
    have e : (op d1 d2).or _ = _ := e
    rw [q] at e
    exact .inr (h' x y d1 d2 d F H Q fh p1 p2 e k)
  | some d' =>
    have e : (op d1 d2).or _ = _ := e
    rw [q] at e; cases e
    exact .inl (h x y d1 d2 _ F H Q fh p1 p2 q k)

/-- the answer is no new object -/
theorem fin0 {K : PySem.W.Frag} {F H : Hp} {v : V} {d : D} {Q : VK} (fh : Same F H) (hd : Dp K F v d) (k : ∀ v F' H', Dp K F' v d → Same F' H' → Stp Non F H F' H' → Q v H') : Q v H := k v F H hd fh Stp.refl

end Dl
set_option Elab.async false
set_option linter.all false
set_option maxRecDepth 100000
namespace Dl
open PySem PySem.Spec PyProof.Rows L2
variable {X : Cx}

/-! ### arithmetic -/
def addD : D → D → Option D
  | .int i, .int j => some (.int (i + j))
  | _, _ => none
def subD : D → D → Option D
  | .int i, .int j => some (.int (i - j))
  | _, _ => none
/-- the sizes that a product and a quotient are served for -/
def MulOk (i j : Int) : Bool := decide (i.natAbs.log2 + j.natAbs.log2 < 1000000) || decide (i.natAbs < 2 ^ 64) || decide (j.natAbs < 2 ^ 64)
def mulD : D → D → Option D
  | .int i, .int j => if MulOk i j = true then some (.int (i * j)) else none
  | _, _ => none
def DivOk (j : Int) : Bool := decide (j ≠ 0) && decide (j.natAbs.log2 < 9000)
def fdivD : D → D → Option D
  | .int i, .int j => if DivOk j = true then some (.int (i.fdiv j)) else none
  | _, _ => none
def modD : D → D → Option D
  | .int i, .int j => if j = 0 then none else some (.int (i.fmod j))
  | _, _ => none
theorem intOf {K : PySem.W.Frag} {F : Hp} {v : V} {i : Int} (h : Dp K F v (.int i)) : v = .int i := by cases h; rfl
theorem ok_add : BinOk X.K (rI0 fun i j => .int (i + j)) addD := fun x y d1 d2 d F H Q fh p1 p2 e k => by
  unfold addD at e
  split at e
  · cases e
    rename_i i j
    exact ⟨i, j, intOf p1, intOf p2, fin0 fh (.int _) k⟩
  · cases e
theorem ok_sub : BinOk X.K (rI0 fun i j => .int (i - j)) subD := fun x y d1 d2 d F H Q fh p1 p2 e k => by
  unfold subD at e
  split at e
  · cases e
    rename_i i j
    exact ⟨i, j, intOf p1, intOf p2, fin0 fh (.int _) k⟩
  · cases e
theorem op_mulX : OpR X (binaryOp .Mult) (rI (fun i j => CMulW i j ∨ CMul i j) fun i j => .int (i * j)) := by
  intro pins s σ H x y v u Q I rx ry h
  obtain ⟨i, j, e1, e2, c, q⟩ := h
  rcases c with c | c
  · exact op_mulW pins s σ H x y v u Q I rx ry ⟨i, j, e1, e2, c, q⟩
  · exact op_mul pins s σ H x y v u Q I rx ry ⟨i, j, e1, e2, c, q⟩
theorem ok_mul : BinOk X.K (rI (fun i j => CMulW i j ∨ CMul i j) fun i j => .int (i * j)) mulD := fun x y d1 d2 d F H Q fh p1 p2 e k => by
  unfold mulD at e
  split at e
  · rename_i i j
    split at e
    · rename_i hc
      cases e
      refine ⟨i, j, intOf p1, intOf p2, ?_, fin0 fh (.int _) k⟩
      unfold MulOk at hc
      simp only [Bool.or_eq_true, decide_eq_true_eq] at hc
      rcases hc with (hc | hc) | hc
      · exact .inl hc
      · exact .inr (.inl ⟨by omega, by omega⟩)
      · exact .inr (.inr ⟨by omega, by omega⟩)
    · cases e
  · cases e
theorem op_fdivX : OpR X (binaryOp .FloorDiv) (rI (fun _ j => j ≠ 0 ∧ j.natAbs.log2 < 9000) fun i j => .int (i.fdiv j)) := opI fun i j _ _ _ _ _ hc q => floordiv_int hc.1 q (.inl (PyProof.noPylong_of_log2 hc.2))
theorem ok_fdiv : BinOk X.K (rI (fun _ j => j ≠ 0 ∧ j.natAbs.log2 < 9000) fun i j => .int (i.fdiv j)) fdivD := fun x y d1 d2 d F H Q fh p1 p2 e k => by
  unfold fdivD at e
  split at e
  · rename_i i j
    split at e
    · rename_i hc
      cases e
      unfold DivOk at hc
      simp only [Bool.and_eq_true, decide_eq_true_eq] at hc
      exact ⟨i, j, intOf p1, intOf p2, hc, fin0 fh (.int _) k⟩
    · cases e
  · cases e
theorem ok_mod : BinOk X.K (rI (fun _ j => j ≠ 0) fun i j => .int (i.fmod j)) modD := fun x y d1 d2 d F H Q fh p1 p2 e k => by
  unfold modD at e
  split at e
  · rename_i i j
    split at e
    · cases e
    · rename_i hc
      cases e
      exact ⟨i, j, intOf p1, intOf p2, hc, fin0 fh (.int _) k⟩
  · cases e
def powD : D → D → Option D
  | .int i, .int j => if 0 ≤ j ∧ j ≤ 1000000 ∧ i.natAbs < 2 ^ 64 then some (.int (i ^ j.toNat)) else none
  | _, _ => none
theorem ok_pow : BinOk X.K (rI CPow fun i j => .int (i ^ j.toNat)) powD := fun x y d1 d2 d F H Q fh p1 p2 e k => by
  unfold powD at e
  split at e
  · rename_i i j
    split at e
    · rename_i hc
      cases e
      exact ⟨i, j, intOf p1, intOf p2, hc, fin0 fh (.int _) k⟩
    · cases e
  · cases e
section
variable {a b : Expr} {pos : Pos} {fa fb : Fe}
theorem de_add (ha : DE X a fa) (hb : DE X b fb) : DE X (.BinOp a .Add b pos) (eBin addD fa fb) := de_op op_add ok_add ha hb
theorem de_sub (ha : DE X a fa) (hb : DE X b fb) : DE X (.BinOp a .Sub b pos) (eBin subD fa fb) := de_op op_sub ok_sub ha hb
theorem de_mul (ha : DE X a fa) (hb : DE X b fb) : DE X (.BinOp a .Mult b pos) (eBin mulD fa fb) := de_op op_mulX ok_mul ha hb
theorem de_fdiv (ha : DE X a fa) (hb : DE X b fb) : DE X (.BinOp a .FloorDiv b pos) (eBin fdivD fa fb) := de_op op_fdivX ok_fdiv ha hb
theorem de_mod (ha : DE X a fa) (hb : DE X b fb) : DE X (.BinOp a .Mod b pos) (eBin modD fa fb) := de_op op_modN ok_mod ha hb
theorem de_pow (ha : DE X a fa) (hb : DE X b fb) : DE X (.BinOp a .Pow b pos) (eBin powD fa fb) := de_op op_pow ok_pow ha hb
end
def eUn (op : D → Option D) (fa : Fe) : Fe := fun g => (fa g).bind fun p => (op p.1).map fun d => (d, p.2)
theorem eUn_inv {op : D → Option D} {fa : Fe} {g g' : G} {d : D} (h : eUn op fa g = some (d, g')) : ∃ d1, fa g = some (d1, g') ∧ op d1 = some d := by
  unfold eUn at h
  cases q : fa g with
  | none => rw [q] at h; cases h
  | some p =>
    rw [q] at h
    have h : (op p.1).map _ = some (d, g') := h
    cases q2 : op p.1 with
    | none => rw [q2] at h; cases h
    | some d2 =>
      rw [q2] at h; cases h
      exact ⟨p.1, rfl, q2⟩
def negD : D → Option D
  | .int i => some (.int (-i))
  | _ => none
theorem de_neg {a : Expr} {pos : Pos} {fa : Fe} (ha : DE X a fa) : DE X (.UnaryOp .USub a pos) (eUn negD fa) := peMono (pe_un un_neg ha) fun s H Q h => by
  obtain ⟨F, g, d, g', rp, e, k⟩ := h
  obtain ⟨d1, e1, e2⟩ := eUn_inv e
  refine ⟨F, g, d1, g', rp, e1, fun v1 F1 H1 p1 r1 t1 m1 => ?_⟩
  unfold negD at e2
  split at e2
  · cases e2
    rename_i i
    exact ⟨i, intOf p1, k _ F1 H1 (.int _) r1 t1 m1⟩
  · cases e2

/-! ### comparisons -/
def cmpD (p : Int → Int → Bool) : D → D → Option D
  | .int i, .int j => some (.bool (p i j))
  | _, _ => none
theorem ok_cmp {p : Int → Int → Bool} : BinOk X.K (rI0 fun i j => .bl (p i j)) (cmpD p) := fun x y d1 d2 d F H Q fh p1 p2 e k => by
  unfold cmpD at e
  split at e
  · cases e
    rename_i i j
    exact ⟨i, j, intOf p1, intOf p2, fin0 fh (.bl _) k⟩
  · cases e
abbrev ltD := cmpD fun i j => decide (i < j)
abbrev leD := cmpD fun i j => decide (i ≤ j)
abbrev gtD := cmpD fun i j => decide (j < i)
abbrev geD := cmpD fun i j => decide (j ≤ i)
def eqD : D → D → Option D := fun d e => match d, e with
  | .str x, .str y => some (.bool (decide (x = y)))
  | d, e => if SeqAt.shaped d = true ∧ SeqAt.shaped e = true then some (.bool (PyData.eqv d e)) else none
def neD : D → D → Option D := fun d e => match d, e with
  | .str x, .str y => some (.bool (!decide (x = y)))
  | d, e => if SeqAt.shaped d = true ∧ SeqAt.shaped e = true then some (.bool (!PyData.eqv d e)) else none
def rEqX (K : PySem.W.Frag) : R2 := fun x y H Q => rEq x y H Q ∨ rEqD K x y H Q
def rNeX (K : PySem.W.Frag) : R2 := fun x y H Q => rNe x y H Q ∨ rNeD K x y H Q
theorem op_eqX (hu : X.A.units + 64 < cLine) : OpR X (compareOp .Eq) (rEqX X.K) := op_eq.or (op_eqD hu)
theorem op_neX (hu : X.A.units + 64 < cLine) : OpR X (compareOp .NotEq) (rNeX X.K) := op_ne.or (op_neD hu)
theorem decStr {x y : Str} : decide (V.str x = V.str y) = decide (x = y) := by
  by_cases h : x = y
  · subst h; simp
  · simp [h]
theorem ok_eq : BinOk X.K (rEqX X.K) eqD := fun x y d1 d2 d F H Q fh p1 p2 e k => by
  unfold eqD at e
  split at e
  · cases e
    cases p1; cases p2
    refine .inl ⟨rfl, ?_⟩
    rw [decStr]
    exact fin0 fh (.bl _) k
  · split at e
    · rename_i h
      cases e
      exact .inr ⟨d1, d2, (dpMono fh _ _ p1).hand _ _ (shaped_lay h.1), (dpMono fh _ _ p2).hand _ _ (shaped_lay h.2), h.1, h.2, fin0 fh (.bl _) k⟩
    · cases e
theorem ok_ne : BinOk X.K (rNeX X.K) neD := fun x y d1 d2 d F H Q fh p1 p2 e k => by
  unfold neD at e
  split at e
  · cases e
    cases p1; cases p2
    refine .inl ⟨rfl, ?_⟩
    rw [decStr]
    exact fin0 fh (.bl _) k
  · split at e
    · rename_i h
      cases e
      exact .inr ⟨d1, d2, (dpMono fh _ _ p1).hand _ _ (shaped_lay h.1), (dpMono fh _ _ p2).hand _ _ (shaped_lay h.2), h.1, h.2, fin0 fh (.bl _) k⟩
    · cases e
def isND : D → D → Option D
  | .none, .none => some (.bool true)
  | _, .none => some (.bool false)
  | _, _ => none
def notND : D → D → Option D
  | .none, .none => some (.bool false)
  | _, .none => some (.bool true)
  | _, _ => none
theorem dpNone {K : PySem.W.Frag} {F : Hp} {v : V} {d : D} (h : Dp K F v d) (hd : d ≠ .none) : decide (v = .non) = false := by
  cases h <;> first | rfl | exact absurd rfl hd
theorem ok_isN : BinOk X.K (fun x y H Q => y = .non ∧ Q (.bl (decide (x = .non))) H) isND := fun x y d1 d2 d F H Q fh p1 p2 e k => by
  unfold isND at e
  split at e
  · cases e
    cases p1; cases p2
    exact ⟨rfl, fin0 fh (.bl _) k⟩
  · rename_i hn
    cases e
    cases p2
    rw [dpNone p1 hn]
    exact ⟨rfl, fin0 fh (.bl _) k⟩
  · cases e
theorem ok_notN : BinOk X.K (fun x y H Q => y = .non ∧ Q (.bl (!decide (x = .non))) H) notND := fun x y d1 d2 d F H Q fh p1 p2 e k => by
  unfold notND at e
  split at e
  · cases e
    cases p1; cases p2
    exact ⟨rfl, fin0 fh (.bl _) k⟩
  · rename_i hn
    cases e
    cases p2
    rw [dpNone p1 hn]
    exact ⟨rfl, fin0 fh (.bl _) k⟩
  · cases e
section
variable {a b c : Expr} {pos : Pos} {fa fb fc : Fe}
theorem de_lt (ha : DE X a fa) (hb : DE X b fb) : DE X (.Compare a [.Lt] [b] pos) (eBin ltD fa fb) := de_cmp op_lt ok_cmp (nomark _) ha hb
theorem de_le (ha : DE X a fa) (hb : DE X b fb) : DE X (.Compare a [.LtE] [b] pos) (eBin leD fa fb) := de_cmp op_le ok_cmp (nomark _) ha hb
theorem de_gt (ha : DE X a fa) (hb : DE X b fb) : DE X (.Compare a [.Gt] [b] pos) (eBin gtD fa fb) := de_cmp op_gt ok_cmp (nomark _) ha hb
theorem de_ge (ha : DE X a fa) (hb : DE X b fb) : DE X (.Compare a [.GtE] [b] pos) (eBin geD fa fb) := de_cmp op_ge ok_cmp (nomark _) ha hb
theorem de_eq (hu : X.A.units + 64 < cLine) (ha : DE X a fa) (hb : DE X b fb) : DE X (.Compare a [.Eq] [b] pos) (eBin eqD fa fb) := de_cmp (op_eqX hu) ok_eq (nomark _) ha hb
theorem de_ne (hu : X.A.units + 64 < cLine) (ha : DE X a fa) (hb : DE X b fb) : DE X (.Compare a [.NotEq] [b] pos) (eBin neD fa fb) := de_cmp (op_neX hu) ok_ne (nomark _) ha hb
theorem de_isN (ha : DE X a fa) (hb : DE X b fb) : DE X (.Compare a [.Is] [b] pos) (eBin isND fa fb) := de_cmp op_isN ok_isN (nomark _) ha hb
theorem de_notN (ha : DE X a fa) (hb : DE X b fb) : DE X (.Compare a [.IsNot] [b] pos) (eBin notND fa fb) := de_cmp op_notN ok_notN (nomark _) ha hb

/-- a <= b <= c -/
def eChain (op op' : D → D → Option D) (fa fb fc : Fe) : Fe := fun g => (fa g).bind fun p => (fb p.2).bind fun q => match op p.1 q.1 with
  | some (.bool true) => (fc q.2).bind fun w => (op' q.1 w.1).map fun d => (d, w.2)
  | some (.bool false) => some (.bool false, q.2)
  | _ => none
theorem tD_chain {K : PySem.W.Frag} {r r' : R2} {o o' : D → D → Option D} (hr : BinOk K r o) (hr' : BinOk K r' o') {s : Sg} {H : Hp} {Q : VK} (h : tD K (eChain o o' fa fb fc) s H Q) : tChain r r' (tD K fa) (tD K fb) (tD K fc) s H Q := by
  obtain ⟨F, g, d, g', rp, e, k⟩ := h
  unfold eChain at e
  cases q1 : fa g with
  | none => rw [q1] at e; cases e
  | some p =>
    rw [q1] at e
    have e : (fb p.2).bind _ = some (d, g') := e
    cases q2 : fb p.2 with
    | none => rw [q2] at e; cases e
    | some p2 =>
      rw [q2] at e
      refine ⟨F, g, p.1, p.2, rp, q1, fun v1 F1 H1 h1 r1 t1 m1 => ⟨F1, p.2, p2.1, p2.2, r1, q2, fun v2 F2 H2 h2 r2 t2 m2 => ?_⟩⟩
      simp only [Option.bind_some] at e
      split at e
      · rename_i q3
        refine hr v1 v2 p.1 p2.1 _ F2 H2 _ r2.fh (dpMono t2.fs _ _ h1) h2 q3 fun v F3 H3 hv fh t3 => ?_
        cases hv
        refine ⟨true, rfl, ?_⟩
        rw [if_pos rfl]
        have r3 := r2.stepN t3 fh
        cases q4 : fc p2.2 with
        | none => rw [q4] at e; cases e
        | some p4 =>
          rw [q4] at e
          have e : (o' p2.1 p4.1).map _ = some (d, g') := e
          cases q5 : o' p2.1 p4.1 with
          | none => rw [q5] at e; cases e
          | some d5 =>
            rw [q5] at e
            cases e
            refine ⟨F3, p2.2, p4.1, p4.2, r3, q4, fun v4 F4 H4 h4 r4 t4 m4 => ?_⟩
            refine hr' v2 v4 p2.1 p4.1 _ F4 H4 _ r4.fh (dpMono (t3.fs.trans t4.fs) _ _ h2) h4 q5 fun v F5 H5 hv fh5 t5 => ?_
            exact k v F5 H5 hv (r4.stepN t5 fh5) ((((t1.two m1 t2).andN t3).two (m1.trans m2) t4).andN t5) ((m1.trans m2).trans m4)
      · rename_i q3
        cases e
        refine hr v1 v2 p.1 p2.1 _ F2 H2 _ r2.fh (dpMono t2.fs _ _ h1) h2 q3 fun v F3 H3 hv fh t3 => ?_
        cases hv
        refine ⟨false, rfl, ?_⟩
        rw [if_neg (by decide)]
        exact k _ F3 H3 (.bl false) (r2.stepN t3 fh) ((t1.two m1 t2).andN t3) (m1.trans m2)
      · cases e
theorem de_chain {op op' : CmpOp} {r r' : R2} {o o' : D → D → Option D} (ho : OpR X (compareOp op) r) (ho' : OpR X (compareOp op') r') (hr : BinOk X.K r o) (hr' : BinOk X.K r' o') (ha : DE X a fa) (hb : DE X b fb) (hc : DE X c fc)
    (hm : lastMarks [op, op'] [b, c] = false := by with_unfolding_all rfl) :
    DE X (.Compare a [op, op'] [b, c] pos) (eChain o o' fa fb fc) := peMono (pe_chain ho ho' ha hb hc hm) fun _ _ _ h => tD_chain hr hr' h
end

/-! ### truth -/
def truD : D → Option Bool
  | .none => some false
  | .bool b => some b
  | .int i => some (i != 0)
  | .str x => if x.length ≤ sizeLine then some ((x.length : Int) != 0) else none
  | .list ds => some (!ds.isEmpty)
  | .tuple ds => some (!ds.isEmpty)
  | .dict _ => none
theorem empty_of {K : PySem.W.Frag} {F : Hp} {xs : List V} {ds : List D} (h : DpAll K F xs ds) : xs.isEmpty = ds.isEmpty := by
  have := dpLen h
  cases xs <;> cases ds <;> simp_all
theorem truOf {K : PySem.W.Frag} {H : Hp} {v : V} {d : D} {b : Bool} (h : Dp K H v d) (e : truD d = some b) : TruV K v H b := by
  cases h with
  | non => cases e; rfl
  | bl b => cases e; rfl
  | int i => cases e; rfl
  | str x =>
    have e : (if x.length ≤ sizeLine then some ((x.length : Int) != 0) else none) = some b := e
    by_cases z : x.length ≤ sizeLine
    · rw [if_pos z] at e; cases e; exact ⟨z, rfl⟩
    · rw [if_neg z] at e; cases e
  | lst hs ha => cases e; exact .inl ⟨_, hs, by rw [empty_of ha]⟩
  | tup hs ha => cases e; exact .inr (.inl ⟨_, hs, by rw [empty_of ha]⟩)
  | dct q => cases e
/-- a value as a test -/
def tOf (f : Fe) : Ft := fun g => (f g).bind fun p => (truD p.1).map fun b => (b, p.2)
theorem tOf_inv {f : Fe} {g g' : G} {b : Bool} (h : tOf f g = some (b, g')) : ∃ d, f g = some (d, g') ∧ truD d = some b := by
  unfold tOf at h
  cases q : f g with
  | none => rw [q] at h; cases h
  | some p =>
    rw [q] at h
    have h : (truD p.1).map _ = some (b, g') := h
    cases q2 : truD p.1 with
    | none => rw [q2] at h; cases h
    | some d2 =>
      rw [q2] at h; cases h
      exact ⟨p.1, rfl, q2⟩
theorem dt_of {e : Expr} {f : Fe} (h : DB X e f) (he : ∀ whole, isTrue e X.env whole = (do let v ← whole; standAt e.pos; holding [v] (truthy v)) := by intro _; rfl) : DT X e (tOf f) := ptMono (pt_truth h he) fun s H Q h => by
  obtain ⟨F, g, b, g', rp, e, k⟩ := h
  obtain ⟨d, e1, e2⟩ := tOf_inv e
  exact ⟨F, g, d, g', rp, e1, fun v1 F1 H1 p1 r1 t1 m1 => ⟨b, truOf (p1.dp r1.fh) e2, k F1 H1 r1 t1 m1⟩⟩
/-- what gives flags alone -/
def IsB (f : Fe) : Prop := ∀ g d g', f g = some (d, g') → ∃ b, d = .bool b
def IsBo (op : D → D → Option D) : Prop := ∀ d1 d2 d, op d1 d2 = some d → ∃ b, d = .bool b
theorem isb_cmp {p} : IsBo (cmpD p) := fun d1 d2 d e => by
  unfold cmpD at e
  split at e
  · cases e; exact ⟨_, rfl⟩
  · cases e
theorem isb_eq : IsBo eqD := fun d1 d2 d e => by
  unfold eqD at e
  split at e
  · cases e; exact ⟨_, rfl⟩
  · split at e
    · cases e; exact ⟨_, rfl⟩
    · cases e
theorem isb_ne : IsBo neD := fun d1 d2 d e => by
  unfold neD at e
  split at e
  · cases e; exact ⟨_, rfl⟩
  · split at e
    · cases e; exact ⟨_, rfl⟩
    · cases e
theorem isb_isN : IsBo isND := fun d1 d2 d e => by
  unfold isND at e
  split at e <;> cases e <;> exact ⟨_, rfl⟩
theorem isb_notN : IsBo notND := fun d1 d2 d e => by
  unfold notND at e
  split at e <;> cases e <;> exact ⟨_, rfl⟩
theorem isb_bin {op : D → D → Option D} {fa fb : Fe} (h : IsBo op) : IsB (eBin op fa fb) := fun g d g' e => by
  obtain ⟨d1, g1, d2, _, _, e3⟩ := eBin_inv e
  exact h d1 d2 d e3
theorem isb_chain {op op' : D → D → Option D} {fa fb fc : Fe} (h : IsBo op') : IsB (eChain op op' fa fb fc) := fun g d g' e => by
  unfold eChain at e
  cases q1 : fa g with
  | none => rw [q1] at e; cases e
  | some p =>
    rw [q1] at e
    have e : (fb p.2).bind _ = some (d, g') := e
    cases q2 : fb p.2 with
    | none => rw [q2] at e; cases e
    | some p2 =>
      rw [q2] at e
      simp only [Option.bind_some] at e
      split at e
      · cases q4 : fc p2.2 with
        | none => rw [q4] at e; cases e
        | some p4 =>
          rw [q4] at e
          have e : (op' p2.1 p4.1).map _ = some (d, g') := e
          cases q5 : op' p2.1 p4.1 with
          | none => rw [q5] at e; cases e
          | some d5 =>
            rw [q5] at e
            cases e
            exact h _ _ _ q5
      · cases e; exact ⟨_, rfl⟩
      · cases e
theorem dt_test {e : Expr} {t : TE} {f : Fe} (h : PT X e (tTest t)) (m : ∀ s H Q, tD X.K f s H Q → t s H Q) (hb : IsB f) : DT X e (tOf f) := ptMono h fun s H Q h => by
  obtain ⟨F, g, b, g', rp, e, k⟩ := h
  obtain ⟨d, e1, e2⟩ := tOf_inv e
  refine m s H _ ⟨F, g, d, g', rp, e1, fun v1 F1 H1 p1 r1 t1 m1 => ?_⟩
  obtain ⟨c, ec⟩ := hb g d g' e1
  subst ec
  cases e2
  cases p1
  exact ⟨_, rfl, k F1 H1 r1 t1 m1⟩
theorem dt_cmp {a b : Expr} {pos : Pos} {o : CmpOp} {r : R2} {op : D → D → Option D} {fa fb : Fe} (ho : OpR X (compareOp o) r) (hr : BinOk X.K r op) (hi : IsBo op) (hm : behindInMarks o b = false) (ha : DE X a fa) (hb : DE X b fb) : DT X (.Compare a [o] [b] pos) (tOf (eBin op fa fb)) :=
  dt_test (pt_cmpR ho ha hb hm) (fun _ _ _ h => tD_bin hr h) (isb_bin hi)
theorem dt_chain {a b c : Expr} {pos : Pos} {fa fb fc : Fe} {op op' : CmpOp} {r r' : R2} {o o' : D → D → Option D} (ho : OpR X (compareOp op) r) (ho' : OpR X (compareOp op') r') (hr : BinOk X.K r o) (hr' : BinOk X.K r' o') (hi : IsBo o') (ha : DE X a fa) (hb : DE X b fb) (hc : DE X c fc)
    (hm : lastMarks [op, op'] [b, c] = false := by with_unfolding_all rfl) :
    DT X (.Compare a [op, op'] [b, c] pos) (tOf (eChain o o' fa fb fc)) := dt_test (pt_chain ho ho' ha hb hc hm) (fun _ _ _ h => tD_chain hr hr' h) (isb_chain hi)
section
variable {a b c : Expr} {pos : Pos} {fa fb fc : Fe}
theorem dt_lt (ha : DE X a fa) (hb : DE X b fb) : DT X (.Compare a [.Lt] [b] pos) (tOf (eBin ltD fa fb)) := dt_cmp op_lt ok_cmp isb_cmp (nomark _) ha hb
theorem dt_le (ha : DE X a fa) (hb : DE X b fb) : DT X (.Compare a [.LtE] [b] pos) (tOf (eBin leD fa fb)) := dt_cmp op_le ok_cmp isb_cmp (nomark _) ha hb
theorem dt_gt (ha : DE X a fa) (hb : DE X b fb) : DT X (.Compare a [.Gt] [b] pos) (tOf (eBin gtD fa fb)) := dt_cmp op_gt ok_cmp isb_cmp (nomark _) ha hb
theorem dt_ge (ha : DE X a fa) (hb : DE X b fb) : DT X (.Compare a [.GtE] [b] pos) (tOf (eBin geD fa fb)) := dt_cmp op_ge ok_cmp isb_cmp (nomark _) ha hb
theorem dt_eq (hu : X.A.units + 64 < cLine) (ha : DE X a fa) (hb : DE X b fb) : DT X (.Compare a [.Eq] [b] pos) (tOf (eBin eqD fa fb)) := dt_cmp (op_eqX hu) ok_eq isb_eq (nomark _) ha hb
theorem dt_ne (hu : X.A.units + 64 < cLine) (ha : DE X a fa) (hb : DE X b fb) : DT X (.Compare a [.NotEq] [b] pos) (tOf (eBin neD fa fb)) := dt_cmp (op_neX hu) ok_ne isb_ne (nomark _) ha hb
theorem dt_isN (ha : DE X a fa) (hb : DE X b fb) : DT X (.Compare a [.Is] [b] pos) (tOf (eBin isND fa fb)) := dt_cmp op_isN ok_isN isb_isN (nomark _) ha hb
theorem dt_notN (ha : DE X a fa) (hb : DE X b fb) : DT X (.Compare a [.IsNot] [b] pos) (tOf (eBin notND fa fb)) := dt_cmp op_notN ok_notN isb_notN (nomark _) ha hb
end

/-! ### and, or, not: tests -/
def tAndT (f h : Ft) : Ft := fun g => (f g).bind fun p => if p.1 = true then h p.2 else some (false, p.2)
def tOrT (f h : Ft) : Ft := fun g => (f g).bind fun p => if p.1 = true then some (true, p.2) else h p.2
def tNotT (f : Ft) : Ft := fun g => (f g).map fun p => (!p.1, p.2)
theorem dt_not {a : Expr} {pos : Pos} {f : Ft} (h : DT X a f) : DT X (.UnaryOp .Not a pos) (tNotT f) := ptMono (pt_not h) fun s H Q ⟨F, g, b, g', rp, e, k⟩ => by
  unfold tNotT at e
  cases q : f g with
  | none => rw [q] at e; cases e
  | some p =>
    rw [q] at e; cases e
    exact ⟨F, g, p.1, p.2, rp, q, fun F1 H1 r1 t1 m1 => k F1 H1 r1 t1 m1⟩
theorem dw_and1 {a : Expr} {pos : Pos} {f : Ft} (h : DT X a f) : DW X (.BoolOp .And [a] pos) f := pw_and1 h
theorem dw_or1 {a : Expr} {pos : Pos} {f : Ft} (h : DT X a f) : DW X (.BoolOp .Or [a] pos) f := pw_or1 h
theorem dw_and {a b : Expr} {rest : List Expr} {pos : Pos} {f h : Ft} (ha : DT X a f) (hb : DW X (.BoolOp .And (b :: rest) pos) h) : DW X (.BoolOp .And (a :: b :: rest) pos) (tAndT f h) := pwMono (pw_and ha hb) fun s H Q ⟨F, g, b, g', rp, e, k⟩ => by
  unfold tAndT at e
  cases q : f g with
  | none => rw [q] at e; cases e
  | some p =>
    obtain ⟨c, g1⟩ := p
    rw [q] at e
    refine ⟨F, g, c, g1, rp, q, fun F1 H1 r1 t1 m1 => ?_⟩
    have e : (if c = true then h g1 else some (false, g1)) = some (b, g') := e
    cases c with
    | true =>
      rw [if_pos rfl] at e
      refine iteT ?_
      exact ⟨F1, g1, b, g', r1, e, fun F2 H2 r2 t2 m2 => k F2 H2 r2 (t1.two m1 t2) (m1.trans m2)⟩
    | false =>
      rw [if_neg (by decide)] at e
      refine iteF ?_
      cases e
      exact k F1 H1 r1 t1 m1
theorem dw_or {a b : Expr} {rest : List Expr} {pos : Pos} {f h : Ft} (ha : DT X a f) (hb : DW X (.BoolOp .Or (b :: rest) pos) h) : DW X (.BoolOp .Or (a :: b :: rest) pos) (tOrT f h) := pwMono (pw_or ha hb) fun s H Q ⟨F, g, b, g', rp, e, k⟩ => by
  unfold tOrT at e
  cases q : f g with
  | none => rw [q] at e; cases e
  | some p =>
    obtain ⟨c, g1⟩ := p
    rw [q] at e
    refine ⟨F, g, c, g1, rp, q, fun F1 H1 r1 t1 m1 => ?_⟩
    have e : (if c = true then some (true, g1) else h g1) = some (b, g') := e
    cases c with
    | true =>
      rw [if_pos rfl] at e
      refine iteT ?_
      cases e
      exact k F1 H1 r1 t1 m1
    | false =>
      rw [if_neg (by decide)] at e
      refine iteF ?_
      exact ⟨F1, g1, b, g', r1, e, fun F2 H2 r2 t2 m2 => k F2 H2 r2 (t1.two m1 t2) (m1.trans m2)⟩
theorem dt_w {a : Expr} {f : Ft} (h : DW X a f) : DT X a f := h.pt

/-! ### and, or, not, if: values -/
def eAnd (f h : Fe) : Fe := fun g => (f g).bind fun p => match truD p.1 with
  | some true => h p.2
  | some false => some p
  | none => none
def eOr (f h : Fe) : Fe := fun g => (f g).bind fun p => match truD p.1 with
  | some true => some p
  | some false => h p.2
  | none => none
def notD (d : D) : Option D := (truD d).map fun b => .bool !b
theorem de_one {a : Expr} {op} {pos : Pos} {f : Fe} (h : DE X a f) : DE X (.BoolOp op [a] pos) f := pe_one h
theorem de_and {a b : Expr} {rest : List Expr} {pos : Pos} {f h : Fe} (ha : DE X a f) (hb : DE X (.BoolOp .And (b :: rest) pos) h) : DE X (.BoolOp .And (a :: b :: rest) pos) (eAnd f h) := peMono (pe_andT ha hb) fun s H Q ⟨F, g, d, g', rp, e, k⟩ => by
  unfold eAnd at e
  cases q : f g with
  | none => rw [q] at e; cases e
  | some p =>
    rw [q] at e
    refine ⟨F, g, p.1, p.2, rp, q, fun v F1 H1 p1 r1 t1 m1 => ?_⟩
    simp only [Option.bind_some] at e
    split at e
    · rename_i q2
      refine ⟨true, truOf (dpMono r1.fh _ _ p1) q2, ?_⟩
      rw [if_pos rfl]
      exact ⟨F1, p.2, d, g', r1, e, fun v2 F2 H2 p2 r2 t2 m2 => k v2 F2 H2 p2 r2 (t1.two m1 t2) (m1.trans m2)⟩
    · rename_i q2
      cases e
      refine ⟨false, truOf (dpMono r1.fh _ _ p1) q2, ?_⟩
      rw [if_neg (by decide)]
      exact k v F1 H1 p1 r1 t1 m1
    · cases e
theorem de_or {a b : Expr} {rest : List Expr} {pos : Pos} {f h : Fe} (ha : DE X a f) (hb : DE X (.BoolOp .Or (b :: rest) pos) h) : DE X (.BoolOp .Or (a :: b :: rest) pos) (eOr f h) := peMono (pe_orT ha hb) fun s H Q ⟨F, g, d, g', rp, e, k⟩ => by
  unfold eOr at e
  cases q : f g with
  | none => rw [q] at e; cases e
  | some p =>
    rw [q] at e
    refine ⟨F, g, p.1, p.2, rp, q, fun v F1 H1 p1 r1 t1 m1 => ?_⟩
    simp only [Option.bind_some] at e
    split at e
    · rename_i q2
      cases e
      refine ⟨true, truOf (dpMono r1.fh _ _ p1) q2, ?_⟩
      rw [if_pos rfl]
      exact k v F1 H1 p1 r1 t1 m1
    · rename_i q2
      refine ⟨false, truOf (dpMono r1.fh _ _ p1) q2, ?_⟩
      rw [if_neg (by decide)]
      exact ⟨F1, p.2, d, g', r1, e, fun v2 F2 H2 p2 r2 t2 m2 => k v2 F2 H2 p2 r2 (t1.two m1 t2) (m1.trans m2)⟩
    · cases e
theorem de_not {a : Expr} {pos : Pos} {f : Fe} (ha : DB X a f) : DE X (.UnaryOp .Not a pos) (eUn notD f) := peMono (pe_notT ha) fun s H Q h => by
  obtain ⟨F, g, d, g', rp, e, k⟩ := h
  obtain ⟨d1, e1, e2⟩ := eUn_inv e
  refine ⟨F, g, d1, g', rp, e1, fun v1 F1 H1 p1 r1 t1 m1 => ?_⟩
  unfold notD at e2
  cases q : truD d1 with
  | none => rw [q] at e2; cases e2
  | some b =>
    rw [q] at e2; cases e2
    exact ⟨b, truOf (p1.dp r1.fh) q, k _ F1 H1 (.bl _) r1 t1 m1⟩
def eIf (t : Ft) (f h : Fe) : Fe := fun g => (t g).bind fun p => if p.1 = true then f p.2 else h p.2
theorem de_if {c a b : Expr} {pos : Pos} {t : Ft} {f h : Fe} (hc : DT X c t) (ha : DE X a f) (hb : DE X b h) : DE X (.IfExp c a b pos) (eIf t f h) := peMono (pe_ifExp hc ha hb) fun s H Q ⟨F, g, d, g', rp, e, k⟩ => by
  unfold eIf at e
  cases q : t g with
  | none => rw [q] at e; cases e
  | some p =>
    obtain ⟨c, g1⟩ := p
    rw [q] at e
    refine ⟨F, g, c, g1, rp, q, fun F1 H1 r1 t1 m1 => ?_⟩
    have e : (if c = true then f g1 else h g1) = some (d, g') := e
    cases c with
    | true =>
      rw [if_pos rfl] at e
      refine iteT ?_
      exact ⟨F1, g1, d, g', r1, e, fun v F2 H2 p2 r2 t2 m2 => k v F2 H2 p2 r2 (t1.two m1 t2) (m1.trans m2)⟩
    | false =>
      rw [if_neg (by decide)] at e
      refine iteF ?_
      exact ⟨F1, g1, d, g', r1, e, fun v F2 H2 p2 r2 t2 m2 => k v F2 H2 p2 r2 (t1.two m1 t2) (m1.trans m2)⟩
end Dl
set_option Elab.async false
set_option linter.all false
set_option maxRecDepth 100000
namespace Dl
open PySem PySem.Spec PyProof.Rows L2
variable {X : Cx}

/-! ### argument lists -/
def aNil : Fa := fun g => some ([], g)
def aCons (f : Fe) (fs : Fa) : Fa := fun g => (f g).bind fun p => (fs p.2).map fun q => (p.1 :: q.1, q.2)
theorem aCons_inv {f : Fe} {fs : Fa} {g g' : G} {ds : List D} (h : aCons f fs g = some (ds, g')) : ∃ d g1 es, f g = some (d, g1) ∧ fs g1 = some (es, g') ∧ ds = d :: es := by
  unfold aCons at h
  cases q : f g with
  | none => rw [q] at h; cases h
  | some p =>
    rw [q] at h
    have h : (fs p.2).map _ = some (ds, g') := h
    cases q2 : fs p.2 with
    | none => rw [q2] at h; cases h
    | some p2 =>
      rw [q2] at h; cases h
      exact ⟨p.1, p.2, p2.1, rfl, q2, rfl⟩
theorem da_nil : DA X [] aNil := paMono pa_nil fun s H Q ⟨F, g, ds, g', rp, e, k⟩ => by
  cases e
  exact k [] F H .nil rp Stp.refl Mo.refl
theorem da_cons {a : Expr} {es : List Expr} {f : Fe} {fs : Fa} (ha : DE X a f) (hr : DA X es fs) (hs : starEach (a :: es) X.env = (false, eval a X.env) :: starEach es X.env := by rfl) : DA X (a :: es) (aCons f fs) := paMono (pa_cons ha hr hs) fun s H Q ⟨F, g, ds, g', rp, e, k⟩ => by
  obtain ⟨d, g1, es', e1, e2, rfl⟩ := aCons_inv e
  exact ⟨F, g, d, g1, rp, e1, fun v F1 H1 p1 r1 t1 m1 => ⟨F1, g1, es', g', r1, e2, fun vs F2 H2 p2 r2 t2 m2 => k (v :: vs) F2 H2 (.cons (dpMono t2.fs _ _ p1) p2) r2 (t1.two m1 t2) (m1.trans m2)⟩⟩
def LenA (f : Fa) (n : Nat) : Prop := ∀ g ds g', f g = some (ds, g') → ds.length = n
theorem lenNil : LenA aNil 0 := fun g ds g' e => by cases e; rfl
theorem lenCons {f : Fe} {fs : Fa} {n : Nat} (h : LenA fs n) : LenA (aCons f fs) (n + 1) := fun g ds g' e => by
  obtain ⟨d, g1, es', e1, e2, rfl⟩ := aCons_inv e
  simp [h _ _ _ e2]

/-! ### displays -/
def eTup (f : Fa) : Fe := fun g => (f g).map fun p => (.tuple p.1, p.2)
theorem eTup_inv {f : Fa} {g g' : G} {d : D} (h : eTup f g = some (d, g')) : ∃ ds, f g = some (ds, g') ∧ d = .tuple ds := by
  unfold eTup at h
  cases q : f g with
  | none => rw [q] at h; cases h
  | some p => rw [q] at h; cases h; exact ⟨_, rfl, rfl⟩
theorem sl1000 {n : Nat} (h : n ≤ 1000) : n ≤ sizeLine := Nat.le_of_lt (small1000 h)
theorem dpUpd {K : PySem.W.Frag} {F : Hp} {p : Addr} {o : HO} {vs : List V} {ds : List D} (hp : DpAll K F vs ds) (np : F p = none) : DpAll K (upd F p o) vs ds := dpMonos (fun b u e => by rw [upd_ne (ne_of_none e np)]; exact e) _ _ hp
theorem nF {F H : Hp} {p : Addr} (fh : Same F H) (np : H p = none) : F p = none := fh.free np
/-- a new tuple -/
theorem newTup {K : PySem.W.Frag} {F H : Hp} {vs : List V} {ds : List D} {Q : VK} (fh : Same F H) (hp : DpAll K F vs ds) (k : ∀ v F' H', Dp K F' v (.tuple ds) → Same F' H' → Stp Non F H F' H' → Q v H') : ∀ p, H p = none → Q (.ref p) (upd H p (.tup vs)) := fun p np =>
  k (.ref p) (upd F p (.tup vs)) _ (.tup (SqT.of upd_same) (dpUpd hp (nF fh np))) (sameLaid fh np) (Stp.laid np fh)
theorem de_tup {es : List Expr} {k : Nat} {pos : Pos} {f : Fa} {n : Nat} (h : DA X es f) (hl : LenA f n) (hn : n ≤ 1000 := by decide) : DE X (.Tuple es k pos) (eTup f) := peMono (pe_tup h) fun s H Q ⟨F, g, d, g', rp, e, k⟩ => by
  obtain ⟨ds, e1, rfl⟩ := eTup_inv e
  refine ⟨F, g, ds, g', rp, e1, fun vs F1 H1 p1 r1 t1 m1 => ⟨by rw [dpLen p1, hl _ _ _ e1]; exact sl1000 hn, ?_⟩⟩
  exact newTup r1.fh p1 fun v F' H' hv fh st => k v F' H' hv (r1.stepN st fh) (t1.andN st) m1
/-- a list of the frame's own -/
def vLst (f : Fa) : Fv := fun g => (f g).map fun p => (.own none p.1, p.2)
theorem vLst_inv {f : Fa} {g g' : G} {x : Sl} (h : vLst f g = some (x, g')) : ∃ ds, f g = some (ds, g') ∧ x = .own none ds := by
  unfold vLst at h
  cases q : f g with
  | none => rw [q] at h; cases h
  | some p => rw [q] at h; cases h; exact ⟨_, rfl, rfl⟩
/-- a new list: k is what tV asks -/
theorem newLst {K : PySem.W.Frag} {F H F0 H0 : Hp} {g0 g : G} {s : Sg} {vs : List V} {ds : List D} {Q : VK} (r : Rep K F g s H) (hp : DpAll K F vs ds) (t0 : Stp (OwnAt g0 s) F0 H0 F H) (m : Mo g0 g)
    (k : ∀ v F' H', RepS K F' H' (.own none ds) (some v) → (∀ t es, (Sl.own none ds) = .own t es → t = none ∧ ∃ a, v = .ref a ∧ H0 a = none) → Rep K F' g s H' → Stp (OwnAt g0 s) F0 H0 F' H' → Mo g0 g → Q v H') : ∀ p, H p = none → Q (.ref p) (upd H p (.lst vs)) := fun p np => by
  refine k (.ref p) F _ ⟨p, vs, rfl, nF r.fh np, upd_same, hp, fun b e => nomatch e⟩ (fun t es e => ?_) (r.stepN (Stp.made np) (sameMade r.fh np)) (t0.andN (Stp.made np)) m
  cases e
  refine ⟨rfl, p, rfl, ?_⟩
  cases q : H0 p with
  | none => rfl
  | some o => exact absurd np (t0.dom p (by rw [q]; simp))
theorem dv_lst {es : List Expr} {pos : Pos} {f : Fa} {n : Nat} (h : DA X es f) (hl : LenA f n) (hn : n ≤ 1000 := by decide) : DV X (.List es pos) (vLst f) := peMono (pe_lst h) fun s H Q ⟨F, g, d, g', rp, e, k⟩ => by
  obtain ⟨ds, e1, rfl⟩ := vLst_inv e
  refine ⟨F, g, ds, g', rp, e1, fun vs F1 H1 p1 r1 t1 m1 => ⟨by rw [dpLen p1, hl _ _ _ e1]; exact sl1000 hn, ?_⟩⟩
  exact newLst r1 p1 t1 m1 k

/-! ### places -/
def atD : D → D → Option D
  | .list ds, .int i => atI ds i
  | .tuple ds, .int i => atI ds i
  | .str x, .int i => if x.length ≤ sizeLine then (atI x.cps.toList i).map fun c => .str ⟨#[c]⟩ else none
  | _, _ => none
theorem atIV {K : PySem.W.Frag} {H : Hp} {vs : List V} {ds : List D} {i : Int} {d : D} (hp : DpAll K H vs ds) (h : atI ds i = some d) : ∃ v, atI vs i = some v ∧ Dp K H v d := by
  unfold atI at h ⊢
  rw [dpLen hp]
  cases q : ixN ds.length i with
  | none => rw [q] at h; cases h
  | some j =>
    rw [q] at h
    exact dpAt hp h
theorem ok_at : BinOk X.K (rIx X.K) atD := fun x y d1 d2 d F H Q fh p1 p2 e k => by
  unfold atD at e
  split at e
  · rename_i ds i
    cases p1 with
    | lst hs ha =>
      obtain ⟨v, q, hv⟩ := atIV ha e
      exact .inl ⟨_, _, i, v, rfl, intOf p2, fh.seq hs, q, fin0 fh hv k⟩
  · rename_i ds i
    cases p1 with
    | tup hs ha =>
      obtain ⟨v, q, hv⟩ := atIV ha e
      exact .inr (.inl ⟨_, _, i, v, rfl, intOf p2, Same.tupS fh hs, q, fin0 fh hv k⟩)
  · rename_i z i
    split at e
    · rename_i hz
      cases q : atI z.cps.toList i with
      | none => rw [q] at e; cases e
      | some c =>
        rw [q] at e; cases e
        cases p1
        exact .inr (.inr ⟨z, i, c, rfl, intOf p2, hz, q, fin0 fh (.str _) k⟩)
    · cases e
  · cases e
theorem de_ix {a b : Expr} {pos : Pos} {fa fb : Fe} (ha : DE X a fa) (hb : DE X b fb) (hs : PlainIx b := by exact fun _ _ => rfl) : DE X (.Subscript a b pos) (eBin atD fa fb) := peMono (pe_ix ix_seq ha hb hs) fun _ _ _ h => tD_bin ok_at h
/-- of a name: its list is not frozen -/
def slD : Option Sl → Option D
  | some (.v d) => some d
  | some (.own _ ds) => some (.list ds)
  | _ => none
def eIxV (i : Nat) (fb : Fe) : Fe := fun g => (slD (g[i]?)).bind fun _ => (fb g).bind fun q => (slD (q.2[i]?)).bind fun b => (atD b q.1).map fun d => (d, q.2)
theorem slGet {K : PySem.W.Frag} {F H : Hp} {g : G} {s : Sg} {i : Nat} {d : D} (r : Rep K F g s H) (h : slD g[i]? = some d) : ∃ x v, g[i]? = some x ∧ s[i]? = some (some v) ∧ RepS K F H x (some v) := by
  cases z : g[i]? with
  | none => rw [z] at h; cases h
  | some x =>
    rw [z] at h
    obtain ⟨o, ho, hx⟩ := r.get z
    cases x with
    | no => cases h
    | ex _ => cases h
    | v d0 =>
      obtain ⟨y, rfl, hy⟩ := hx
      exact ⟨_, y, rfl, ho, y, rfl, hy⟩
    | own tg ds =>
      obtain ⟨a, xs, rfl, q⟩ := hx
      exact ⟨_, .ref a, rfl, ho, a, xs, rfl, q⟩
theorem eIxV_inv {i : Nat} {fb : Fe} {g g' : G} {d : D} (h : eIxV i fb g = some (d, g')) : ∃ d0 d1 b, slD g[i]? = some d0 ∧ fb g = some (d1, g') ∧ slD g'[i]? = some b ∧ atD b d1 = some d := by
  unfold eIxV at h
  cases q0 : slD g[i]? with
  | none => rw [q0] at h; cases h
  | some d0 =>
    rw [q0] at h
    have h : (fb g).bind _ = some (d, g') := h
    cases q : fb g with
    | none => rw [q] at h; cases h
    | some p =>
      obtain ⟨d1, g1⟩ := p
      rw [q] at h
      have h : (slD g1[i]?).bind _ = some (d, g') := h
      cases q2 : slD g1[i]? with
      | none => rw [q2] at h; cases h
      | some b0 =>
        rw [q2] at h
        have h : (atD b0 d1).map _ = some (d, g') := h
        cases q3 : atD b0 d1 with
        | none => rw [q3] at h; cases h
        | some d3 =>
          rw [q3] at h; cases h
          exact ⟨d0, d1, b0, rfl, rfl, q2, q3⟩
theorem de_ixV (i : Nat) {b : Expr} {pos pos' : Pos} {x : Str} {fb : Fe} (hb : DE X b fb) (hN : X.N[i]? = some x := by rfl) (hv : Vis X.env.scope x := by first | exact Or.inl rfl | exact Or.inr (Or.inl rfl) | exact Or.inr (Or.inr rfl)) (hd : (x == ("__debug__" : Str)) = false := by decide)
    (hcd : (x == ("__classdict__" : Str)) = false := by decide) (hs : PlainIx b := by exact fun _ _ => rfl) : DE X (.Subscript (.Name x pos') b pos) (eIxV i fb) := peMono (pe_ix ix_seq (pe_var hN hv hd hcd) hb hs) fun s H Q ⟨F, g, d, g', rp, e, k⟩ => by
  obtain ⟨d0, d1, b0, q0, q1, q2, q3⟩ := eIxV_inv e
  obtain ⟨_, v, _, hv, _⟩ := slGet rp q0
  refine ⟨v, hv, F, g, d1, g', rp, q1, fun v1 F1 H1 p1 r1 t1 m1 => ?_⟩
  obtain ⟨x0, v0, hx0, hv0, hx⟩ := slGet r1 q2
  rw [hv] at hv0; cases hv0
  rw [hx0] at q2
  cases x0 with
  | no => cases q2
  | ex _ => cases q2
  | v d0 =>
    cases q2
    obtain ⟨y, ey, hy⟩ := hx
    cases ey
    exact ok_at v v1 _ d1 d F1 H1 Q r1.fh hy p1 q3 fun v F3 H3 p3 fh t3 => k v F3 H3 p3 (r1.stepN t3 fh) (t1.andN t3) m1
  | own tg ds =>
    cases q2
    obtain ⟨a, xs, ey, fa, ha, hy, _⟩ := hx
    cases ey
    cases p1 with
    | int j =>
      obtain ⟨w, qw, hw⟩ := atIV hy (show atI ds j = some d from q3)
      exact .inl ⟨a, xs, j, w, rfl, rfl, SqL.of ha, qw, k w F1 H1 hw r1 t1 m1⟩
    | _ => cases q3

/-! ### slices -/
abbrev Fo := G → Option (Option Int × G)
def tO (K : PySem.W.Frag) (f : Fo) : TO := fun s H Q => ∃ F g b g', Rep K F g s H ∧ f g = some (b, g') ∧
  ∀ F' H', Rep K F' g' s H' → Stp (OwnAt g s) F H F' H' → Mo g g' → Q b H'
def DO (X : Cx) (e : Option Expr) (f : Fo) : Prop := PO X e (tO X.K f)
def oNone : Fo := fun g => some (none, g)
def oSome (f : Fe) : Fo := fun g => match f g with
  | some (.int i, g') => some (some i, g')
  | _ => none
theorem poMono {e : Option Expr} {t t' : TO} (h : PO X e t) (m : ∀ s H Q, t' s H Q → t s H Q) : PO X e t' := ⟨fun pins st s H Q I w => h.run pins st s H Q I (m s H Q w)⟩
theorem do_none : DO X none oNone := poMono po_none fun s H Q ⟨F, g, d, g', rp, e, k⟩ => by
  cases e
  exact k F H rp Stp.refl Mo.refl
theorem do_some {a : Expr} {f : Fe} (h : DE X a f) : DO X (some a) (oSome f) := poMono (po_some h) fun s H Q ⟨F, g, d, g', rp, e, k⟩ => by
  unfold oSome at e
  split at e
  · rename_i i g1 q
    cases e
    exact ⟨F, g, _, _, rp, q, fun v F1 H1 p1 r1 t1 m1 => ⟨i, intOf p1, k F1 H1 r1 t1 m1⟩⟩
  · cases e
/-- the items of xs[lo:hi] -/
def cutL {α : Type} (xs : List α) (lo hi : Option Int) : List α := (xs.drop (HT.sIx xs.length 0 lo)).take (HT.sIx xs.length xs.length hi - HT.sIx xs.length 0 lo)
theorem dpCut {K : PySem.W.Frag} {H : Hp} {vs : List V} {ds : List D} {lo hi : Option Int} (h : DpAll K H vs ds) : DpAll K H (cutV vs lo hi) (cutL ds lo hi) := by
  unfold cutV cutL
  rw [dpLen h]
  exact dpTake _ (dpDrop _ h)
def eSl (fa : Fe) (fl fh : Fo) : Fe := fun g => (fa g).bind fun p => (fl p.2).bind fun l => (fh l.2).bind fun h => match p.1 with
  | .tuple ds => some (.tuple (cutL ds l.1 h.1), h.2)
  | _ => none
theorem cut_whole {α : Type} {xs : List α} {lo hi : Option Int} (h1 : HT.sIx xs.length 0 lo = 0) (h2 : HT.sIx xs.length xs.length hi = xs.length) : cutL xs lo hi = xs := by
  unfold cutL
  rw [h1, h2]
  simp
theorem de_slT {a : Expr} {lo hi : Option Expr} {p2 pos : Pos} {fa : Fe} {fl fh : Fo} (ha : DE X a fa) (hl : DO X lo fl) (hu : DO X hi fh) : DE X (.Subscript a (.Slice lo hi none p2) pos) (eSl fa fl fh) := peMono (pe_slice sl_tupA ha hl hu) fun s H Q ⟨F, g, d, g', rp, e, k⟩ => by
  unfold eSl at e
  cases q : fa g with
  | none => rw [q] at e; cases e
  | some p =>
    rw [q] at e
    have e : (fl p.2).bind _ = some (d, g') := e
    cases q2 : fl p.2 with
    | none => rw [q2] at e; cases e
    | some l =>
      rw [q2] at e
      have e : (fh l.2).bind _ = some (d, g') := e
      cases q3 : fh l.2 with
      | none => rw [q3] at e; cases e
      | some h =>
        rw [q3] at e
        obtain ⟨d1, g1⟩ := p
        obtain ⟨l, g2⟩ := l
        obtain ⟨h, g3⟩ := h
        cases d1 with
        | tuple ds =>
          cases e
          refine ⟨F, g, _, g1, rp, q, fun v F1 H1 p1 r1 t1 m1 => ⟨F1, g1, l, g2, r1, q2, fun F2 H2 r2 t2 m2 => ⟨F2, g2, h, g3, r2, q3, fun F3 H3 r3 t3 m3 => ?_⟩⟩⟩
          have p3 := dpMono (t2.fs.trans t3.fs) _ _ p1
          have tt := (t1.two m1 t2).two (m1.trans m2) t3
          have mm := (m1.trans m2).trans m3
          cases p3 with
          | tup hs hp =>
            refine ⟨_, _, rfl, Same.tupS r3.fh hs, fun hw => ?_, fun _ => newTup r3.fh (dpCut hp) fun v F' H' hv fh st => k v F' H' hv (r3.stepN st fh) (tt.andN st) mm⟩
            rw [dpLen hp] at hw
            exact k _ F3 H3 (.tup hs (by rw [cut_whole hw.1 hw.2]; exact hp)) r3 tt mm
        | _ => cases e
def vSl (fa : Fe) (fl fh : Fo) : Fv := fun g => (fa g).bind fun p => (fl p.2).bind fun l => (fh l.2).bind fun h => match p.1 with
  | .list ds => some (.own none (cutL ds l.1 h.1), h.2)
  | _ => none
theorem dv_slL {a : Expr} {lo hi : Option Expr} {p2 pos : Pos} {fa : Fe} {fl fh : Fo} (ha : DE X a fa) (hl : DO X lo fl) (hu : DO X hi fh) : DV X (.Subscript a (.Slice lo hi none p2) pos) (vSl fa fl fh) := peMono (pe_slice sl_list ha hl hu) fun s H Q ⟨F, g, d, g', rp, e, k⟩ => by
  unfold vSl at e
  cases q : fa g with
  | none => rw [q] at e; cases e
  | some p =>
    rw [q] at e
    have e : (fl p.2).bind _ = some (d, g') := e
    cases q2 : fl p.2 with
    | none => rw [q2] at e; cases e
    | some l =>
      rw [q2] at e
      have e : (fh l.2).bind _ = some (d, g') := e
      cases q3 : fh l.2 with
      | none => rw [q3] at e; cases e
      | some h =>
        rw [q3] at e
        obtain ⟨d1, g1⟩ := p
        obtain ⟨l, g2⟩ := l
        obtain ⟨h, g3⟩ := h
        cases d1 with
        | list ds =>
          cases e
          refine ⟨F, g, _, g1, rp, q, fun v F1 H1 p1 r1 t1 m1 => ⟨F1, g1, l, g2, r1, q2, fun F2 H2 r2 t2 m2 => ⟨F2, g2, h, g3, r2, q3, fun F3 H3 r3 t3 m3 => ?_⟩⟩⟩
          have p3 := dpMono (t2.fs.trans t3.fs) _ _ p1
          have tt := (t1.two m1 t2).two (m1.trans m2) t3
          have mm := (m1.trans m2).trans m3
          cases p3 with
          | lst hs hp => exact ⟨_, _, rfl, r3.fh.seq hs, newLst r3 (dpCut hp) tt mm k⟩
        | _ => cases e

/-! ### + and * of sequences -/
def catTD : D → D → Option D
  | .tuple xs, .tuple ys => if xs.length + ys.length ≤ 1000000 then some (.tuple (xs ++ ys)) else none
  | _, _ => none
theorem million : (1000000 : Nat) ≤ sizeLine := by rw [sizeLine_eq]; decide
theorem dpNil {K : PySem.W.Frag} {F : Hp} {xs : List V} {ds : List D} (h : DpAll K F xs ds) (e : xs = []) : ds = [] := by
  subst e; cases h; rfl
theorem ok_catT : BinOk X.K (rCatA X.K) catTD := fun x y d1 d2 d F H Q fh p1 p2 e k => by
  unfold catTD at e
  split at e
  · rename_i xs ys
    split at e
    · rename_i hz
      cases e
      cases p1 with
      | tup hs ha =>
        cases p2 with
        | tup hs2 hb =>
          refine ⟨_, _, _, _, rfl, rfl, Same.tupS fh hs, Same.tupS fh hs2, by rw [dpLen ha, dpLen hb]; exact Nat.le_trans hz million, fun z => ?_, fun _ z => ?_, fun _ _ => newTup fh (dpApp ha hb) k⟩
          · have z1 := dpNil ha z
            subst z1
            exact k _ F H (.tup hs2 hb) fh Stp.refl
          · have z1 := dpNil hb z
            subst z1
            rw [List.append_nil] at k
            exact k _ F H (.tup hs ha) fh Stp.refl
    · cases e
  · cases e
theorem de_catT {a b : Expr} {pos : Pos} {fa fb : Fe} (ha : DE X a fa) (hb : DE X b fb) : DE X (.BinOp a .Add b pos) (eBin catTD fa fb) := de_op op_catA ok_catT ha hb
def catSD : D → D → Option D
  | .str xs, .str ys => if xs.length + ys.length ≤ sizeLine then some (.str (xs ++ ys)) else none
  | _, _ => none
theorem ok_catS : BinOk X.K (fun x y H Q => ∃ i j, x = .str i ∧ y = .str j ∧ i.length + j.length ≤ sizeLine ∧ Q (.str (i ++ j)) H) catSD := fun x y d1 d2 d F H Q fh p1 p2 e k => by
  unfold catSD at e
  split at e
  · rename_i xs ys
    split at e
    · rename_i hz
      cases e
      cases p1; cases p2
      exact ⟨_, _, rfl, rfl, hz, fin0 fh (.str _) k⟩
    · cases e
  · cases e
theorem de_catS {a b : Expr} {pos : Pos} {fa fb : Fe} (ha : DE X a fa) (hb : DE X b fb) : DE X (.BinOp a .Add b pos) (eBin catSD fa fb) := de_op op_add_str ok_catS ha hb
/-- two new lists one behind the other -/
def vCat (fa fb : Fv) : Fv := fun g => (fa g).bind fun p => (fb p.2).bind fun q => match p.1, q.1 with
  | .own none xs, .own none ys => if xs.length + ys.length ≤ 1000000 then some (.own none (xs ++ ys), q.2) else none
  | _, _ => none
theorem dv_cat {a b : Expr} {pos : Pos} {fa fb : Fv} (ha : DV X a fa) (hb : DV X b fb) : DV X (.BinOp a .Add b pos) (vCat fa fb) := peMono (pe_op op_cat ha hb) fun s H Q ⟨F, g, d, g', rp, e, k⟩ => by
  unfold vCat at e
  cases q : fa g with
  | none => rw [q] at e; cases e
  | some p =>
    rw [q] at e
    have e : (fb p.2).bind _ = some (d, g') := e
    cases q2 : fb p.2 with
    | none => rw [q2] at e; cases e
    | some l =>
      rw [q2] at e
      obtain ⟨d1, g1⟩ := p
      obtain ⟨d2, g2⟩ := l
      simp only [Option.bind_some] at e
      split at e
      · rename_i xs ys
        split at e
        · rename_i hz
          cases e
          refine ⟨F, g, _, g1, rp, q, fun v F1 H1 p1 n1 r1 t1 m1 => ⟨F1, g1, _, _, r1, q2, fun v2 F2 H2 p2 n2 r2 t2 m2 => ?_⟩⟩
          obtain ⟨a1, vs1, e1, f1, h1, dp1, _⟩ := p1
          obtain ⟨a2, vs2, e2, f2, h2, dp2, _⟩ := p2
          cases e1; cases e2
          obtain ⟨_, _, ea, na⟩ := n1 _ _ rfl
          cases ea
          have h1' : H2 a1 = some (.lst vs1) := t2.keep _ _ h1 fun z => by
            obtain ⟨i, tg, es, w1, w2⟩ := m1.own z
            obtain ⟨o, ho, a3, ys3, eo, _, ha3, _⟩ := rp.get w1
            rw [w2] at ho; cases ho; cases eo
            rw [na] at ha3; cases ha3
          exact ⟨a1, a2, vs1, vs2, rfl, rfl, h1', h2, by rw [dpLen dp1, dpLen dp2]; exact Nat.le_trans hz million, newLst r2 (dpApp (dpMonos t2.fs _ _ dp1) dp2) (t1.two m1 t2) (m1.trans m2) k⟩
        · cases e
      · cases e
theorem dpRep {K : PySem.W.Frag} {H : Hp} {vs : List V} {ds : List D} (h : DpAll K H vs ds) : ∀ n : Nat, DpAll K H (List.replicate n vs).flatten (List.replicate n ds).flatten
  | 0 => .nil
  | n + 1 => by
    rw [List.replicate_succ, List.replicate_succ, List.flatten_cons, List.flatten_cons]
    exact dpApp h (dpRep h n)
/-- [..] * n -/
def vRep (fa : Fv) (fb : Fe) : Fv := fun g => (fa g).bind fun p => (fb p.2).bind fun q => match p.1, q.1 with
  | .own none xs, .int k => if -1000000 ≤ k ∧ k ≤ 1000000 ∧ xs.length * k.toNat ≤ 1000000 then some (.own none (List.replicate k.toNat xs).flatten, q.2) else none
  | _, _ => none
theorem dv_rep {a b : Expr} {pos : Pos} {fa : Fv} {fb : Fe} (ha : DV X a fa) (hb : DE X b fb) : DV X (.BinOp a .Mult b pos) (vRep fa fb) := peMono (pe_op op_rep ha hb) fun s H Q ⟨F, g, d, g', rp, e, k⟩ => by
  unfold vRep at e
  cases q : fa g with
  | none => rw [q] at e; cases e
  | some p =>
    rw [q] at e
    have e : (fb p.2).bind _ = some (d, g') := e
    cases q2 : fb p.2 with
    | none => rw [q2] at e; cases e
    | some l =>
      rw [q2] at e
      obtain ⟨d1, g1⟩ := p
      obtain ⟨d2, g2⟩ := l
      simp only [Option.bind_some] at e
      split at e
      · rename_i xs n
        split at e
        · rename_i hz
          cases e
          refine ⟨F, g, _, g1, rp, q, fun v F1 H1 p1 n1 r1 t1 m1 => ⟨F1, g1, _, _, r1, q2, fun v2 F2 H2 p2 r2 t2 m2 => ?_⟩⟩
          obtain ⟨a1, vs1, e1, f1, h1, dp1, _⟩ := p1
          cases e1
          obtain ⟨_, _, ea, na⟩ := n1 _ _ rfl
          cases ea
          have h1' : H2 a1 = some (.lst vs1) := t2.keep _ _ h1 fun z => by
            obtain ⟨i, tg, es, w1, w2⟩ := m1.own z
            obtain ⟨o, ho, a3, ys3, eo, _, ha3, _⟩ := rp.get w1
            rw [w2] at ho; cases ho; cases eo
            rw [na] at ha3; cases ha3
          exact ⟨a1, _, vs1, rfl, intOf p2, h1', by omega, by omega, by rw [dpLen dp1]; exact Nat.le_trans hz.2.2 million, newLst r2 (dpRep (dpMonos t2.fs _ _ dp1) _) (t1.two m1 t2) (m1.trans m2) k⟩
        · cases e
      · cases e
end Dl
set_option Elab.async false
set_option linter.all false
set_option maxRecDepth 100000
namespace Dl
open PySem PySem.Spec PyProof.Rows L2
variable {X : Cx}

/-! ### from one state to a later one -/
structure Tr (K : PySem.W.Frag) (F : Hp) (g : G) (s : Sg) (H : Hp) (F' : Hp) (g' : G) (s' : Sg) (H' : Hp) : Prop where
  rep : Rep K F' g' s' H'
  stp : Stp (OwnAt g s) F H F' H'
  own : ∀ b, OwnAt g' s' b → OwnAt g s b ∨ H b = none
section
variable {K : PySem.W.Frag} {F H F1 H1 F2 H2 F3 H3 : Hp} {g g1 g2 g3 : G} {s s1 s2 s3 : Sg}
theorem Tr.refl (r : Rep K F g s H) : Tr K F g s H F g s H := ⟨r, Stp.refl, fun _ h => .inl h⟩
theorem Tr.of (r : Rep K F1 g1 s H1) (t : Stp (OwnAt g s) F H F1 H1) (m : Mo g g1) : Tr K F g s H F1 g1 s H1 := ⟨r, t, fun _ h => .inl (m.own h)⟩
theorem Tr.trans (a : Tr K F g s H F1 g1 s1 H1) (b : Tr K F1 g1 s1 H1 F2 g2 s2 H2) : Tr K F g s H F2 g2 s2 H2 := ⟨b.rep, a.stp.trans b.stp a.own, fun x h => by
  rcases b.own x h with q | q
  · exact a.own x q
  · right
    cases z : H x with
    | none => rfl
    | some o => exact absurd q (a.stp.dom x (by rw [z]; simp))⟩
theorem Tr.free (a : Tr K F g s H F1 g1 s1 H1) {b : Addr} (h : H1 b = none) : H b = none := by
  cases z : H b with
  | none => rfl
  | some o => exact absurd h (a.stp.dom b (by rw [z]; simp))
theorem Rep.ownSome (r : Rep K F g s H) {b : Addr} (h : OwnAt g s b) : ∃ xs, H b = some (.lst xs) ∧ F b = none := by
  obtain ⟨i, t, ds, e, q⟩ := h
  obtain ⟨o, ho, a, xs, eo, fa, ha, _⟩ := r.get e
  rw [q] at ho; cases ho; cases eo
  exact ⟨xs, ha, fa⟩
/-- a slot is set to data -/
theorem Rep.setV (r : Rep K F g s H) (i : Nat) {v : V} {d : D} (h : Dp K F v d) : Tr K F g s H F (g.set i (.v d)) (s.set i (some v)) H :=
  ⟨r.put i _ _ ⟨v, rfl, h⟩ (fun _ _ _ e => nomatch e), Stp.refl, fun b hb => by
    rcases ownIn hb r.len with q | ⟨_, _, e, _⟩
    · exact .inl q
    · cases e⟩
/-- a slot is set to a new list -/
theorem Rep.setO (r : Rep K F g s H) (i : Nat) {a : Addr} {xs : List V} {ds : List D} (fa : F a = none) (ha : H a = some (.lst xs)) (h : DpAll K F xs ds) (n : ¬ OwnAt g s a) : Rep K F (g.set i (.own none ds)) (s.set i (some (.ref a))) H :=
  r.put i _ _ ⟨a, xs, rfl, fa, ha, h, fun b e => nomatch e⟩ (fun _ _ b _ e => by cases e; exact n)
/-- a list of the frame's own is changed -/
theorem Rep.turn (r : Rep K F g s H) {i : Nat} {t : Option Addr} {ds es : List D} {a : Addr} {ys : List V} (hg : g[i]? = some (.own t ds)) (hs : s[i]? = some (some (.ref a))) (h : DpAll K F ys es) :
    Tr K F g s H F (g.set i (.own t es)) s (upd H a (.lst ys)) := by
  obtain ⟨o, ho, a', xs, eo, fa, ha, hp, ht⟩ := r.get hg
  rw [hs] at ho; cases ho; cases eo
  have hi : i < g.length := (List.getElem?_eq_some_iff.mp hg).1
  have fh : Same F (upd H a (.lst ys)) := fun b u e => by
    rw [upd_ne (ne_of_none e fa)]; exact r.fh b u e
  have t1 : Stp (fun b => b = a) F H F (upd H a (.lst ys)) := ⟨.refl _, fun b o e n => by rw [upd_ne n]; exact e, fun b e e' => absurd e e', fun b e => by
    by_cases z : b = a
    · rw [z, upd_same]; simp
    · rw [upd_ne z]; exact e⟩
  have r0 : Rep K F (g.set i .no) s H := by
    have := r.put i .no (some (.ref a)) trivial (fun _ _ _ e => nomatch e)
    rwa [setSelf hs] at this
  have n0 : ¬ OwnAt (g.set i .no) s a := fun ⟨j, tg, es, e1, e2⟩ => by
    by_cases z : i = j
    · subst z; rw [List.getElem?_set_self hi] at e1; cases e1
    · rw [List.getElem?_set_ne z] at e1
      exact z (r.uq i j a t tg ds es hg e1 hs e2)
  have r1 : Rep K F (g.set i .no) s (upd H a (.lst ys)) := r0.step t1 (fun b hb z => n0 (by rw [← z]; exact hb)) fh
  have r2 : Rep K F (g.set i (.own t es)) s (upd H a (.lst ys)) := by
    have := r1.put i (.own t es) (some (.ref a)) ⟨a, ys, rfl, fa, upd_same, h, ht⟩ (fun _ _ b _ e => by cases e; exact n0)
    rwa [setSelf hs, List.set_set] at this
  refine ⟨r2, t1.weak fun b z => by rw [z]; exact ⟨i, t, ds, hg, hs⟩, fun b hb => .inl ?_⟩
  have e := setSelf hs
  rw [← e] at hb
  rcases ownIn hb r.len with q | ⟨_, _, _, e2⟩
  · exact q
  · cases e2; exact ⟨i, t, ds, hg, hs⟩
end

/-! ### statements -/
inductive Out where
  | nx (g : G) | bk (g : G) | ct (g : G) | ret (x : Sl) (g : G)
abbrev Fs := G → Option Out
/-- what is known of a value that a def hands back -/
def RetOk (H : Hp) (g : G) (s : Sg) (g' : G) (s' : Sg) (x : Sl) (v : V) : Prop := ∀ t ds, x = .own t ds → t = none ∧ ∃ a, v = .ref a ∧ (H a = none ∨ OwnAt g s a) ∧ ¬ OwnAt g' s' a
def endS (K : PySem.W.Frag) (F : Hp) (g : G) (s : Sg) (H : Hp) (D : Ends) : Out → Prop
  | .nx g' => ∀ F' s' H', Tr K F g s H F' g' s' H' → D.nx s' H'
  | .bk g' => ∀ F' s' H', Tr K F g s H F' g' s' H' → D.bk s' H'
  | .ct g' => ∀ F' s' H', Tr K F g s H F' g' s' H' → D.ct s' H'
  | .ret x g' => ∀ v F' s' H', RepS K F' H' x (some v) → x ≠ .no → RetOk H g s g' s' x v → Tr K F g s H F' g' s' H' → D.rt v H'
def tS (K : PySem.W.Frag) (f : Fs) : TS := fun D s H => ∃ F g o, Rep K F g s H ∧ f g = some o ∧ endS K F g s H D o
def DS (X : Cx) (st : Stmt) (f : Fs) : Prop := PS X st (tS X.K f)
def DSs (X : Cx) (st : List Stmt) (f : Fs) : Prop := PSs X st (tS X.K f)
theorem RetOk.back {K : PySem.W.Frag} {F H F1 H1 : Hp} {g g1 g2 : G} {s s1 s2 : Sg} {x : Sl} {v : V} (h : RetOk H1 g1 s1 g2 s2 x v) (t : Tr K F g s H F1 g1 s1 H1) : RetOk H g s g2 s2 x v := fun tg ds e => by
  obtain ⟨e1, a, e2, q, n⟩ := h tg ds e
  refine ⟨e1, a, e2, ?_, n⟩
  rcases q with q | q
  · exact .inl (t.free q)
  · exact (t.own a q).symm.imp id id
/-- an end seen from an earlier state -/
theorem endS.back {K : PySem.W.Frag} {F H F1 H1 : Hp} {g g1 : G} {s s1 : Sg} {D : Ends} {o : Out} (t : Tr K F g s H F1 g1 s1 H1) (h : endS K F g s H D o) : endS K F1 g1 s1 H1 D o := by
  cases o with
  | nx g' => exact fun F' s' H' t' => h F' s' H' (t.trans t')
  | bk g' => exact fun F' s' H' t' => h F' s' H' (t.trans t')
  | ct g' => exact fun F' s' H' t' => h F' s' H' (t.trans t')
  | ret x g' => exact fun v F' s' H' a n b t' => h v F' s' H' a n (b.back t) (t.trans t')

def sNil : Fs := fun g => some (.nx g)
def sSeq (f h : Fs) : Fs := fun g => (f g).bind fun o => match o with
  | .nx g1 => h g1
  | o => some o
theorem dss_nil : DSs X [] sNil := pssMono pss_nil fun D s H ⟨F, g, o, r, e, k⟩ => by
  cases e
  exact k F s H (Tr.refl r)
theorem dss_cons {st : Stmt} {rest : List Stmt} {f h : Fs} (h1 : DS X st f) (h2 : DSs X rest h) : DSs X (st :: rest) (sSeq f h) := pssMono (pss_cons h1 h2) fun D s H ⟨F, g, o, r, e, k⟩ => by
  unfold sSeq at e
  cases q : f g with
  | none => rw [q] at e; cases e
  | some o1 =>
    rw [q] at e
    refine ⟨F, g, o1, r, q, ?_⟩
    cases o1 with
    | nx g1 => exact fun F1 s1 H1 t1 => ⟨F1, g1, o, t1.rep, e, k.back t1⟩
    | bk g1 => cases e; exact k
    | ct g1 => cases e; exact k
    | ret x g1 => cases e; exact k
theorem dss_one {st : Stmt} {f : Fs} (h : DS X st f) : DSs X [st] f := pss_one h
/-- code that is never come to -/
def sNo : Fs := fun _ => none
theorem ds_no {st : Stmt} : DS X st sNo := psMono ps_never fun D s H ⟨F, g, o, r, e, k⟩ => nomatch e
theorem dss_no {st : List Stmt} : DSs X st sNo := pssMono pss_never fun D s H ⟨F, g, o, r, e, k⟩ => nomatch e
theorem ds_pass {pos : Pos} : DS X (.Pass pos) sNil := psMono ps_pass fun D s H ⟨F, g, o, r, e, k⟩ => by
  cases e
  exact k F s H (Tr.refl r)
def sBk : Fs := fun g => some (.bk g)
def sCt : Fs := fun g => some (.ct g)
theorem ds_break {pos : Pos} : DS X (.Break pos) sBk := psMono ps_break fun D s H ⟨F, g, o, r, e, k⟩ => by
  cases e
  exact k F s H (Tr.refl r)
theorem ds_continue {pos : Pos} : DS X (.Continue pos) sCt := psMono ps_continue fun D s H ⟨F, g, o, r, e, k⟩ => by
  cases e
  exact k F s H (Tr.refl r)
def sIf (t : Ft) (f h : Fs) : Fs := fun g => (t g).bind fun p => if p.1 = true then f p.2 else h p.2
theorem ds_if {c : Expr} {a b : List Stmt} {pos : Pos} {t : Ft} {f h : Fs} (hc : DT X c t) (ha : DSs X a f) (hb : DSs X b h) : DS X (.If c a b pos) (sIf t f h) := psMono (ps_if hc ha hb) fun D s H ⟨F, g, o, r, e, k⟩ => by
  unfold sIf at e
  cases q : t g with
  | none => rw [q] at e; cases e
  | some p =>
    obtain ⟨c, g1⟩ := p
    rw [q] at e
    refine ⟨F, g, c, g1, r, q, fun F1 H1 r1 t1 m1 => ?_⟩
    have e : (if c = true then f g1 else h g1) = some o := e
    have tr := Tr.of r1 t1 m1
    cases c with
    | true =>
      rw [if_pos rfl] at e
      refine iteT ?_
      exact ⟨F1, g1, o, r1, e, k.back tr⟩
    | false =>
      rw [if_neg (by decide)] at e
      refine iteF ?_
      exact ⟨F1, g1, o, r1, e, k.back tr⟩
/-- e; -/
def sEx (f : Fe) : Fs := fun g => (f g).map fun p => .nx p.2
theorem ds_expr {a : Expr} {pos : Pos} {f : Fe} (h : DE X a f) (hs : swapsWith a none pos.line X.env = pure false := by rfl) : DS X (.Expr a pos) (sEx f) := psMono (ps_expr h hs) fun D s H ⟨F, g, o, r, e, k⟩ => by
  unfold sEx at e
  cases q : f g with
  | none => rw [q] at e; cases e
  | some p =>
    rw [q] at e; cases e
    exact ⟨F, g, p.1, p.2, r, q, fun v F1 H1 _ r1 t1 m1 => k F1 s H1 (Tr.of r1 t1 m1)⟩
/-- return e -/
def sRet (f : Fv) : Fs := fun g => (f g).bind fun p => match p.1 with
  | .no => none
  | .ex _ => none
  | x => some (.ret x p.2)
theorem ds_ret {a : Expr} {pos : Pos} {f : Fv} (h : DV X a f) : DS X (.Return (some a) pos) (sRet f) := psMono (ps_ret h) fun D s H ⟨F, g, o, r, e, k⟩ => by
  unfold sRet at e
  cases q : f g with
  | none => rw [q] at e; cases e
  | some p =>
    obtain ⟨x, g1⟩ := p
    rw [q] at e
    refine ⟨F, g, x, g1, r, q, fun v F1 H1 hv hn r1 t1 m1 => ?_⟩
    cases x with
    | no => cases e
    | ex _ => cases e
    | v d =>
      cases e
      exact k v F1 s H1 hv (fun z => nomatch z) (fun _ _ z => nomatch z) (Tr.of r1 t1 m1)
    | own tg ds =>
      cases e
      refine k v F1 s H1 hv (fun z => nomatch z) (fun _ _ z => ?_) (Tr.of r1 t1 m1)
      obtain ⟨e1, a, e2, na⟩ := hn _ _ z
      refine ⟨e1, a, e2, .inl na, fun w => ?_⟩
      obtain ⟨xs, hx, _⟩ := r.ownSome (m1.own w)
      rw [na] at hx; cases hx
def sRetN : Fs := fun g => some (.ret (.v .none) g)
theorem ds_retN {pos : Pos} : DS X (.Return none pos) sRetN := psMono ps_retN fun D s H ⟨F, g, o, r, e, k⟩ => by
  cases e
  exact k .non F s H ⟨_, rfl, .non⟩ (fun z => nomatch z) (fun _ _ z => nomatch z) (Tr.refl r)
/-- return name, the name's list goes to the caller -/
def sRetV (i : Nat) : Fs := fun g => match g[i]? with
  | some (.v d) => some (.ret (.v d) g)
  | some (.own none ds) => some (.ret (.own none ds) (g.set i .no))
  | _ => none
theorem ds_retV (i : Nat) {x : Str} {pos pos' : Pos} (hN : X.N[i]? = some x := by rfl) (hv : Vis X.env.scope x := by first | exact Or.inl rfl | exact Or.inr (Or.inl rfl) | exact Or.inr (Or.inr rfl)) (hd : (x == ("__debug__" : Str)) = false := by decide)
    (hcd : (x == ("__classdict__" : Str)) = false := by decide) : DS X (.Return (some (.Name x pos')) pos) (sRetV i) := psMono (ps_ret (pe_var hN hv hd hcd)) fun D s H ⟨F, g, o, r, e, k⟩ => by
  unfold sRetV at e
  split at e
  · rename_i d hg
    cases e
    obtain ⟨o, ho, v, rfl, hp⟩ := r.get hg
    exact ⟨v, ho, k v F s H ⟨v, rfl, hp⟩ (fun z => nomatch z) (fun _ _ z => nomatch z) (Tr.refl r)⟩
  · rename_i ds hg
    cases e
    obtain ⟨o, ho, a, xs, rfl, fa, ha, hp, ht⟩ := r.get hg
    have hi : i < g.length := (List.getElem?_eq_some_iff.mp hg).1
    have r0 : Rep X.K F (g.set i .no) s H := by
      have := r.put i .no (some (.ref a)) trivial (fun _ _ _ e => nomatch e)
      rwa [setSelf ho] at this
    have n0 : ¬ OwnAt (g.set i .no) s a := fun ⟨j, tg, es, e1, e2⟩ => by
      by_cases z : i = j
      · subst z; rw [List.getElem?_set_self hi] at e1; cases e1
      · rw [List.getElem?_set_ne z] at e1
        exact z (r.uq i j a none tg ds es hg e1 ho e2)
    refine ⟨_, ho, k _ F s H ⟨a, xs, rfl, fa, ha, hp, ht⟩ (fun z => nomatch z) (fun _ _ z => ?_) ⟨r0, Stp.refl, fun b hb => .inl ?_⟩⟩
    · cases z
      exact ⟨rfl, a, rfl, .inr ⟨i, none, ds, hg, ho⟩, n0⟩
    · rw [← setSelf ho] at hb
      rcases ownIn hb r.len with q | ⟨_, _, e2, _⟩
      · exact q
      · cases e2
  · cases e

/-! ### assignments -/
/-- name = e -/
def setOut (i : Nat) (x : Sl) (g : G) : Option Out := match x with
  | .v d => some (.nx (g.set i (.v d)))
  | .own none ds => some (.nx (g.set i (.own none ds)))
  | _ => none
def sSet (i : Nat) (f : Fv) : Fs := fun g => (f g).bind fun p => setOut i p.1 p.2
theorem set_end {K : PySem.W.Frag} {F H F1 H1 : Hp} {g g1 : G} {s : Sg} {x : Sl} {v : V} {i : Nat} {o : Out} {D : Ends} (r : Rep K F g s H) (r1 : Rep K F1 g1 s H1) (t1 : Stp (OwnAt g s) F H F1 H1) (m1 : Mo g g1) (hv : RepS K F1 H1 x (some v))
    (hn : ∀ t ds, x = .own t ds → t = none ∧ ∃ a, v = .ref a ∧ H a = none) (e : setOut i x g1 = some o) (k : endS K F g s H D o) : D.nx (s.set i (some v)) H1 := by
  cases x with
  | no => cases e
  | ex _ => cases e
  | v d =>
    cases e
    obtain ⟨y, ey, hp⟩ := hv
    cases ey
    exact k F1 _ H1 ((Tr.of r1 t1 m1).trans (r1.setV i hp))
  | own tg ds =>
    obtain ⟨rfl, a, rfl, na⟩ := hn _ _ rfl
    cases e
    obtain ⟨a', xs, ea, fa, ha, hp, ht⟩ := hv
    cases ea
    have n1 : ¬ OwnAt g1 s a := fun w => by
      obtain ⟨xs, hx, _⟩ := r.ownSome (m1.own w)
      rw [na] at hx; cases hx
    refine k F1 _ H1 ⟨r1.setO i fa ha hp n1, t1, fun b hb => ?_⟩
    rcases ownIn hb r1.len with q | ⟨_, _, _, e2⟩
    · exact .inl (m1.own q)
    · cases e2; exact .inr na
theorem ds_set (i : Nat) {x : Str} {a : Expr} {f : Fv} {pos pos' : Pos} (hN : X.N.Nodup) (he : DV X a f) (hi : X.N[i]? = some x := by rfl) (hx : Loc X.env.scope x := by first | exact Or.inl rfl | exact Or.inr rfl) (hs : swapsWith a (some (.Name x pos')) pos.line X.env = pure false := by rfl)
    (hf : X.fn x = true ∨ X.env.scope.names.lookup x = some .local := by first | exact .inl rfl | exact .inr rfl | assumption) :
    DS X (.Assign [.Name x pos'] a pos) (sSet i f) := psMono (ps_set hN hi hx he hs hf) fun D s H ⟨F, g, o, r, e, k⟩ => by
  unfold sSet at e
  cases q : f g with
  | none => rw [q] at e; cases e
  | some p =>
    obtain ⟨x, g1⟩ := p
    rw [q] at e
    exact ⟨F, g, x, g1, r, q, fun v F1 H1 hv hn r1 t1 m1 => set_end r r1 t1 m1 hv hn e k⟩
/-- name op= e -/
def sAug (i : Nat) (op : D → D → Option D) (f : Fe) : Fs := fun g => match g[i]? with
  | some (.v d0) => (f g).bind fun p => (op d0 p.1).map fun d => .nx (p.2.set i (.v d))
  | _ => none
def IpOk (K : PySem.W.Frag) (r : TIp) (op : D → D → Option D) : Prop := ∀ (x y : V) (d1 d2 d : D) (F H : Hp) (Q : VK), Same F H → Dp K F x d1 → Dp K F y d2 → op d1 d2 = some d →
  (∀ v F' H', Dp K F' v d → Same F' H' → Stp Non F H F' H' → Q v H') → r x y H Q
theorem ds_aug (i : Nat) {x : Str} {a : Expr} {f : Fe} {o : Operator} {op : D → D → Option D} {ti : TIp} {pos pos' : Pos} (hN : X.N.Nodup) (ho : PIp X o ti) (hr : IpOk X.K ti op) (he : DE X a f) (hi : X.N[i]? = some x := by rfl) (hx : Loc X.env.scope x := by first | exact Or.inl rfl | exact Or.inr rfl)
    (hf : X.fn x = true ∨ X.env.scope.names.lookup x = some .local := by first | exact .inl rfl | exact .inr rfl | assumption) : DS X (.AugAssign (.Name x pos') o a pos) (sAug i op f) := psMono (ps_aug hN hi hx he ho hf) fun D s H ⟨F, g, o, r, e, k⟩ => by
  unfold sAug at e
  split at e
  · rename_i d0 hg
    cases q : f g with
    | none => rw [q] at e; cases e
    | some p =>
      rw [q] at e
      have e : (op d0 p.1).map _ = some o := e
      cases q2 : op d0 p.1 with
      | none => rw [q2] at e; cases e
      | some d =>
        rw [q2] at e; cases e
        obtain ⟨o, hs, v, rfl, hp⟩ := r.get hg
        refine ⟨v, hs, F, g, p.1, p.2, r, q, fun v1 F1 H1 p1 r1 t1 m1 => ?_⟩
        refine hr v v1 d0 p.1 d F1 H1 _ r1.fh (dpMono t1.fs _ _ hp) p1 q2 fun z F2 H2 hz fh t2 => ?_
        have r2 := r1.stepN t2 fh
        exact k F2 _ H2 ((Tr.of r2 (t1.andN t2) m1).trans (r2.setV i hz))
  · cases e
theorem ok_ipadd : IpOk X.K (ipI fun i j => i + j) addD := fun x y d1 d2 d F H Q fh p1 p2 e k => by
  unfold addD at e
  split at e
  · cases e
    rename_i i j
    exact ⟨i, j, intOf p1, intOf p2, fin0 fh (.int _) k⟩
  · cases e

/-! ### targets -/
/-- only the slots ws are changed -/
structure Chg (ws : List Nat) (s s' : Sg) : Prop where
  len : s'.length = s.length
  at' : ∀ i, i ∉ ws → s'[i]? = s[i]?
theorem Chg.refl {ws : List Nat} {s : Sg} : Chg ws s s := ⟨rfl, fun _ _ => rfl⟩
theorem Chg.trans {ws vs : List Nat} {a b c : Sg} (x : Chg ws a b) (y : Chg vs b c) : Chg (ws ++ vs) a c := ⟨y.len.trans x.len, fun i h => (y.at' i fun z => h (List.mem_append_right _ z)).trans (x.at' i fun z => h (List.mem_append_left _ z))⟩
abbrev Fg := D → G → Option G
def tG (K : PySem.W.Frag) (f : Fg) (ws : List Nat) : TG := fun v s H Q => ∃ F g d g', Rep K F g s H ∧ Dp K F v d ∧ f d g = some g' ∧ ∀ F' s' H', Tr K F g s H F' g' s' H' → Mo g g' → Chg ws s s' → Q s' H'
def tGs (K : PySem.W.Frag) (f : List D → G → Option G) (ws : List Nat) : TGs := fun vs s H Q => ∃ F g ds g', Rep K F g s H ∧ DpAll K F vs ds ∧ f ds g = some g' ∧ ∀ F' s' H', Tr K F g s H F' g' s' H' → Mo g g' → Chg ws s s' → Q s' H'
def DG (X : Cx) (t : Expr) (f : Fg) (ws : List Nat) : Prop := PG X t (tG X.K f ws)
def DGs (X : Cx) (t : List Expr) (f : List D → G → Option G) (ws : List Nat) : Prop := PGs X t (tGs X.K f ws)
theorem pgMono {t : Expr} {u u' : TG} (h : PG X t u) (m : ∀ v s H Q, u' v s H Q → u v s H Q) : PG X t u' := ⟨fun pins st s H v w Q I r q => h.run pins st s H v w Q I r (m v s H Q q)⟩
theorem pgsMono {t : List Expr} {u u' : TGs} (h : PGs X t u) (m : ∀ v s H Q, u' v s H Q → u v s H Q) : PGs X t u' := ⟨fun pins st s H v w Q I r q => h.run pins st s H v w Q I r (m v s H Q q)⟩
def gVar (i : Nat) : Fg := fun d g => some (g.set i (.v d))
theorem moV {g : G} {i : Nat} {d : D} : Mo g (g.set i (.v d)) := fun j u fs e => by
  by_cases z : i = j
  · subst z
    by_cases hi : i < g.length
    · rw [List.getElem?_set_self hi] at e; cases e
    · rw [List.getElem?_eq_none (by simpa using hi)] at e; cases e
  · rw [List.getElem?_set_ne z] at e; exact ⟨fs, e⟩
theorem dg_name (i : Nat) {x : Str} {pos : Pos} (hN : X.N.Nodup) (hi : X.N[i]? = some x := by rfl) (hx : Loc X.env.scope x := by first | exact Or.inl rfl | exact Or.inr rfl) (hf : X.fn x = true ∨ X.env.scope.names.lookup x = some .local := by first | exact .inl rfl | exact .inr rfl | assumption) : DG X (.Name x pos) (gVar i) [i] :=
  pgMono (pg_name hN hi hx hf) fun v s H Q ⟨F, g, d, g', r, hp, e, k⟩ => by
    cases e
    exact k F _ H (r.setV i hp) moV ⟨by simp, fun j hj => List.getElem?_set_ne fun z => hj (by simp [z])⟩
def gsNil : List D → G → Option G := fun ds g => match ds with
  | [] => some g
  | _ => none
def gsCons (f : Fg) (h : List D → G → Option G) : List D → G → Option G := fun ds g => match ds with
  | d :: r => (f d g).bind fun g1 => h r g1
  | _ => none
theorem dgs_nil : DGs X [] gsNil [] := pgsMono pgs_nil fun v s H Q ⟨F, g, d, g', r, hp, e, k⟩ => by
  unfold gsNil at e
  split at e
  · cases e
    cases hp
    exact ⟨rfl, k F s H (Tr.refl r) Mo.refl Chg.refl⟩
  · cases e
theorem dgs_cons {t : Expr} {ts : List Expr} {f : Fg} {h : List D → G → Option G} {ws vs : List Nat} (h1 : DG X t f ws) (h2 : DGs X ts h vs) (hs : (assignEach (t :: ts) X.env).map (·.2) = assign t X.env :: (assignEach ts X.env).map (·.2) := by rfl) : DGs X (t :: ts) (gsCons f h) (ws ++ vs) :=
  pgsMono (pgs_cons h1 h2 hs) fun v s H Q ⟨F, g, ds, g', r, hp, e, k⟩ => by
    unfold gsCons at e
    split at e
    · rename_i d rs
      cases hp with
      | cons p1 p2 =>
        cases q : f d g with
        | none => rw [q] at e; cases e
        | some g1 =>
          rw [q] at e
          exact ⟨_, _, rfl, F, g, d, g1, r, p1, q, fun F1 s1 H1 t1 m1 c1 => ⟨F1, g1, rs, g', t1.rep, dpMonos t1.stp.fs _ _ p2, e, fun F2 s2 H2 t2 m2 c2 => k F2 s2 H2 (t1.trans t2) (m1.trans m2) (c1.trans c2)⟩⟩
    · cases e
def gTup (f : List D → G → Option G) (n : Nat) : Fg := fun d g => match d with
  | .tuple ds => if ds.length = n then f ds g else none
  | _ => none
theorem dg_tup {es : List Expr} {k : Nat} {pos : Pos} {f : List D → G → Option G} {ws : List Nat} (n : Nat) (hc : X.calm = true) (h : DGs X es f ws) (hn : (assignEach es X.env).length = n := by rfl) (hst : (assignEach es X.env).findIdx? (·.1) = none := by rfl) : DG X (.Tuple es k pos) (gTup f n) ws :=
  pgMono (pg_tup hc h hn hst) fun v s H Q ⟨F, g, d, g', r, hp, e, k⟩ => by
    unfold gTup at e
    split at e
    · rename_i ds
      split at e
      · rename_i hl
        cases hp with
        | tup hs ha => exact ⟨_, _, rfl, Same.tupS r.fh hs, by rw [dpLen ha, hl], F, g, ds, g', r, ha, e, k⟩
      · cases e
    · cases e
/-- target = e (a pattern) -/
def sAsg (f : Fe) (t : Fg) : Fs := fun g => (f g).bind fun p => (t p.1 p.2).map .nx
theorem ds_asg {tg a : Expr} {f : Fe} {t : Fg} {ws : List Nat} {pos : Pos} (he : DE X a f) (hg : DG X tg t ws) (hs : swapsWithSole [tg] a pos.line X.env = pure false := by rfl) (hw : swappedStores [tg] a X.env = pure none := by rfl)
    (h1 : (assignEach [tg] X.env).map (·.2) = [assign tg X.env] := by rfl) : DS X (.Assign [tg] a pos) (sAsg f t) := psMono (ps_asg he hg hs hw h1) fun D s H ⟨F, g, o, r, e, k⟩ => by
  unfold sAsg at e
  cases q : f g with
  | none => rw [q] at e; cases e
  | some p =>
    rw [q] at e
    have e : (t p.1 p.2).map _ = some o := e
    cases q2 : t p.1 p.2 with
    | none => rw [q2] at e; cases e
    | some g2 =>
      rw [q2] at e; cases e
      exact ⟨F, g, p.1, p.2, r, q, fun v F1 H1 p1 r1 t1 m1 => ⟨F1, p.2, p.1, g2, r1, p1, q2, fun F2 s2 H2 t2 _ _ => k F2 s2 H2 ((Tr.of r1 t1 m1).trans t2)⟩⟩

/-! ### two values at once -/
theorem par_set {K : PySem.W.Frag} {F H F1 H1 : Hp} {g g1 : G} {s s1 : Sg} {x : Sl} {v : V} (i : Nat) (r1 : Tr K F g s H F1 g1 s1 H1) (hv : RepS K F1 H1 x (some v)) (hx : x ≠ .no) (hx' : ∀ b, x ≠ .ex b)
    (hn : ∀ t ds, x = .own t ds → t = none ∧ ∃ a, v = .ref a ∧ H a = none ∧ ¬ OwnAt g1 s1 a) : Tr K F g s H F1 (g1.set i x) (s1.set i (some v)) H1 := by
  cases x with
  | no => exact absurd rfl hx
  | ex _ => exact absurd rfl (hx' _)
  | v d =>
    obtain ⟨y, ey, hp⟩ := hv
    cases ey
    exact r1.trans (r1.rep.setV i hp)
  | own tg ds =>
    obtain ⟨rfl, a, rfl, na, n1⟩ := hn _ _ rfl
    obtain ⟨a', xs, ea, fa, ha, hp, ht⟩ := hv
    cases ea
    refine ⟨r1.rep.setO i fa ha hp n1, r1.stp, fun b hb => ?_⟩
    rcases ownIn hb r1.rep.len with q | ⟨_, _, _, e2⟩
    · exact r1.own b q
    · cases e2; exact .inr na
/-- a, b = e1, e2 -/
def parOut (i j : Nat) (x y : Sl) (g : G) : Option Out := match x, y with
  | .no, _ => none
  | _, .no => none
  | .ex _, _ => none
  | _, .ex _ => none
  | x, y => some (.nx ((g.set i x).set j y))
def sPar (i j : Nat) (f h : Fv) : Fs := fun g => (f g).bind fun p => (h p.2).bind fun q => parOut i j p.1 q.1 q.2
theorem keepRep {K : PySem.W.Frag} {F H F1 H1 : Hp} {g : G} {s : Sg} {x : Sl} {v : V} (r : Rep K F g s H) (hv : RepS K F H x (some v)) (t : Stp (OwnAt g s) F H F1 H1) (hn : ∀ t ds, x = .own t ds → ∃ a, v = .ref a ∧ ¬ OwnAt g s a) (fh : Same F1 H1) : RepS K F1 H1 x (some v) := by
  cases x with
  | no => trivial
  | ex _ => exact hv
  | v d =>
    obtain ⟨y, ey, hp⟩ := hv
    exact ⟨y, ey, dpMono t.fs _ _ hp⟩
  | own tg ds =>
    obtain ⟨a, xs, ea, fa, ha, hp, ht⟩ := hv
    obtain ⟨a', e, n⟩ := hn _ _ rfl
    cases ea; cases e
    refine ⟨a, xs, rfl, ?_, t.keep a _ ha n, dpMonos t.fs _ _ hp, ht⟩
    cases z : F1 a with
    | none => rfl
    | some u =>
      rcases t.fresh a fa (by rw [z]; simp) with q | q
      · rw [q] at ha; cases ha
      · exact absurd q n
theorem ds_par (i j : Nat) {x y : Str} {a b : Expr} {f h : Fv} {pos px py pt : Pos} {kt k2 pt2} (hc : X.calm = true) (hN : X.N.Nodup) (ha : DV X a f) (hb : DV X b h) (hi : X.N[i]? = some x := by rfl) (hj : X.N[j]? = some y := by rfl) (hij : i ≠ j := by decide)
    (hx : X.env.scope.names.lookup x = some .local := by rfl) (hy : X.env.scope.names.lookup y = some .local := by rfl)
    (hw : swappedStores [.Tuple [.Name x px, .Name y py] kt pt] (.Tuple [a, b] k2 pt2) X.env = pure (some [x, y]) := by rfl)
    (hs : swapsWithSole [.Tuple [.Name x px, .Name y py] kt pt] (.Tuple [a, b] k2 pt2) pos.line X.env = pure false := by rfl)
    (h1 : starEach [a, b] X.env = (false, eval a X.env) :: starEach [b] X.env := by rfl) (h2 : starEach [b] X.env = (false, eval b X.env) :: starEach [] X.env := by rfl) :
    DS X (.Assign [.Tuple [.Name x px, .Name y py] kt pt] (.Tuple [a, b] k2 pt2) pos) (sPar i j f h) := psMono (ps_par hc hN hi hj hij hx hy (pa_cons ha (pa_cons hb pa_nil h2) h1) hw hs) fun D s H ⟨F, g, o, r, e, k⟩ => by
  unfold sPar at e
  cases q : f g with
  | none => rw [q] at e; cases e
  | some p =>
    obtain ⟨x1, g1⟩ := p
    rw [q] at e
    have e : (h g1).bind _ = some o := e
    cases q2 : h g1 with
    | none => rw [q2] at e; cases e
    | some p2 =>
      obtain ⟨x2, g2⟩ := p2
      rw [q2] at e
      have e : parOut i j x1 x2 g2 = some o := e
      have hx1 : x1 ≠ .no := fun z => by subst z; cases e
      have hx2 : x2 ≠ .no := fun z => by subst z; cases x1 <;> cases e
      have hx1' : ∀ b, x1 ≠ .ex b := fun b z => by subst z; cases x2 <;> cases e
      have hx2' : ∀ b, x2 ≠ .ex b := fun b z => by subst z; cases x1 <;> cases e
      have eo : o = Out.nx ((g2.set i x1).set j x2) := by
        cases x1 <;> cases x2 <;> first | (cases e; rfl) | exact absurd rfl hx1 | exact absurd rfl hx2 | exact absurd rfl (hx1' _) | exact absurd rfl (hx2' _)
      subst eo
      refine ⟨F, g, x1, g1, r, q, fun v F1 H1 hv hn r1 t1 m1 => ⟨F1, g1, x2, g2, r1, q2, fun w F2 H2 hw2 hn2 r2 t2 m2 => ⟨v, w, rfl, ?_⟩⟩⟩
      have na : ∀ a, H a = none → ¬ OwnAt g1 s a := fun a ha z => by
        obtain ⟨xs, hx, _⟩ := r.ownSome (m1.own z)
        rw [ha] at hx; cases hx
      have hv2 : RepS X.K F2 H2 x1 (some v) := keepRep r1 hv t2 (fun tg ds z => by
        obtain ⟨_, a, ea, n⟩ := hn tg ds z
        exact ⟨a, ea, na a n⟩) r2.fh
      have t02 := Tr.of r2 (t1.two m1 t2) (m1.trans m2)
      have s1 := par_set i t02 hv2 hx1 hx1' fun tg ds z => by
        obtain ⟨e1, a, ea, n⟩ := hn tg ds z
        exact ⟨e1, a, ea, n, fun z2 => na a n (m2.own z2)⟩
      have s2 := par_set j s1 hw2 hx2 hx2' fun tg ds z => by
        obtain ⟨e1, a, ea, n⟩ := hn2 tg ds z
        refine ⟨e1, a, ea, ?_, fun z2 => ?_⟩
        · cases z3 : H a with
          | none => rfl
          | some u => exact absurd n (t1.dom a (by rw [z3]; simp))
        · rcases ownIn z2 r2.len with q3 | ⟨_, _, e3, e4⟩
          · obtain ⟨xs, hx, _⟩ := r1.ownSome (m2.own q3)
            rw [n] at hx; cases hx
          · subst e3
            cases e4
            obtain ⟨a', xs, ea', _, ha', _⟩ := hv
            cases ea'
            rw [n] at ha'; cases ha'
      exact k F2 _ H2 s2

/-! ### stores into a list of the frame's own -/
/-- name[e] = e' -/
def sPut (i : Nat) (fj : Fe) (f : Fv) : Fs := fun g => (eV f g).bind fun p => (slD p.2[i]?).bind fun _ => (fj p.2).bind fun q => match q.2[i]?, q.1 with
  | some (.own t ds), .int k => (ixN ds.length k).map fun m => .nx (q.2.set i (.own t (ds.set m p.1)))
  | _, _ => none
theorem ds_put (i : Nat) {x : Str} {a b : Expr} {f : Fv} {fj : Fe} {pos p1 p2 : Pos} (he : DV X a f) (hj : DE X b fj) (hN : X.N[i]? = some x := by rfl) (hv : Vis X.env.scope x := by first | exact Or.inl rfl | exact Or.inr (Or.inl rfl) | exact Or.inr (Or.inr rfl)) (hd : (x == ("__debug__" : Str)) = false := by decide)
    (hcd : (x == ("__classdict__" : Str)) = false := by decide) (hs : swapsWithSole [.Subscript (.Name x p1) b p2] a pos.line X.env = pure false := by rfl) (hw : swappedStores [.Subscript (.Name x p1) b p2] a X.env = pure none := by rfl)
    (h1 : (assignEach [.Subscript (.Name x p1) b p2] X.env).map (·.2) = [assign (.Subscript (.Name x p1) b p2) X.env] := by rfl)
    (ha : ∀ v, assign (.Subscript (.Name x p1) b p2) X.env v = (do
      let ov ← holding [v] (eval (.Name x p1) X.env)
      let iv ← holding [v, ov] (eval b X.env)
      standAt p2
      holding [v, ov, iv] (setItem ov iv v)
      release [v, ov, iv] []) := by intro _; rfl) : DS X (.Assign [.Subscript (.Name x p1) b p2] a pos) (sPut i fj f) :=
  psMono (ps_asg (de_dv he) (pg_sub (pe_var hN hv hd hcd) hj set_list ha) hs hw h1) fun D s H ⟨F, g, o, r, e, k⟩ => by
    unfold sPut at e
    cases q : eV f g with
    | none => rw [q] at e; cases e
    | some p =>
      obtain ⟨d, g1⟩ := p
      rw [q] at e
      have e : (slD g1[i]?).bind _ = some o := e
      cases q0 : slD g1[i]? with
      | none => rw [q0] at e; cases e
      | some d0 =>
        rw [q0] at e
        have e : (fj g1).bind _ = some o := e
        cases q2 : fj g1 with
        | none => rw [q2] at e; cases e
        | some p2 =>
          obtain ⟨dj, g2⟩ := p2
          rw [q2] at e
          simp only [Option.bind_some] at e
          split at e
          · rename_i tg ds kk hg
            cases q3 : ixN ds.length kk with
            | none => rw [q3] at e; cases e
            | some m =>
              rw [q3] at e; cases e
              refine ⟨F, g, d, g1, r, q, fun v F1 H1 hp r1 t1 m1 => ?_⟩
              obtain ⟨x0, w, _, hw, _⟩ := slGet r1 q0
              refine ⟨w, hw, F1, g1, _, g2, r1, q2, fun vj F2 H2 hpj r2 t2 m2 => ?_⟩
              obtain ⟨o, ho, a, xs, eo, fa, hal, hps, ht⟩ := r2.get hg
              rw [hw] at ho; cases ho; cases eo
              refine ⟨a, xs, kk, m, rfl, intOf hpj, hal, by rw [dpLen hps]; exact q3, ?_⟩
              exact k F2 _ _ ((Tr.of r2 (t1.two m1 t2) (m1.trans m2)).trans (r2.turn hg hw (dpSet (dpMono t2.fs _ _ hp) m hps)))
          · cases e
def ownD : Option Sl → Option (List D)
  | some (.own _ ds) => some ds
  | _ => none
/-- name.append(e) -/
def eApp (i : Nat) (f : Fv) : Fe := fun g => (ownD g[i]?).bind fun _ => (eV f g).bind fun q => match q.2[i]? with
  | some (.own t ds) => if ds.length < 1000000 then some (.none, q.2.set i (.own t (ds ++ [q.1]))) else none
  | _ => none
theorem moSet {g : G} {i : Nat} {t : Option Addr} {ds es : List D} (h : g[i]? = some (.own t ds)) : Mo g (g.set i (.own t es)) := fun j u fs e => by
  by_cases z : i = j
  · subst z
    rw [List.getElem?_set_self (List.getElem?_eq_some_iff.mp h).1] at e
    cases e; exact ⟨ds, h⟩
  · rw [List.getElem?_set_ne z] at e; exact ⟨fs, e⟩
theorem de_app (i : Nat) {x : Str} {a : Expr} {f : Fv} {pos p1 p2 : Pos} (he : DV X a f) (hN : X.N[i]? = some x := by rfl) (hv : Vis X.env.scope x := by first | exact Or.inl rfl | exact Or.inr (Or.inl rfl) | exact Or.inr (Or.inr rfl)) (hd : (x == ("__debug__" : Str)) = false := by decide)
    (hcd : (x == ("__classdict__" : Str)) = false := by decide) (t : PE X (.Call (.Attribute (.Name x p1) "append" p2) [a] [] pos) (tBM X.K "list" rAppend (tVar i) (tCons (tD X.K (eV f)) tNil))) : DE X (.Call (.Attribute (.Name x p1) "append" p2) [a] [] pos) (eApp i f) :=
  peMono t fun s H Q ⟨F, g, d, g', r, e, k⟩ => by
    unfold eApp at e
    cases q0 : ownD g[i]? with
    | none => rw [q0] at e; cases e
    | some d0 =>
      rw [q0] at e
      have e : (eV f g).bind _ = some (d, g') := e
      cases q2 : eV f g with
      | none => rw [q2] at e; cases e
      | some p2 =>
        obtain ⟨dj, g2⟩ := p2
        rw [q2] at e
        simp only [Option.bind_some] at e
        split at e
        · rename_i tg ds hg
          split at e
          · rename_i hl
            cases e
            have hw : ∃ w xs, s[i]? = some (some (.ref w)) ∧ H w = some (.lst xs) := by
              unfold ownD at q0
              split at q0
              · rename_i t0 ds0 hx0
                obtain ⟨o, ho, a, xs, ea, _, ha, _⟩ := r.get hx0
                subst ea
                exact ⟨a, xs, ho, ha⟩
              · cases q0
            obtain ⟨w, xs0, hw, hxs0⟩ := hw
            refine ⟨.ref w, hw, .inl ⟨rfl, _, SqL.of hxs0⟩, F, g, dj, g2, r, q2, fun vj F2 H2 hpj r2 t2 m2 => ?_⟩
            · obtain ⟨o, ho, a, xs, eo, fa, hal, hps, ht⟩ := r2.get hg
              rw [hw] at ho; cases ho; cases eo
              have tr := r2.turn hg hw (dpApp hps (.cons hpj .nil))
              exact ⟨_, xs, vj, rfl, rfl, hal, by rw [dpLen hps]; exact Nat.lt_of_lt_of_le hl million, k .non F2 _ .non tr.rep (t2.two m2 tr.stp) (m2.trans (moSet hg))⟩
          · cases e
        · cases e
end Dl
set_option Elab.async false
set_option linter.all false
set_option maxRecDepth 100000
namespace Dl
open PySem PySem.Spec PyProof.Rows L2
variable {X : Cx}

/-! ### while -/
/-- n turns and an end -/
inductive WhN (t : Ft) (b : Fs) : Nat → G → Out → Prop
  | stop {g g1 : G} : t g = some (false, g1) → WhN t b 0 g (.nx g1)
  | nx {n : Nat} {g g1 g2 : G} {o : Out} : t g = some (true, g1) → b g1 = some (.nx g2) → WhN t b n g2 o → WhN t b (n + 1) g o
  | ct {n : Nat} {g g1 g2 : G} {o : Out} : t g = some (true, g1) → b g1 = some (.ct g2) → WhN t b n g2 o → WhN t b (n + 1) g o
  | bk {g g1 g2 : G} : t g = some (true, g1) → b g1 = some (.bk g2) → WhN t b 0 g (.nx g2)
  | ret {g g1 g2 : G} {x : Sl} : t g = some (true, g1) → b g1 = some (.ret x g2) → WhN t b 0 g (.ret x g2)
theorem WhN.det {t : Ft} {b : Fs} {n : Nat} {g : G} {o : Out} (h : WhN t b n g o) : ∀ {m : Nat} {o' : Out}, WhN t b m g o' → n = m ∧ o = o' := by
  induction h with
  | stop h1 =>
    intro m o' h'
    cases h' <;> rename_i h2 <;> simp_all
  | nx h1 h2 h3 ih =>
    intro m o' h'
    cases h' with
    | nx k1 k2 k3 =>
      rw [h1] at k1; cases k1
      rw [h2] at k2; cases k2
      obtain ⟨e1, e2⟩ := ih k3
      exact ⟨by rw [e1], e2⟩
    | stop k1 => rw [h1] at k1; cases k1
    | ct k1 k2 k3 => rw [h1] at k1; cases k1; rw [h2] at k2; cases k2
    | bk k1 k2 => rw [h1] at k1; cases k1; rw [h2] at k2; cases k2
    | ret k1 k2 => rw [h1] at k1; cases k1; rw [h2] at k2; cases k2
  | ct h1 h2 h3 ih =>
    intro m o' h'
    cases h' with
    | ct k1 k2 k3 =>
      rw [h1] at k1; cases k1
      rw [h2] at k2; cases k2
      obtain ⟨e1, e2⟩ := ih k3
      exact ⟨by rw [e1], e2⟩
    | stop k1 => rw [h1] at k1; cases k1
    | nx k1 k2 k3 => rw [h1] at k1; cases k1; rw [h2] at k2; cases k2
    | bk k1 k2 => rw [h1] at k1; cases k1; rw [h2] at k2; cases k2
    | ret k1 k2 => rw [h1] at k1; cases k1; rw [h2] at k2; cases k2
  | bk h1 h2 =>
    intro m o' h'
    cases h' with
    | bk k1 k2 => rw [h1] at k1; cases k1; rw [h2] at k2; cases k2; exact ⟨rfl, rfl⟩
    | stop k1 => rw [h1] at k1; cases k1
    | nx k1 k2 k3 => rw [h1] at k1; cases k1; rw [h2] at k2; cases k2
    | ct k1 k2 k3 => rw [h1] at k1; cases k1; rw [h2] at k2; cases k2
    | ret k1 k2 => rw [h1] at k1; cases k1; rw [h2] at k2; cases k2
  | ret h1 h2 =>
    intro m o' h'
    cases h' with
    | ret k1 k2 => rw [h1] at k1; cases k1; rw [h2] at k2; cases k2; exact ⟨rfl, rfl⟩
    | stop k1 => rw [h1] at k1; cases k1
    | nx k1 k2 k3 => rw [h1] at k1; cases k1; rw [h2] at k2; cases k2
    | ct k1 k2 k3 => rw [h1] at k1; cases k1; rw [h2] at k2; cases k2
    | bk k1 k2 => rw [h1] at k1; cases k1; rw [h2] at k2; cases k2
open Classical in
/-- the end of a while, where it comes to one -/
noncomputable def sWhile (t : Ft) (b : Fs) : Fs := fun g => if h : ∃ o n, WhN t b n g o then some h.choose else none
theorem sWhile_of {t : Ft} {b : Fs} {n : Nat} {g : G} {o : Out} (h : WhN t b n g o) : sWhile t b g = some o := by
  have hx : ∃ o n, WhN t b n g o := ⟨o, n, h⟩
  unfold sWhile
  rw [dif_pos hx]
  obtain ⟨m, hm⟩ := hx.choose_spec
  rw [(h.det hm).2]
theorem sWhile_inv {t : Ft} {b : Fs} {g : G} {o : Out} (h : sWhile t b g = some o) : ∃ n, WhN t b n g o := by
  unfold sWhile at h
  split at h
  · rename_i hx
    cases h
    exact hx.choose_spec
  · cases h
/-- one turn -/
theorem sWhile_stop {t : Ft} {b : Fs} {g g1 : G} (h : t g = some (false, g1)) : sWhile t b g = some (.nx g1) := sWhile_of (.stop h)
theorem sWhile_nx {t : Ft} {b : Fs} {g g1 g2 : G} (h : t g = some (true, g1)) (h2 : b g1 = some (.nx g2)) {o : Out} (h3 : sWhile t b g2 = some o) : sWhile t b g = some o := by
  obtain ⟨n, hn⟩ := sWhile_inv h3
  exact sWhile_of (.nx h h2 hn)
theorem ds_while {c : Expr} {body : List Stmt} {pos : Pos} {t : Ft} {b : Fs} (hp : PassesOwn (model X.prog X.w) X.A X.env X.xe) (hc : DT X c t) (hb : DSs X body b) : DS X (.While c body [] pos) (sWhile t b) := psMono (ps_while hp hc hb) fun D s H ⟨F, g, o, r, e, k⟩ => by
  obtain ⟨n, hn⟩ := sWhile_inv e
  refine ⟨fun m s1 H1 => ∃ F1 g1, Tr X.K F g s H F1 g1 s1 H1 ∧ WhN t b m g1 o, ⟨n, F, g, Tr.refl r, hn⟩, fun m s1 H1 ⟨F1, g1, t1, w⟩ => ?_⟩
  cases w with
  | stop h1 =>
    refine ⟨F1, g1, _, _, t1.rep, h1, fun F2 H2 r2 st2 m2 => ?_⟩
    exact iteF (k F2 s1 H2 (t1.trans (Tr.of r2 st2 m2)))
  | @nx n' _ ga gb _ h1 h2 h3 =>
    refine ⟨F1, g1, _, _, t1.rep, h1, fun F2 H2 r2 st2 m2 => iteT ?_⟩
    refine ⟨fun s' H' => ∃ F3, Tr X.K F g s H F3 gb s' H', fun s' H' ⟨F3, t3⟩ => ⟨n', Nat.lt_succ_self _, F3, gb, t3, h3⟩, F2, ga, _, r2, h2, fun F3 s3 H3 t3 => ⟨F3, (t1.trans (Tr.of r2 st2 m2)).trans t3⟩⟩
  | @ct n' _ ga gb _ h1 h2 h3 =>
    refine ⟨F1, g1, _, _, t1.rep, h1, fun F2 H2 r2 st2 m2 => iteT ?_⟩
    refine ⟨fun s' H' => ∃ F3, Tr X.K F g s H F3 gb s' H', fun s' H' ⟨F3, t3⟩ => ⟨n', Nat.lt_succ_self _, F3, gb, t3, h3⟩, F2, ga, _, r2, h2, fun F3 s3 H3 t3 => ⟨F3, (t1.trans (Tr.of r2 st2 m2)).trans t3⟩⟩
  | @bk _ ga gb h1 h2 =>
    refine ⟨F1, g1, _, _, t1.rep, h1, fun F2 H2 r2 st2 m2 => iteT ?_⟩
    refine ⟨fun _ _ => False, fun _ _ z => z.elim, F2, ga, _, r2, h2, fun F3 s3 H3 t3 => k F3 s3 H3 ((t1.trans (Tr.of r2 st2 m2)).trans t3)⟩
  | @ret _ ga gb x h1 h2 =>
    refine ⟨F1, g1, _, _, t1.rep, h1, fun F2 H2 r2 st2 m2 => iteT ?_⟩
    have tt := t1.trans (Tr.of r2 st2 m2)
    exact ⟨fun _ _ => False, fun _ _ z => z.elim, F2, ga, _, r2, h2, fun v F3 s3 H3 a n b t3 => k v F3 s3 H3 a n (b.back tt) (tt.trans t3)⟩

/-! ### what is walked -/
/-- the walk J gives the data ds, one by one -/
structure Itd (K : PySem.W.Frag) (F0 : Hp) (J : It) (ds : List D) : Prop where
  go : ∀ (i : Nat) (H : Hp), Same F0 H → i < ds.length → J.go i H
  stop : ∀ H, Same F0 H → J.stop ds.length H
  yld : ∀ (i : Nat) (F H : Hp) (x : V) (H' : Hp), Same F0 F → Same F H → i < ds.length → J.yld i H x H' → ∃ F' d, ds[i]? = some d ∧ Dp K F' x d ∧ Same F' H' ∧ Stp Non F H F' H'
def tI (K : PySem.W.Frag) (f : Fa) : TI := fun s H R => ∃ F g ds g', Rep K F g s H ∧ f g = some (ds, g') ∧
  ∀ J F' H', Rep K F' g' s H' → Stp (OwnAt g s) F H F' H' → Mo g g' → Itd K F' J ds → R J H'
def DI (X : Cx) (tg iter : Expr) (f : Fa) : Prop := PI X tg iter (tI X.K f)
theorem piMono {tg iter : Expr} {t t' : TI} (h : PI X tg iter t) (m : ∀ s H R, t' s H R → t s H R) : PI X tg iter t' := ⟨fun pins st s H R I w => h.run pins st s H R I (m s H R w)⟩
theorem piOr {tg iter : Expr} {t t' : TI} (h : PI X tg iter t) (h' : PI X tg iter t') : PI X tg iter (fun s H R => t s H R ∨ t' s H R) := ⟨fun pins st s H R I w => w.elim (h.run pins st s H R I) (h'.run pins st s H R I)⟩
theorem itdSeq {K : PySem.W.Frag} {F : Hp} {J : It} {xs : List V} {ds : List D} {P : Hp → Prop} (hp : DpAll K F xs ds) (hP : ∀ H, Same F H → P H) (w : Walk J xs.length P (YAt xs)) : Itd K F J ds where
  go := fun i H h hi => w.goes i H (by rw [dpLen hp]; exact hi) (hP H h)
  stop := fun H h => by rw [← dpLen hp]; exact w.stops H (hP H h)
  yld := fun i F1 H x H' h1 h2 hi y => by
    obtain ⟨e, hx⟩ := w.yields i H x H' (by rw [dpLen hp]; exact hi) (hP H (h1.trans h2)) y
    subst e
    obtain ⟨d, hd, q⟩ := dpAtV hp hx
    exact ⟨F1, d, hd, dpMono h1 _ _ q, h2, Stp.refl⟩
def seqD : D → Option (List D)
  | .list ds => some ds
  | .tuple ds => some ds
  | _ => none
def iSeq (f : Fe) : Fa := fun g => (f g).bind fun p => (seqD p.1).map fun ds => (ds, p.2)
theorem iSeq_inv {f : Fe} {g g' : G} {ds : List D} (h : iSeq f g = some (ds, g')) : ∃ d, f g = some (d, g') ∧ seqD d = some ds := by
  unfold iSeq at h
  cases q : f g with
  | none => rw [q] at h; cases h
  | some p =>
    rw [q] at h
    have h : (seqD p.1).map _ = some (ds, g') := h
    cases q2 : seqD p.1 with
    | none => rw [q2] at h; cases h
    | some d2 => rw [q2] at h; cases h; exact ⟨p.1, rfl, q2⟩
/-- a list or a tuple -/
theorem di_seq {tg a : Expr} {f : Fe} (h : DE X a f) : DI X tg a (iSeq f) := piMono (piOr (pi_list h) (pi_tup h)) fun s H R ⟨F, g, ds, g', r, e, k⟩ => by
  obtain ⟨d, e1, e2⟩ := iSeq_inv e
  cases d with
  | list es =>
    cases e2
    refine .inl ⟨F, g, _, g', r, e1, fun v F1 H1 p1 r1 t1 m1 => ?_⟩
    cases p1 with
    | lst hs ha => exact ⟨_, rfl, ⟨_, r1.fh.seq hs⟩, k _ F1 H1 r1 t1 m1 (itdSeq ha (fun H q => q.seq hs) walk_list)⟩
  | tuple es =>
    cases e2
    refine .inr ⟨F, g, _, g', r, e1, fun v F1 H1 p1 r1 t1 m1 => ?_⟩
    cases p1 with
    | tup hs ha => exact ⟨_, rfl, ⟨_, Same.tupS r1.fh hs⟩, k _ F1 H1 r1 t1 m1 (itdSeq ha (fun H q => Same.tupS q hs) walk_tup)⟩
  | _ => cases e2
/-- range -/
def rangeL (lo : Int) (n : Nat) : List D := (List.range n).map fun (i : Nat) => PyData.int (lo + (i : Nat))
theorem itdRange {K : PySem.W.Frag} {F : Hp} {lo : Int} {n : Nat} : Itd K F (Itr lo n) (rangeL lo n) where
  go := fun i H h hi => by
    show i < n
    simpa [rangeL] using hi
  stop := fun H h => by
    show n ≤ (rangeL lo n).length
    simp [rangeL]
  yld := fun i F1 H x H' h1 h2 hi y => by
    obtain ⟨e, hx⟩ := y
    subst e hx
    have hi' : i < n := by simpa [rangeL] using hi
    exact ⟨F1, .int (lo + i), by simp [rangeL, hi'], .int _, h2, Stp.refl⟩
def SmI (i : Int) : Prop := -(2 ^ 62) ≤ i ∧ i < 2 ^ 62
instance (i : Int) : Decidable (SmI i) := by unfold SmI; exact inferInstance
def iRange1 (f : Fa) : Fa := fun g => match f g with
  | some ([.int j], g') => if SmI j then some (rangeL 0 j.toNat, g') else none
  | _ => none
def iRange2 (f : Fa) : Fa := fun g => match f g with
  | some ([.int i, .int j], g') => if SmI i ∧ SmI j then some (rangeL i (j - i).toNat, g') else none
  | _ => none
theorem dp1 {K : PySem.W.Frag} {F : Hp} {vs : List V} {i : Int} (h : DpAll K F vs [.int i]) : vs = [.int i] := by
  cases h with
  | cons h1 h2 => cases h1; cases h2; rfl
theorem dp2 {K : PySem.W.Frag} {F : Hp} {vs : List V} {i j : Int} (h : DpAll K F vs [.int i, .int j]) : vs = [.int i, .int j] := by
  cases h with
  | cons h1 h2 =>
    cases h1
    cases h2 with
    | cons h3 h4 => cases h3; cases h4; rfl
theorem di_range1 {tg a : Expr} {p pos : Pos} {f : Fa} (hg : Gl X "range") (hm : X.mg "range" = none) (ha : DA X [a] f)
    (hs : starEach [a] X.env = [(false, eval a X.env)] := by rfl) :
    DI X tg (.Call (.Name "range" p) [a] [] pos) (iRange1 f) := piMono (pi_range1 hg hm ha hs) fun s H R ⟨F, g, ds, g', r, e, k⟩ => by
  unfold iRange1 at e
  split at e
  · rename_i j g1 q
    split at e
    · rename_i hj
      cases e
      exact ⟨F, g, _, _, r, q, fun vs F1 H1 p1 r1 t1 m1 => ⟨j, dp1 p1, hj.1, hj.2, k _ F1 H1 r1 t1 m1 itdRange⟩⟩
    · cases e
  · cases e
theorem di_range2 {tg a b : Expr} {p pos : Pos} {f : Fa} (t : PI X tg (.Call (.Name "range" p) [a, b] [] pos) (iRng2 (tA X.K f))) :
    DI X tg (.Call (.Name "range" p) [a, b] [] pos) (iRange2 f) := piMono t fun s H R ⟨F, g, ds, g', r, e, k⟩ => by
  unfold iRange2 at e
  split at e
  · rename_i i j g1 q
    split at e
    · rename_i hj
      cases e
      exact ⟨F, g, _, _, r, q, fun vs F1 H1 p1 r1 t1 m1 => ⟨i, j, dp2 p1, ⟨hj.1.1, hj.1.2, hj.2.1, hj.2.2⟩, k _ F1 H1 r1 t1 m1 itdRange⟩⟩
    · cases e
  · cases e
end Dl
set_option Elab.async false
set_option linter.all false
set_option maxRecDepth 100000
namespace Dl
open PySem PySem.Spec PyProof.Rows L2

/-! ### enumerate of a tuple -/
section
open Sem (wp)
theorem newEnum1 {v : Value} {ob : Obj} {C : Heap → Prop} (B : Begins v ob C) : Meets (Builtin.«enumerate.__new__» ⟨[.type "enumerate", v], []⟩) (fun _ R st => C st.heap ∧
    R (.ok (.ret (.ref (st.heap.push ob).objs.size))) { st with heap := (st.heap.push ob).push { cls := .type "enumerate", data := .fields #[.none, .bool false, .ref st.heap.objs.size, rawInt 0, .none, .none] } }) :=
  .of_wp fun P w A R st hyp => by
    obtain ⟨hp, gg, dd, tk, os⟩ := st
    obtain ⟨c0, hyp⟩ := hyp
    have hsub := sub_enumerate
    have q1 : ∀ {A' : Around} {E : Value → Shared → Prop} {Q : Value → Shared → Prop}, Q (.ref hp.objs.size) ⟨hp.push ob, gg, dd, tk, os⟩ → wpAny (model P w) A' (pyIter v) Q E ⟨hp, gg, dd, tk, os⟩ := fun q => B.iter P w _ _ ⟨hp, gg, dd, tk, os⟩ _ c0 q
    wp_walk using q1
    refine wpAny_stack_any fun stk => wpAny_pure ?_
    split
    · rename_i cc _ _ _ _ _
      cases (cc == Value.type "enumerate")
      all_goals
        wp_walk using q1
        exact ⟨_, rfl, hyp⟩
    · wp_walk using q1
      exact ⟨_, rfl, hyp⟩
theorem callEnum1 {P : Program} {w : World} {A : Around} {E : Value → Shared → Prop} {st : Shared} {v : Value} {ob : Obj} {C : Heap → Prop} {Q : Value → Shared → Prop} (B : Begins v ob C) (c0 : C st.heap)
    (k : ∀ h', IsEnum h' (st.heap.objs.size + 1) st.heap.objs.size 0 .none → h'.get? st.heap.objs.size = some ob → (∀ b o, st.heap.get? b = some o → h'.get? b = some o) → Q (.ref (st.heap.objs.size + 1)) { st with heap := h' }) :
    wpAny (model P w) A (call (.type "enumerate") [v]) Q E st := by
  refine callType_new F.called_enumerate (by decide) (F.typeCall_enumerate_1 _) (F.newCall_enumerate_1 _) (fun obj => F.args_object_init_2 obj _) F.entry_enumerate_new (newEnum1 B) ⟨c0, ?_⟩
  have sz : (st.heap.push ob).objs.size = st.heap.objs.size + 1 := Heap.size_push ..
  show _ ∧ _
  rw [sz]
  have en := Heap.get?_push_size (st.heap.push ob) (o := { cls := .type "enumerate", data := .fields #[.none, .bool false, .ref st.heap.objs.size, rawInt 0, .none, .none] }) rfl
  rw [sz] at en
  exact ⟨⟨_, en, rfl⟩, k _ en (Heap.get?_push_of_some _ (Heap.get?_push_size _ B.free)) fun b o x => Heap.get?_push_of_some _ (Heap.get?_push_of_some _ x)⟩
end
/-- the tuple at a, its items counted from 0, in new pairs -/
def ItE (K : PySem.W.Frag) (a : Addr) : It :=
  ⟨fun i H => ∃ (xs : List V) (x : V), SqT K H a xs ∧ xs[i]? = some x, fun i H v H' => ∃ T x, v = .ref T ∧ H T = none ∧ H' = upd H T (.tup [.int (i : Nat), x]) ∧ ∀ xs, SqT K H a xs → xs[i]? = some x, fun i H => ∃ xs : List V, SqT K H a xs ∧ xs.length = i⟩
theorem turnE {P : Program} {w : World} {K : PySem.W.Frag} {es : List Expr} {kk : Nat} {tp : Pos} (a e it : Addr) (hae : a ≠ e) (hai : a ≠ it) (hei : e ≠ it) :
    Turn P w K (.Tuple es kk tp) (ItE K a) [e, it] e (fun i h => (∃ old, IsEnum h e it ((0 : Int) + ((i : Nat) : Int)) old) ∧ h.IsTupleIter it a i) where
  mem := by simp
  obj := fun i h tn b hb => by
    obtain ⟨⟨old, q⟩, o, ho, hc, hd⟩ := tn
    rcases List.mem_cons.mp hb with z | z
    · subst z; exact ⟨_, q, fun v z => nomatch z⟩
    · rw [List.mem_singleton.mp z]; exact ⟨o, ho, fun v z => by rw [hd] at z; cases z⟩
  keep := fun i h h' tn kp => by
    obtain ⟨⟨old, q⟩, r⟩ := tn
    exact ⟨⟨old, kp e (by simp) _ q⟩, r.at fun o z => kp it (by simp) o z⟩
  item := by
    intro X e1 e2 e3 hc i pins st s H E I hf tn hg
    subst e1 e2 e3
    obtain ⟨⟨old, en⟩, ti⟩ := tn
    obtain ⟨xs, x, hq, hx⟩ := hg
    obtain ⟨its, rv, tp, _⟩ := I.tuple hq
    have he1 : e < st.heap.objs.size := Heap.lt_size en
    have hi1 : it < st.heap.objs.size := by obtain ⟨_, z, _⟩ := ti; exact Heap.lt_size z
    have hin : i < its.toArray.size := by
      obtain ⟨u, hu, _⟩ := rv.get hx
      have := (List.getElem?_eq_some_iff.mp hu).1
      simpa using this
    refine wpAny_pyNext_enum_itemC (Draws.tuple (A := X.A.in1) (show X.A.in1.handled = none from I.ok.hd hc) it a hai its.toArray) en ⟨ti, tp⟩ hin hei (by simp [hei, Ne.symm hae]) fun u h1 tk hu ho hst hT _ kp => ?_
    refine ⟨_, rfl, wpAny_letOwnedTupleGo_enum (s := { st with heap := h1, toks := tk + 1 }) ho fun h2 en2 sb => ?_⟩
    have hu' : its[i]? = some u := by simpa using hu
    obtain ⟨w, hw, rw'⟩ := rv.get hx
    have : w = u := by rw [hw] at hu'; exact Option.some.inj hu'
    subst this
    have hT2 : h2.get? st.heap.objs.size = some { cls := .type "tuple", data := .seq #[.int (0 + (i : Int)) tk, w] } := (sb.2 _ (Nat.ne_of_gt he1)).trans hT
    have i0 : (0 : Int) + (i : Int) = (i : Int) := by omega
    have new : ObjOk X.prog X.w (upd H st.heap.objs.size (.tup [.int (i : Nat), x])) h2 st.heap.objs.size (.tup [.int (i : Nat), x]) :=
      ⟨by show 2 ≤ sizeLine; decide, [.int (0 + (i : Int)) tk, w], .cons ⟨tk, by rw [i0]⟩ (.cons rw' .nil), ⟨_, hT2, rfl, _, rfl⟩⟩
    have J := I.turnedNew (ob := .tup [.int (i : Nat), x]) (t' := tk + 1) (h' := h2) (ch := [e, it]) (fun b ob hb q => (sb.2 b fun z => hb (by simp [z])).trans (kp b ob (fun z => hb (by simp [z])) (fun z => hb (by simp [z])) q)) hf (Nat.le_refl _) new
    refine ⟨.ref st.heap.objs.size, _, J, rfl, ⟨_, x, rfl, I.hok.fresh (Nat.le_refl _), rfl, fun ys hy => by rw [I.tuple_inj hy hq]; exact hx⟩, ⟨⟨w, ?_⟩, hst.1.at fun o q => (sb.2 it (Ne.symm hei)).trans q⟩, fun b hb => ?_⟩
    · have c1 : (0 : Int) + ((i + 1 : Nat) : Int) = 0 + (i : Int) + 1 := by omega
      rw [c1]; exact en2
    · have hlt : b < st.heap.objs.size := by
        rcases List.mem_cons.mp hb with z | z
        · rw [z]; exact he1
        · rw [List.mem_singleton.mp z]; exact hi1
      rw [upd_ne (Nat.ne_of_lt hlt)]
      exact (hf b hb).1
  done := by
    intro X e1 e2 e3 hc i pins st s H E I hf tn hg
    subst e1 e2 e3
    obtain ⟨⟨old, en⟩, ti⟩ := tn
    obtain ⟨xs, hq, hx⟩ := hg
    obtain ⟨its, rv, tp, _⟩ := I.tuple hq
    obtain ⟨f0, f1, f2, f3, f4, f5⟩ := hf it (by simp)
    have hn : its.toArray.size = i := by rw [List.size_toArray, ← rv.length]; exact hx
    subst hn
    exact wpAny_pyNext_enum_endD (Draws.tuple (A := X.A.in1) (show X.A.in1.handled = none from I.ok.hd hc) it a hai its.toArray) en ⟨ti, tp⟩ fun h' eb => ⟨rfl, I.turned (t' := st.toks) (fun b o hb q => eb b o hb q) f0 f1 f3 f4 f5⟩
  self := fun A i st Q E tn k => by
    obtain ⟨⟨_, en⟩, _⟩ := tn
    exact wpAny_pyIter_enum en k
def iEnT (K : PySem.W.Frag) (ta : TA) : TI := fun s H R => ta s H fun vs H1 => ∃ a xs, vs = [.ref a] ∧ SqT K H1 a xs ∧ R (ItE K a) H1
theorem pi_enT {X : Cx} {e : Expr} {ta : TA} {p pos tp : Pos} {es : List Expr} {kk : Nat} (hg : Gl X "enumerate") (hm : X.mg "enumerate" = none) (ha : PA X [e] ta) (hs : starEach [e] X.env = [(false, eval e X.env)] := by rfl) :
    PI X (.Tuple es kk tp) (.Call (.Name "enumerate" p) [e] [] pos) (iEnT X.K ta) := by
  refine ⟨fun pins st s H R I h => ?_⟩
  refine Call_ (ld_blt I hg hm boot_enumerate (PyProof.Rows.callWith_type1 (thn (ha.run pos pins st s H _ I h) fun us st1 hq => ?_) hs rfl))
  obtain ⟨vs, H1, I1, r1, a, xs, ev, hx, q⟩ := hq
  subst ev
  cases r1 with
  | cons r rr =>
    cases rr
    cases r
    obtain ⟨its, rv, tpl, _⟩ := I1.tuple hx
    refine callEnum1 (begins_tuple a its.toArray) tpl fun h' en hit kp => wpAny_pyIter_enum en ?_
    have ha1 : a < st1.heap.objs.size := by obtain ⟨o, z, _⟩ := tpl; exact Heap.lt_size z
    have I2 : Inv X pins s H1 { st1 with heap := h' } := I1.kept (t' := st1.toks) kp
    refine ⟨st1.heap.objs.size + 1, [st1.heap.objs.size + 1, st1.heap.objs.size], _, _, H1, rfl, I2, turnE a (st1.heap.objs.size + 1) st1.heap.objs.size (Nat.ne_of_lt (Nat.lt_succ_of_lt ha1)) (Nat.ne_of_lt ha1) (Nat.succ_ne_self _), ⟨⟨.none, en⟩, ⟨_, hit, rfl, rfl⟩⟩, fun b hb => ?_, q⟩
    have hle : st1.heap.objs.size ≤ b := by
      rcases List.mem_cons.mp hb with z | z
      · rw [z]; exact Nat.le_succ _
      · rw [List.mem_singleton.mp z]; exact Nat.le_refl _
    exact I1.fpOk hle (I1.hok.fresh hle)

variable {X : Cx}
/-! ### pairs -/
def pairL : Nat → List D → List D
  | _, [] => []
  | i, d :: r => .tuple [.int (i : Nat), d] :: pairL (i + 1) r
theorem pairL_len : ∀ (i : Nat) (ds : List D), (pairL i ds).length = ds.length
  | _, [] => rfl
  | i, d :: r => by simp [pairL, pairL_len (i + 1) r]
theorem pairL_at : ∀ (i : Nat) (ds : List D) (j : Nat) (d : D), ds[j]? = some d → (pairL i ds)[j]? = some (.tuple [.int ((i + j : Nat)), d])
  | _, [], _, _, h => by simp at h
  | i, e :: r, 0, d, h => by simp at h; simp [pairL, h]
  | i, e :: r, j + 1, d, h => by
    have := pairL_at (i + 1) r j d (by simpa using h)
    have c : i + 1 + j = i + (j + 1) := by omega
    rw [c] at this
    simpa [pairL] using this
def zipL : List D → List D → List D
  | x :: xs, y :: ys => .tuple [x, y] :: zipL xs ys
  | _, _ => []
theorem zipL_len : ∀ (xs ys : List D), (zipL xs ys).length = min xs.length ys.length
  | [], _ => by simp [zipL]
  | _ :: _, [] => by simp [zipL]
  | x :: xs, y :: ys => by (simp [zipL, zipL_len xs ys])
theorem zipL_at : ∀ (xs ys : List D) (j : Nat) (x y : D), xs[j]? = some x → ys[j]? = some y → (zipL xs ys)[j]? = some (.tuple [x, y])
  | [], _, _, _, _, h, _ => by simp at h
  | _ :: _, [], _, _, _, _, h => by simp at h
  | a :: xs, b :: ys, 0, x, y, h1, h2 => by simp at h1 h2; simp [zipL, h1, h2]
  | a :: xs, b :: ys, j + 1, x, y, h1, h2 => by
    have := zipL_at xs ys j x y (by simpa using h1) (by simpa using h2)
    simpa [zipL] using this
/-- a new pair is a tuple that stands -/
theorem newPair {K : PySem.W.Frag} {F H : Hp} {T : Addr} {x y : V} {d e : D} (fh : Same F H) (nT : H T = none) (hx : Dp K F x d) (hy : Dp K F y e) :
    ∃ F', Dp K F' (.ref T) (.tuple [d, e]) ∧ Same F' (upd H T (.tup [x, y])) ∧ Stp Non F H F' (upd H T (.tup [x, y])) :=
  ⟨_, .tup (SqT.of upd_same) (dpUpd (.cons hx (.cons hy .nil)) (nF fh nT)), sameLaid fh nT, Stp.laid nT fh⟩
theorem itdPair {K : PySem.W.Frag} {F0 : Hp} {J : It} {xs : List V} {ds : List D} {P : Hp → Prop} (hp : DpAll K F0 xs ds) (hP : ∀ H, Same F0 H → P H) (w : Walk J xs.length P (YPair (fun i => some (.int (i : Nat))) fun i => xs[i]?)) : Itd K F0 J (pairL 0 ds) where
  go := fun i H h hi => w.goes i H (by rw [pairL_len] at hi; rw [dpLen hp]; exact hi) (hP H h)
  stop := fun H h => by rw [pairL_len, ← dpLen hp]; exact w.stops H (hP H h)
  yld := fun i F H x H' h1 h2 hi y => by
    rw [pairL_len] at hi
    obtain ⟨T, a, b, e1, e2, e3, e4, e5⟩ := w.yields i H x H' (by rw [dpLen hp]; exact hi) (hP H (h1.trans h2)) y
    obtain ⟨d, hd, q⟩ := dpAtV hp e5
    have ea : V.int (i : Nat) = a := Option.some.inj e4
    subst e1 e3 ea
    obtain ⟨F', a1, a2, a3⟩ := newPair h2 e2 (Dp.int (i : Nat)) (dpMono h1 _ _ q)
    refine ⟨F', _, pairL_at 0 ds i d hd, ?_, a2, a3⟩
    rw [Nat.zero_add]
    exact a1
theorem itdZip {K : PySem.W.Frag} {F0 : Hp} {J : It} {n : Nat} {xs ys : List V} {ds es : List D} {P : Hp → Prop} (hn : n = min xs.length ys.length) (hp : DpAll K F0 xs ds) (hq : DpAll K F0 ys es) (hP : ∀ H, Same F0 H → P H) (w : Walk J n P (YPair (fun i => xs[i]?) fun i => ys[i]?)) : Itd K F0 J (zipL ds es) := by
  have hl : (zipL ds es).length = n := by rw [zipL_len, hn, dpLen hp, dpLen hq]
  refine ⟨fun i H h hi => w.goes i H (by rw [← hl]; exact hi) (hP H h), fun H h => by rw [hl]; exact w.stops H (hP H h), fun i F H x H' h1 h2 hi y => ?_⟩
  obtain ⟨T, a, b, e1, e2, e3, e4, e5⟩ := w.yields i H x H' (by rw [← hl]; exact hi) (hP H (h1.trans h2)) y
  obtain ⟨d, hd, q1⟩ := dpAtV hp e4
  obtain ⟨e, he, q2⟩ := dpAtV hq e5
  subst e1 e3
  obtain ⟨F', a1, a2, a3⟩ := newPair h2 e2 (dpMono h1 _ _ q1) (dpMono h1 _ _ q2)
  exact ⟨F', _, zipL_at ds es i d e hd he, a1, a2, a3⟩
theorem walkE {K : PySem.W.Frag} {a : Addr} {xs : List V} : Walk (ItE K a) xs.length (fun H => SqT K H a xs) (YPair (fun i => some (.int (i : Nat))) fun i => xs[i]?) := by
  refine ⟨fun i _ hi q => ⟨xs, xs[i], q, by simp [hi]⟩, fun _ q => ⟨xs, q, rfl⟩, fun i H v H' _ q y => ?_⟩
  obtain ⟨T, x, h1, h2, h3, h4⟩ := y
  exact ⟨T, .int (i : Nat), x, h1, h2, h3, rfl, h4 xs q⟩
theorem walkZ {K : PySem.W.Frag} {a b : Addr} {xs ys : List V} {n : Nat} (hn : n = min xs.length ys.length) : Walk (RZ.ItzT K a b) n (fun H => SqT K H a xs ∧ SqT K H b ys) (YPair (fun i => xs[i]?) (fun i => ys[i]?)) := by
  subst hn
  refine ⟨fun i _ hi q => ?_, fun _ q => ⟨xs, ys, q.1, q.2, by omega⟩, fun i H v H' _ q y => ?_⟩
  · have h1 : i < xs.length := by omega
    have h2 : i < ys.length := by omega
    exact ⟨xs, ys, xs[i], ys[i], q.1, q.2, by simp [h1], by simp [h2]⟩
  · obtain ⟨T, x, z, h1, h2, h3, h4, h5⟩ := y
    exact ⟨T, x, z, h1, h2, h3, h4 xs q.1, h5 ys q.2⟩
def iEnum' (f : Fa) : Fa := fun g => match f g with
  | some ([d], g') => (seqD d).map fun ds => (pairL 0 ds, g')
  | _ => none
theorem dpOne {K : PySem.W.Frag} {F : Hp} {vs : List V} {d : D} (h : DpAll K F vs [d]) : ∃ v, vs = [v] ∧ Dp K F v d := by
  cases h with
  | cons h1 h2 => cases h2; exact ⟨_, rfl, h1⟩
theorem dpTwo {K : PySem.W.Frag} {F : Hp} {vs : List V} {d e : D} (h : DpAll K F vs [d, e]) : ∃ v w, vs = [v, w] ∧ Dp K F v d ∧ Dp K F w e := by
  cases h with
  | cons h1 h2 =>
    obtain ⟨w, rfl, q⟩ := dpOne h2
    exact ⟨_, w, rfl, h1, q⟩
theorem di_enum {a : Expr} {p pos tp : Pos} {es : List Expr} {kk : Nat} {f : Fa} (hg : Gl X "enumerate") (hm : X.mg "enumerate" = none) (ha : DA X [a] f) (hs : starEach [a] X.env = [(false, eval a X.env)] := by rfl) :
    DI X (.Tuple es kk tp) (.Call (.Name "enumerate" p) [a] [] pos) (iEnum' f) := piMono (piOr (pi_enum hg hm ha hs) (pi_enT hg hm ha hs)) fun s H R ⟨F, g, ds, g', r, e, k⟩ => by
  unfold iEnum' at e
  split at e
  · rename_i d g1 q
    cases d with
    | list xs =>
      cases e
      refine .inl ⟨F, g, _, _, r, q, fun vs F1 H1 p1 r1 t1 m1 => ?_⟩
      obtain ⟨v, rfl, h⟩ := dpOne p1
      cases h with
      | lst hs ha => exact ⟨_, _, rfl, r1.fh.seq hs, k _ F1 H1 r1 t1 m1 (itdPair ha (fun H q => q.seq hs) walk_enum)⟩
    | tuple xs =>
      cases e
      refine .inr ⟨F, g, _, _, r, q, fun vs F1 H1 p1 r1 t1 m1 => ?_⟩
      obtain ⟨v, rfl, h⟩ := dpOne p1
      cases h with
      | tup hs ha => exact ⟨_, _, rfl, Same.tupS r1.fh hs, k _ F1 H1 r1 t1 m1 (itdPair ha (fun H q => Same.tupS q hs) walkE)⟩
    | _ => cases e
  · cases e
def iZip2 (f : Fa) : Fa := fun g => match f g with
  | some ([.tuple xs, .tuple ys], g') => some (zipL xs ys, g')
  | some ([.list xs, .list ys], g') => some (zipL xs ys, g')
  | _ => none
theorem di_zip {a b : Expr} {p pos tp : Pos} {es : List Expr} {kk : Nat} {f : Fa} (hg : Gl X "zip") (hm : X.mg "zip" = none) (ha : DA X [a, b] f)
    (hs : starEach [a, b] X.env = (false, eval a X.env) :: starEach [b] X.env := by rfl) (hpl : (backTo pos (starEach [b] X.env)).any (·.1) = false := by rfl) :
    DI X (.Tuple es kk tp) (.Call (.Name "zip" p) [a, b] [] pos) (iZip2 f) := piMono (RZ.pi_zipA hg hm ha hs hpl) fun s H R ⟨F, g, ds, g', r, e, k⟩ => by
  unfold iZip2 at e
  split at e
  · rename_i xs ys g1 q
    cases e
    refine ⟨F, g, _, _, r, q, fun vs F1 H1 p1 r1 t1 m1 => ?_⟩
    obtain ⟨v, w, rfl, h1, h2⟩ := dpTwo p1
    cases h1 with
    | tup hs ha =>
      cases h2 with
      | tup hs2 ha2 => exact ⟨_, _, _, _, rfl, .inr ⟨Same.tupS r1.fh hs, Same.tupS r1.fh hs2, k _ F1 H1 r1 t1 m1 (itdZip rfl ha ha2 (fun H q => ⟨Same.tupS q hs, Same.tupS q hs2⟩) (walkZ rfl))⟩⟩
  · rename_i xs ys g1 q
    cases e
    refine ⟨F, g, _, _, r, q, fun vs F1 H1 p1 r1 t1 m1 => ?_⟩
    obtain ⟨v, w, rfl, h1, h2⟩ := dpTwo p1
    cases h1 with
    | lst hs ha =>
      cases h2 with
      | lst hs2 ha2 => exact ⟨_, _, _, _, rfl, .inl ⟨r1.fh.seq hs, r1.fh.seq hs2, k _ F1 H1 r1 t1 m1 (itdZip rfl ha ha2 (fun H q => ⟨q.seq hs, q.seq hs2⟩) (walk_zip rfl))⟩⟩
  · cases e

/-! ### for -/
def forGo (t : Fg) (b : Fs) : List D → G → Option Out
  | [], g => some (.nx g)
  | d :: r, g => (t d g).bind fun g1 => (b g1).bind fun o => match o with
    | .nx g2 => forGo t b r g2
    | .ct g2 => forGo t b r g2
    | .bk g2 => some (.nx g2)
    | .ret x g2 => some (.ret x g2)
def sFor (f : Fa) (t : Fg) (b : Fs) : Fs := fun g => (f g).bind fun p => forGo t b p.1 p.2
theorem dropCons {ds : List D} {i : Nat} {d : D} (h : ds[i]? = some d) : ds.drop i = d :: ds.drop (i + 1) := by
  obtain ⟨hi, e⟩ := List.getElem?_eq_some_iff.mp h
  rw [List.drop_eq_getElem_cons hi, e]
theorem ds_for {tg iter : Expr} {body : List Stmt} {pos : Pos} {f : Fa} {t : Fg} {ws : List Nat} {b : Fs} (hp : PassesOwn (model X.prog X.w) X.A X.env X.xe) (hc : X.calm = true) (hi : DI X tg iter f) (hg : DG X tg t ws) (hb : DSs X body b)
    (hs : ∀ x, foldedSetIterable iter X.env x = pure x := by intro _; rfl) : DS X (.For tg iter body [] pos) (sFor f t b) := psMono (ps_for hp hc hi hg hb hs) fun D s H ⟨F, g, o, r, e, k⟩ => by
  unfold sFor at e
  cases q : f g with
  | none => rw [q] at e; cases e
  | some p =>
    obtain ⟨ds, g1⟩ := p
    rw [q] at e
    have e : forGo t b ds g1 = some o := e
    refine ⟨F, g, ds, g1, r, q, fun J F1 H1 r1 t1 m1 hJ => ?_⟩
    have tr1 := Tr.of r1 t1 m1
    refine ⟨fun i m s2 H2 => m = ds.length - i ∧ i ≤ ds.length ∧ ∃ F2 g2, Tr X.K F g s H F2 g2 s2 H2 ∧ Same F1 F2 ∧ forGo t b (ds.drop i) g2 = some o, ⟨ds.length, by simp, Nat.zero_le _, F1, g1, tr1, .refl _, by rw [List.drop_zero]; exact e⟩, ?_⟩
    rintro i m s2 H2 ⟨rfl, hle, F2, g2, tr2, sm2, w⟩
    by_cases hlt : i < ds.length
    · obtain ⟨d, hd⟩ : ∃ d, ds[i]? = some d := ⟨ds[i], List.getElem?_eq_getElem hlt⟩
      rw [dropCons hd] at w
      unfold forGo at w
      cases q1 : t d g2 with
      | none => rw [q1] at w; cases w
      | some g3 =>
        rw [q1] at w
        have w : (b g3).bind _ = some o := w
        cases q2 : b g3 with
        | none => rw [q2] at w; cases w
        | some o3 =>
          rw [q2] at w
          -- one turn: the item, the target, the body
          have step : ∀ (N : Sg → Hp → Prop) (bk : Sg → Hp → Prop) (rt : VK), (∀ F3 s3 H3, Tr X.K F g s H F3 g3 s3 H3 → Same F1 F3 → endS X.K F3 g3 s3 H3 { nx := N, rt := rt, bk := bk, ct := N } o3) → ∀ x H', J.yld i H2 x H' → tG X.K t ws x s2 H' fun s3 H3 => tS X.K b { nx := N, rt := rt, bk := bk, ct := N } s3 H3 := fun N bk rt hN x H' y => by
            obtain ⟨F', d', hd', hx, fh, st⟩ := hJ.yld i F2 H2 x H' sm2 tr2.rep.fh hlt y
            rw [hd] at hd'; cases hd'
            have r' := tr2.rep.stepN st fh
            have tr' : Tr X.K F g s H F' g2 s2 H' := tr2.trans ⟨r', st.weak fun _ z => z.elim, fun _ z => .inl z⟩
            exact ⟨F', g2, d, g3, r', hx, q1, fun F3 s3 H3 t3 _ _ => ⟨F3, g3, o3, t3.rep, q2, hN F3 s3 H3 (tr'.trans t3) ((sm2.trans st.fs).trans t3.stp.fs)⟩⟩
          refine .inr ⟨hJ.go i H2 (sm2.trans tr2.rep.fh) hlt, ?_⟩
          cases o3 with
          | nx g4 =>
            have w : forGo t b (ds.drop (i + 1)) g4 = some o := w
            refine ⟨fun s4 H4 => ∃ F4, Tr X.K F g s H F4 g4 s4 H4 ∧ Same F1 F4, fun s4 H4 ⟨F4, t4, sm4⟩ => ⟨ds.length - (i + 1), by omega, rfl, hlt, F4, g4, t4, sm4, w⟩, step _ _ _ fun F3 s3 H3 t3 sm3 F4 s4 H4 t4 => ⟨F4, t3.trans t4, sm3.trans t4.stp.fs⟩⟩
          | ct g4 =>
            have w : forGo t b (ds.drop (i + 1)) g4 = some o := w
            refine ⟨fun s4 H4 => ∃ F4, Tr X.K F g s H F4 g4 s4 H4 ∧ Same F1 F4, fun s4 H4 ⟨F4, t4, sm4⟩ => ⟨ds.length - (i + 1), by omega, rfl, hlt, F4, g4, t4, sm4, w⟩, step _ _ _ fun F3 s3 H3 t3 sm3 F4 s4 H4 t4 => ⟨F4, t3.trans t4, sm3.trans t4.stp.fs⟩⟩
          | bk g4 =>
            cases w
            exact ⟨fun _ _ => False, fun _ _ z => z.elim, step _ _ _ fun F3 s3 H3 t3 sm3 F4 s4 H4 t4 => k F4 s4 H4 (t3.trans t4)⟩
          | ret x g4 =>
            cases w
            exact ⟨fun _ _ => False, fun _ _ z => z.elim, step _ _ _ fun F3 s3 H3 t3 sm3 v F4 s4 H4 a n b t4 => k v F4 s4 H4 a n (b.back t3) (t3.trans t4)⟩
    · have hi : i = ds.length := by omega
      subst hi
      rw [List.drop_length] at w
      cases w
      exact .inl ⟨hJ.stop H2 (sm2.trans tr2.rep.fh), k F2 s2 H2 tr2⟩
end Dl
set_option Elab.async false
set_option linter.all false
set_option maxRecDepth 100000
namespace Dl
open PySem PySem.Spec PyProof.Rows L2
variable {X : Cx}

/-! ### comprehensions -/
def wipeG (g : G) : List Nat → G
  | [] => g
  | v :: vs => (wipeG g vs).set v .no
/-- the block's own slots as they were ahead of it -/
def backG (g1 g2 : G) : List Nat → G
  | [] => g2
  | v :: vs => (backG g1 g2 vs).set v (g1.getD v .no)
def okW (g : G) (vs : List Nat) : Bool := vs.all fun i => match g[i]? with
  | some (.own _ _) => false
  | _ => true
def lcGo (t : Fg) (c : Ft) (f : Fe) (vs : List Nat) : List D → G → Option (List D × G)
  | [], g => some ([], g)
  | d :: r, g => (t d g).bind fun g1 => (c g1).bind fun p => if p.1 = true then (f p.2).bind fun q => (lcGo t c f vs r (wipeG q.2 vs)).map fun w => (q.1 :: w.1, w.2) else lcGo t c f vs r (wipeG p.2 vs)
def vLc (fi : Fa) (t : Fg) (c : Ft) (f : Fe) (vs : List Nat) : Fv := fun g => (fi g).bind fun p => if okW p.2 vs = true then (lcGo t c f vs p.1 (wipeG p.2 vs)).bind fun q => if q.1.length ≤ 1000000 then some (.own none q.1, backG p.2 q.2 vs) else none else none

theorem wipeG_len (g : G) : ∀ vs, (wipeG g vs).length = g.length
  | [] => rfl
  | v :: vs => by simp [wipeG, wipeG_len g vs]
theorem wipeG_at (g : G) : ∀ (vs : List Nat) (i : Nat), i ∉ vs → (wipeG g vs)[i]? = g[i]?
  | [], _, _ => rfl
  | v :: vs, i, h => by
    have h1 : v ≠ i := fun e => h (by simp [e])
    rw [wipeG, List.getElem?_set_ne h1]
    exact wipeG_at g vs i fun z => h (List.mem_cons_of_mem _ z)
theorem wipeG_in (g : G) : ∀ (vs : List Nat) (i : Nat) (x : Sl), i ∈ vs → (wipeG g vs)[i]? = some x → x = .no
  | [], _, _, h, _ => by simp at h
  | v :: vs, i, x, h, e => by
    by_cases h1 : v = i
    · subst h1
      rw [wipeG] at e
      by_cases hv : v < (wipeG g vs).length
      · rw [List.getElem?_set_self hv] at e; cases e; rfl
      · rw [List.getElem?_eq_none (by simpa using hv)] at e; cases e
    · rw [wipeG, List.getElem?_set_ne h1] at e
      exact wipeG_in g vs i x ((List.mem_cons.mp h).resolve_left fun z => h1 z.symm) e
theorem wipeMo (g : G) (vs : List Nat) : Mo g (wipeG g vs) := fun i t ds e => by
  by_cases h : i ∈ vs
  · cases wipeG_in g vs i _ h e
  · rw [wipeG_at g vs i h] at e; exact ⟨ds, e⟩
theorem Rep.wipe {K : PySem.W.Frag} {F H : Hp} {g : G} {s : Sg} (r : Rep K F g s H) : ∀ vs : List Nat, Rep K F (wipeG g vs) (L2.wipe s vs) H
  | [] => r
  | v :: vs => (r.wipe vs).put v .no none trivial (fun _ _ _ e => nomatch e)
theorem ownWipe {g : G} {s : Sg} {vs : List Nat} {b : Addr} (h : OwnAt (wipeG g vs) (L2.wipe s vs) b) : OwnAt g s b := by
  obtain ⟨i, t, ds, e, q⟩ := h
  by_cases hi : i ∈ vs
  · cases wipeG_in g vs i _ hi e
  · rw [wipeG_at g vs i hi] at e
    exact ⟨i, t, ds, e, (wipe_some q).1⟩
theorem backG_len (g1 g2 : G) : ∀ vs, (backG g1 g2 vs).length = g2.length
  | [] => rfl
  | v :: vs => by simp [backG, backG_len g1 g2 vs]
theorem backG_at (g1 g2 : G) : ∀ (vs : List Nat) (i : Nat), i ∉ vs → (backG g1 g2 vs)[i]? = g2[i]?
  | [], _, _ => rfl
  | v :: vs, i, h => by
    have h1 : v ≠ i := fun e => h (by simp [e])
    rw [backG, List.getElem?_set_ne h1]
    exact backG_at g1 g2 vs i fun z => h (List.mem_cons_of_mem _ z)
theorem backG_in (g1 g2 : G) : ∀ (vs : List Nat) (i : Nat) (x : Sl), i ∈ vs → (backG g1 g2 vs)[i]? = some x → x = g1.getD i .no
  | [], _, _, h, _ => by simp at h
  | v :: vs, i, x, h, e => by
    by_cases h1 : v = i
    · subst h1
      rw [backG] at e
      by_cases hv : v < (backG g1 g2 vs).length
      · rw [List.getElem?_set_self hv] at e; cases e; rfl
      · rw [List.getElem?_eq_none (by simpa using hv)] at e; cases e
    · rw [backG, List.getElem?_set_ne h1] at e
      exact backG_in g1 g2 vs i x ((List.mem_cons.mp h).resolve_left fun z => h1 z.symm) e
theorem okW_at {g : G} {vs : List Nat} (h : okW g vs = true) {i : Nat} (hi : i ∈ vs) : ∀ t ds, g[i]? ≠ some (.own t ds) := fun t ds e => by
  have := List.all_eq_true.mp h i hi
  rw [e] at this
  cases this
/-- the frame's slots behind the block -/
theorem Rep.back {K : PySem.W.Frag} {F1 H1 F2 H2 : Hp} {g1 g2 : G} {s : Sg} {vs : List Nat} (r1 : Rep K F1 g1 s H1) (r2 : Rep K F2 g2 (L2.wipe s vs) H2) (hf : Same F1 F2) (ok : okW g1 vs = true) : Rep K F2 (backG g1 g2 vs) s H2 := by
  have len : g2.length = s.length := by rw [r2.len, wipe_length]
  have own : ∀ i t ds, (backG g1 g2 vs)[i]? = some (.own t ds) → i ∉ vs ∧ g2[i]? = some (.own t ds) := fun i t ds e => by
    by_cases hi : i ∈ vs
    · have z := backG_in g1 g2 vs i _ hi e
      have nx := okW_at ok hi
      rw [List.getD_eq_getElem?_getD] at z
      cases q : g1[i]? with
      | none => rw [q] at z; cases z
      | some y => rw [q] at z; subst z; exact absurd q (nx t ds)
    · rw [backG_at g1 g2 vs i hi] at e; exact ⟨hi, e⟩
  refine ⟨r2.fh, by rw [backG_len]; exact len, fun i x o hx ho => ?_, fun i j a t u ds es h1 h2 h3 h4 => ?_⟩
  · by_cases hi : i ∈ vs
    · have z := backG_in g1 g2 vs i x hi hx
      rw [List.getD_eq_getElem?_getD] at z
      cases q : g1[i]? with
      | none => rw [q] at z; subst z; trivial
      | some y =>
        rw [q] at z
        subst z
        have hr := r1.sl i x o q ho
        cases x with
        | no => trivial
        | ex _ => exact hr
        | v d =>
          obtain ⟨w, ew, hw⟩ := hr
          exact ⟨w, ew, dpMono hf _ _ hw⟩
        | own t ds => exact absurd q (okW_at ok hi t ds)
    · rw [backG_at g1 g2 vs i hi] at hx
      exact r2.sl i x o hx (by rw [wipe_out hi]; exact ho)
  · obtain ⟨n1, e1⟩ := own i t ds h1
    obtain ⟨n2, e2⟩ := own j u es h2
    exact r2.uq i j a t u ds es e1 e2 (by rw [wipe_out n1]; exact h3) (by rw [wipe_out n2]; exact h4)
theorem backMo {g1 g2 : G} {vs : List Nat} (ok : okW g1 vs = true) (m : Mo (wipeG g1 vs) g2) : Mo g1 (backG g1 g2 vs) := fun i t ds e => by
  by_cases hi : i ∈ vs
  · have z := backG_in g1 g2 vs i _ hi e
    rw [List.getD_eq_getElem?_getD] at z
    cases q : g1[i]? with
    | none => rw [q] at z; cases z
    | some y => rw [q] at z; subst z; exact absurd q (okW_at ok hi t ds)
  · rw [backG_at g1 g2 vs i hi] at e
    obtain ⟨es, h⟩ := m i t ds e
    rw [wipeG_at g1 vs i hi] at h
    exact ⟨es, h⟩
theorem chgWipe {s s' : Sg} {ws vs : List Nat} (c : Chg ws (L2.wipe s vs) s') (h : ∀ i ∈ ws, i ∈ vs) : L2.wipe s' vs = L2.wipe s vs := by
  apply List.ext_getElem?
  intro i
  by_cases hi : i ∈ vs
  · have key : ∀ (t : Sg) (us : List Nat), i ∈ us → (L2.wipe t us)[i]? = if i < t.length then some none else none := by
      intro t us
      induction us with
      | nil => intro hm; simp at hm
      | cons u us ih =>
        intro hm
        unfold L2.wipe
        by_cases hu : u = i
        · subst hu
          by_cases hl : u < t.length
          · rw [if_pos hl, List.getElem?_set_self (by rw [wipe_length]; exact hl)]
          · rw [if_neg hl, List.getElem?_eq_none (by rw [List.length_set, wipe_length]; omega)]
        · rw [List.getElem?_set_ne hu]
          exact ih ((List.mem_cons.mp hm).resolve_left fun z => hu z.symm)
    rw [key s' vs hi, key s vs hi, c.len, wipe_length]
  · rw [wipe_out hi, c.at' i fun z => hi (h i z)]

theorem appNew {K : PySem.W.Frag} {F H : Hp} {g : G} {s : Sg} {p : Addr} {xs : List V} {y : V} (r : Rep K F g s H) (fp : F p = none) (n : ¬ OwnAt g s p) (hp : H p = some (.lst xs)) :
    Rep K F g s (upd H p (.lst (xs ++ [y]))) ∧ Stp (fun b => b = p) F H F (upd H p (.lst (xs ++ [y]))) := by
  have t1 : Stp (fun b => b = p) F H F (upd H p (.lst (xs ++ [y]))) := ⟨.refl _, fun b o e n => by rw [upd_ne n]; exact e, fun b e e' => absurd e e', fun b e => by
    by_cases z : b = p
    · rw [z, upd_same]; simp
    · rw [upd_ne z]; exact e⟩
  exact ⟨r.step t1 (fun b hb z => n (by rw [← z]; exact hb)) fun b u e => by rw [upd_ne (ne_of_none e fp)]; exact r.fh b u e, t1⟩

/-- the reading of a comprehension, by data -/
theorem tLc_ofX {K : PySem.W.Frag} {wi : TI} {t : Fg} {ws : List Nat} {c : Ft} {f : Fe} {vs : List Nat} (hw : ∀ i ∈ ws, i ∈ vs) {s : Sg} {F H : Hp} {g g1 g' : G} {ds : List D} {x : Sl} {Q : VK}
    (hwi : ∀ R : It → Hp → Prop, (∀ J F' H', Rep K F' g1 s H' → Stp (OwnAt g s) F H F' H' → Mo g g1 → Itd K F' J ds → R J H') → wi s H R) (r : Rep K F g s H) (e : vLc (fun _ => some (ds, g1)) t c f vs g = some (x, g'))
    (k : ∀ v F' H', RepS K F' H' x (some v) → (∀ t ds, x = .own t ds → t = none ∧ ∃ a, v = .ref a ∧ H a = none) → Rep K F' g' s H' → Stp (OwnAt g s) F H F' H' → Mo g g' → Q v H') : tLc wi (tG K t ws) (tT K c) (tD K f) vs s H Q := by
  unfold vLc at e
  simp only [Option.bind_some] at e
  split at e
  · rename_i ok
    cases q2 : lcGo t c f vs ds (wipeG g1 vs) with
    | none => rw [q2] at e; cases e
    | some p2 =>
      obtain ⟨ys, gE⟩ := p2
      rw [q2] at e
      simp only [Option.bind_some] at e
      split at e
      · rename_i hlen
        cases e
        refine hwi _ fun J F1 H1 r1 t1 m1 hJ A nA => ?_
        have h0A : H A = none := by
          cases z : H A with
          | none => rfl
          | some o => exact absurd nA (t1.dom A (by rw [z]; simp))
        have nOwn : ¬ OwnAt g1 s A := fun z => by
          obtain ⟨xs, hx, _⟩ := r1.ownSome z
          rw [nA] at hx; cases hx
        -- what is true at each turn
        refine ⟨fun i m H2 => m = ds.length - i ∧ i ≤ ds.length ∧ ∃ F2 g2 acc accV rest, Rep K F2 g2 (L2.wipe s vs) H2 ∧ Same F1 F2 ∧ F2 A = none ∧ H2 A = some (.lst accV) ∧ DpAll K F2 accV acc ∧ Stp (OwnAt g1 s) F1 H1 F2 H2 ∧ Mo (wipeG g1 vs) g2 ∧ lcGo t c f vs (ds.drop i) g2 = some (rest, gE) ∧ acc ++ rest = ys,
          ⟨ds.length, by simp, Nat.zero_le _, F1, wipeG g1 vs, [], [], ys, (r1.wipe vs).stepN (Stp.made nA) (sameMade r1.fh nA), .refl _, nF r1.fh nA, upd_same, .nil, Stp.made nA, Mo.refl, by rw [List.drop_zero]; exact q2, rfl⟩, ?_⟩
        rintro i m H2 ⟨rfl, hle, F2, g2, acc, accV, rest, r2, sm2, fA, hA, hac, st2, mo2, w, hsum⟩
        have nOwn2 : ∀ {g3 : G} {s3 : Sg}, (∀ b, OwnAt g3 s3 b → OwnAt g2 (L2.wipe s vs) b ∨ H2 b = none) → ¬ OwnAt g3 s3 A := fun {g3 s3} hh z => by
          rcases hh A z with z | z
          · obtain ⟨j, tg, es, e1, e2⟩ := z
            obtain ⟨es', e3⟩ := mo2 j tg es e1
            exact nOwn (ownWipe ⟨j, tg, es', e3, e2⟩)
          · rw [hA] at z; cases z
        by_cases hlt : i < ds.length
        · obtain ⟨d, hd⟩ : ∃ d, ds[i]? = some d := ⟨ds[i], List.getElem?_eq_getElem hlt⟩
          rw [dropCons hd] at w
          unfold lcGo at w
          cases q3 : t d g2 with
          | none => rw [q3] at w; cases w
          | some g3 =>
            rw [q3] at w
            have w : (c g3).bind _ = some (rest, gE) := w
            cases q4 : c g3 with
            | none => rw [q4] at w; cases w
            | some p4 =>
              obtain ⟨cb, g4⟩ := p4
              rw [q4] at w
              refine .inr ⟨hJ.go i H2 (sm2.trans r2.fh) hlt, fun H5 => ∃ F2 g2 acc accV rest, Rep K F2 g2 (L2.wipe s vs) H5 ∧ Same F1 F2 ∧ F2 A = none ∧ H5 A = some (.lst accV) ∧ DpAll K F2 accV acc ∧ Stp (OwnAt g1 s) F1 H1 F2 H5 ∧ Mo (wipeG g1 vs) g2 ∧ lcGo t c f vs (ds.drop (i + 1)) g2 = some (rest, gE) ∧ acc ++ rest = ys, fun H5 hN => ⟨ds.length - (i + 1), by omega, rfl, hlt, hN⟩, fun x H' y => ?_⟩
              obtain ⟨F', d', hd', hx, fh, st⟩ := hJ.yld i F2 H2 x H' sm2 r2.fh hlt y
              rw [hd] at hd'; cases hd'
              have r' := r2.stepN st fh
              refine ⟨F', g2, d, g3, r', hx, q3, fun F3 s3 H3 t3 m3 c3 => ⟨chgWipe c3 hw, F3, g3, cb, g4, t3.rep, q4, fun F4 H4 r4 st4 m4 => ?_⟩⟩
              have tr : Tr K F2 g2 (L2.wipe s vs) H2 F4 g4 s3 H4 := (Tr.trans ⟨r', st.weak fun _ z => z.elim, fun _ z => .inl z⟩ t3).trans (Tr.of r4 st4 m4)
              have moT : Mo (wipeG g1 vs) g4 := (mo2.trans m3).trans m4
              have keepA : ∀ {F9 H9 : Hp} {g9 : G}, Tr K F2 g2 (L2.wipe s vs) H2 F9 g9 s3 H9 → H9 A = some (.lst accV) ∧ F9 A = none := fun {F9 H9 g9} t9 => by
                have n2 : ¬ OwnAt g2 (L2.wipe s vs) A := nOwn2 fun _ z => .inl z
                refine ⟨t9.stp.keep A _ hA n2, ?_⟩
                cases z : F9 A with
                | none => rfl
                | some u =>
                  rcases t9.stp.fresh A fA (by rw [z]; simp) with z2 | z2
                  · rw [hA] at z2; cases z2
                  · exact absurd z2 n2
              have stAll : ∀ {F9 H9 : Hp} {g9 : G}, Tr K F2 g2 (L2.wipe s vs) H2 F9 g9 s3 H9 → Stp (OwnAt g1 s) F1 H1 F9 H9 := fun {F9 H9 g9} t9 => st2.trans t9.stp fun b z => by
                obtain ⟨j, tg, es, e1, e2⟩ := z
                obtain ⟨es', e3⟩ := mo2 j tg es e1
                exact .inl (ownWipe ⟨j, tg, es', e3, e2⟩)
              have wp : ∀ {F9 H9 : Hp} {g9 : G}, Rep K F9 g9 s3 H9 → Rep K F9 (wipeG g9 vs) (L2.wipe s vs) H9 := fun {F9 H9 g9} r9 => by
                have := r9.wipe vs
                rwa [chgWipe c3 hw] at this
              cases cb with
              | true =>
                refine iteT ?_
                have w : (f g4).bind _ = some (rest, gE) := w
                cases q5 : f g4 with
                | none => rw [q5] at w; cases w
                | some p5 =>
                  obtain ⟨yd, g5⟩ := p5
                  rw [q5] at w
                  have w : (lcGo t c f vs (ds.drop (i + 1)) (wipeG g5 vs)).map _ = some (rest, gE) := w
                  cases q6 : lcGo t c f vs (ds.drop (i + 1)) (wipeG g5 vs) with
                  | none => rw [q6] at w; cases w
                  | some p6 =>
                    obtain ⟨rs, g6⟩ := p6
                    rw [q6] at w
                    cases w
                    refine ⟨F4, g4, yd, g5, r4, q5, fun yv F5 H5 hy r5 st5 m5 => ?_⟩
                    have tr5 := tr.trans (Tr.of r5 st5 m5)
                    obtain ⟨hA5, fA5⟩ := keepA tr5
                    refine ⟨accV, hA5, ?_, ?_⟩
                    · rw [dpLen hac]
                      have : acc.length < ys.length := by rw [← hsum]; simp
                      exact Nat.lt_of_lt_of_le this (Nat.le_trans hlen million)
                    · obtain ⟨ra, sa⟩ := appNew (y := yv) r5 fA5 (nOwn2 tr5.own) hA5
                      refine ⟨F5, wipeG g5 vs, acc ++ [yd], accV ++ [yv], rs, wp ra, sm2.trans tr5.stp.fs, fA5, upd_same, dpApp (dpMonos tr5.stp.fs _ _ hac) (.cons hy .nil), ?_, (moT.trans m5).trans (wipeMo g5 vs), q6, by rw [← hsum]; simp⟩
                      exact (stAll tr5).trans sa fun b z => .inr (by rw [z]; exact nA)
              | false =>
                refine iteF ?_
                have w : lcGo t c f vs (ds.drop (i + 1)) (wipeG g4 vs) = some (rest, gE) := w
                obtain ⟨hA5, fA5⟩ := keepA tr
                exact ⟨F4, wipeG g4 vs, acc, accV, rest, wp r4, sm2.trans tr.stp.fs, fA5, hA5, dpMonos tr.stp.fs _ _ hac, stAll tr, moT.trans (wipeMo g4 vs), w, hsum⟩
        · have hi : i = ds.length := by omega
          subst hi
          rw [List.drop_length] at w
          cases w
          rw [List.append_nil] at hsum
          subst hsum
          refine .inl ⟨hJ.stop H2 (sm2.trans r2.fh), k (.ref A) F2 H2 ⟨A, accV, rfl, fA, hA, hac, fun b e => nomatch e⟩ (fun tg es z => ?_) (r1.back r2 sm2 ok) (t1.two m1 st2) (m1.trans (backMo ok mo2))⟩
          cases z
          exact ⟨rfl, A, rfl, h0A⟩
      · cases e
  · cases e
theorem tLc_of {K : PySem.W.Frag} {fi : Fa} {t : Fg} {ws : List Nat} {c : Ft} {f : Fe} {vs : List Nat} (hw : ∀ i ∈ ws, i ∈ vs) {s : Sg} {H : Hp} {Q : VK} (h : tV K (vLc fi t c f vs) s H Q) : tLc (tI K fi) (tG K t ws) (tT K c) (tD K f) vs s H Q := by
  obtain ⟨F, g, x, g', r, e, k⟩ := h
  cases q : fi g with
  | none =>
    unfold vLc at e
    rw [q] at e; cases e
  | some p =>
    obtain ⟨ds, g1⟩ := p
    have e2 : vLc (fun _ => some (ds, g1)) t c f vs g = some (x, g') := by
      unfold vLc at e ⊢
      rw [q] at e
      exact e
    exact tLc_ofX hw (fun R hR => ⟨F, g, ds, g1, r, q, hR⟩) r e2 k
def cYes : Ft := fun g => some (true, g)
abbrev Blk (X : Cx) (scope : Scope) (st : Shared) (H : Hp) (C : Addr) (cl : List (Str × Addr)) (fp : List Addr) : Cx := X.blk st H scope (compEnvC scope cl C X.env) fp
def DCs (X : Cx) (ifs : List Expr) (c : Ft) : Prop := PTs X ifs (tT X.K c)
theorem dcs_nil : DCs X [] cYes := ⟨fun pins st s H Q I ⟨F, g, b, g', r, e, k⟩ => by
  cases e
  exact pts_nil.run pins st s H Q I (k F H r Stp.refl Mo.refl)⟩
theorem dcs_one {a : Expr} {c : Ft} (h : DT X a c) : DCs X [a] c := pts_one h
theorem dv_lc {elt tg iter : Expr} {ifs : List Expr} {scope : Scope} (own : List (Str × Nat)) {pos : Pos} {fi : Fa} {t : Fg} {ws : List Nat} {c : Ft} {f : Fe} (hc : X.calm = true) (hN : X.N.Nodup) (hi : DI X tg iter fi) (ok : blkC X.N X.env.scope scope own = true)
    (hg : ∀ st H C cl fp, DG (Blk X scope st H C cl fp) tg t ws) (ht : ∀ st H C cl fp, DCs (Blk X scope st H C cl fp) ifs c)
    (he : ∀ st H C cl fp, DE (Blk X scope st H C cl fp) elt f) (hw : ∀ i ∈ ws, i ∈ own.map (·.2) := by decide) (hs : ∀ x, foldedSetIterable iter X.env x = pure x := by intro _; rfl) :
    DV X (.ListComp elt [⟨tg, iter, ifs, 0⟩] scope pos) (vLc fi t c f (own.map (·.2))) := peMono (pe_lc (g := tG X.K t ws) (tt := tT X.K c) (te := tD X.K f) hc hN hi (blkOk_by ok) hg ht he hs) fun _ _ _ h => tLc_of hw h
/-- name = [..] on one row -/
theorem ds_setLc (i : Nat) {y : Str} {py : Pos} {elt tg iter : Expr} {ifs : List Expr} {scope : Scope} (own : List (Str × Nat)) {pos spos : Pos} {fi : Fa} {t : Fg} {ws : List Nat} {c : Ft} {f : Fe} (hc : X.calm = true) (hN : X.N.Nodup) (hi : DI X tg iter fi) (ok : blkC X.N X.env.scope scope own = true)
    (hg : ∀ st H C cl fp, DG (Blk X scope st H C cl fp) tg t ws) (ht : ∀ st H C cl fp, DCs (Blk X scope st H C cl fp) ifs c)
    (he : ∀ st H C cl fp, DE (Blk X scope st H C cl fp) elt f) (hsw : swapsWith (.ListComp elt [⟨tg, iter, ifs, 0⟩] scope pos) (some (.Name y py)) spos.line X.env = pure true) (hy : X.N[i]? = some y := by rfl) (hyl : X.env.scope.names.lookup y = some .local := by rfl)
    (hw : ∀ i ∈ ws, i ∈ own.map (·.2) := by decide) (hs : ∀ x, foldedSetIterable iter X.env x = pure x := by intro _; rfl) :
    DS X (.Assign [.Name y py] (.ListComp elt [⟨tg, iter, ifs, 0⟩] scope pos) spos) (sSet i (vLc fi t c f (own.map (·.2)))) := psMono (ps_setLc (g := tG X.K t ws) (tt := tT X.K c) (te := tD X.K f) hc hN hy hyl hsw hi (blkOk_by ok) hg ht he hs) fun D s H ⟨F, g, o, r, e, k⟩ => by
  unfold sSet at e
  cases q : vLc fi t c f (own.map (·.2)) g with
  | none => rw [q] at e; cases e
  | some p =>
    obtain ⟨x, g1⟩ := p
    rw [q] at e
    exact tLc_of hw ⟨F, g, x, g1, r, q, fun v F1 H1 hv hn r1 t1 m1 => set_end r r1 t1 m1 hv hn e k⟩
end Dl
set_option Elab.async false
set_option linter.all false
set_option maxRecDepth 100000
namespace Dl
open PySem PySem.Spec PyProof.Rows L2
variable {X : Cx}

/-! ### built-in functions of one argument -/
def C1Ok (K : PySem.W.Frag) (r : List V → Hp → VK → Prop) (op : D → Option D) : Prop := ∀ (v : V) (d1 d : D) (F H : Hp) (Q : VK), Same F H → BD K F H v d1 → op d1 = some d →
  (∀ v F' H', Dp K F' v d → Same F' H' → Stp Non F H F' H' → Q v H') → r [v] H Q
theorem tCB_of {K : PySem.W.Frag} {r : List V → Hp → VK → Prop} {op : D → Option D} {f : Fe} (ok : C1Ok K r op) {s : Sg} {H : Hp} {Q : VK} (h : tD K (eUn op f) s H Q) : tCB r (tCons (tB K f) tNil) s H Q := by
  obtain ⟨F, g, d, g', rp, e, k⟩ := h
  obtain ⟨d1, e1, e2⟩ := eUn_inv e
  exact ⟨F, g, d1, g', rp, e1, fun v1 F1 H1 p1 r1 t1 m1 => ok v1 d1 d F1 H1 Q r1.fh p1 e2 fun v F2 H2 p2 fh t2 => k v F2 H2 p2 (r1.stepN t2 fh) (t1.andN t2) m1⟩
theorem de_b1 {x : Str} {id : String} {p pos : Pos} {a : Expr} {f : Fe} {r : List V → Hp → VK → Prop} {op : D → Option D} (hc : CallR X (.builtin id) r) (ok : C1Ok X.K r op) (hg : Gl X x) (hm : X.mg x = none) (hv : bootBuiltins x = some (.builtin id)) (ha : DB X a f)
    (hn : x ≠ "__name__" := by decide) (hdb : (x == ("__debug__" : Str)) = false := by decide) (he : starEach [a] X.env = (false, eval a X.env) :: starEach [] X.env := by rfl) (hpl : (backTo pos (starEach [] X.env)).any (·.1) = false := by rfl) : DE X (.Call (.Name x p) [a] [] pos) (eUn op f) :=
  peMono (pe_callB hc hg hm hv (pa_cons ha pa_nil he) hn hdb he hpl) fun _ _ _ h => tCB_of ok h
theorem de_t1 {x : Str} {id : String} {p pos : Pos} {a : Expr} {f : Fe} {r : List V → Hp → VK → Prop} {op : D → Option D} (hc : CallR X (.type id) r) (ok : C1Ok X.K r op) (hg : Gl X x) (hm : X.mg x = none) (hv : bootBuiltins x = some (.type id)) (ha : DB X a f)
    (hn : x ≠ "__name__" := by decide) (hdb : (x == ("__debug__" : Str)) = false := by decide) (he : starEach [a] X.env = (false, eval a X.env) :: starEach [] X.env := by rfl) (hpl : (backTo pos (starEach [] X.env)).any (·.1) = false := by rfl) : DE X (.Call (.Name x p) [a] [] pos) (eUn op f) :=
  peMono (pe_callTy hc hg hm hv (pa_cons ha pa_nil he) hn hdb he hpl) fun _ _ _ h => tCB_of ok h
/-- len -/
def lenD : D → Option D
  | .list ds => some (.int (ds.length : Nat))
  | .tuple ds => some (.int (ds.length : Nat))
  | .str x => if x.length ≤ sizeLine then some (.int (x.length : Nat)) else none
  | _ => none
theorem ok_len : C1Ok X.K (fun xs H Q => ∃ x n, xs = [x] ∧ LenV X.K x H n ∧ Q (.int n) H) lenD := fun v d1 d F H Q fh p e k => by
  have p' := p.dp fh
  unfold lenD at e
  split at e
  · cases e
    cases p' with
    | lst hs ha => exact ⟨_, _, rfl, .inl ⟨_, hs, (dpLen ha).symm⟩, k _ F H (.int _) fh Stp.refl⟩
  · cases e
    cases p' with
    | tup hs ha => exact ⟨_, _, rfl, .inr ⟨_, hs, (dpLen ha).symm⟩, k _ F H (.int _) fh Stp.refl⟩
  · split at e
    · rename_i hz
      cases e
      cases p'
      exact ⟨_, _, rfl, ⟨hz, rfl⟩, k _ F H (.int _) fh Stp.refl⟩
    · cases e
  · cases e
/-- abs -/
def absD : D → Option D
  | .int i => some (.int (if i < 0 then -i else i))
  | _ => none
theorem ok_abs : C1Ok X.K (fun xs H Q => ∃ i, xs = [.int i] ∧ Q (.int (if i < 0 then -i else i)) H) absD := fun v d1 d F H Q fh p e k => by
  have p' := p.dp fh
  unfold absD at e
  split at e
  · cases e
    cases p'
    exact ⟨_, rfl, k _ F H (.int _) fh Stp.refl⟩
  · cases e
/-- int of an int, a bool -/
def intD : D → Option D
  | .int i => some (.int i)
  | .bool b => some (.int (if b then 1 else 0))
  | _ => none
theorem ok_int : C1Ok X.K (fun xs H Q => (∃ i, xs = [.int i] ∧ Q (.int i) H) ∨ ∃ k, xs = [.bl k] ∧ Q (.int (if k then 1 else 0)) H) intD := fun v d1 d F H Q fh p e k => by
  have p' := p.dp fh
  unfold intD at e
  split at e
  · cases e
    cases p'
    exact .inl ⟨_, rfl, k _ F H (.int _) fh Stp.refl⟩
  · cases e
    cases p'
    exact .inr ⟨_, rfl, k _ F H (.int _) fh Stp.refl⟩
  · cases e
/-- tuple -/
def tupD : D → Option D
  | .list ds => some (.tuple ds)
  | .tuple ds => some (.tuple ds)
  | _ => none
theorem ok_tup : C1Ok X.K (fun xs H Q => ∃ p ys, xs = [.ref p] ∧ ((SqL X.K H p ys ∧ ∀ l, H l = none → Q (.ref l) (upd H l (.tup ys))) ∨ (SqT X.K H p ys ∧ Q (.ref p) H))) tupD := fun v d1 d F H Q fh p e k => by
  unfold tupD at e
  split at e
  · cases e
    rcases p with p | ⟨ds, a, xs, e1, e2, ha, hp⟩
    · cases p with
      | lst hs ha => exact ⟨_, _, rfl, .inl ⟨fh.seq hs, newTup fh ha k⟩⟩
    · cases e1
      subst e2
      exact ⟨a, xs, rfl, .inl ⟨SqL.of ha, newTup fh hp k⟩⟩
  · cases e
    rcases p with p | ⟨ds, a, xs, e1, e2, ha, hp⟩
    · cases p with
      | tup hs ha => exact ⟨_, _, rfl, .inr ⟨Same.tupS fh hs, k _ F H (.tup hs ha) fh Stp.refl⟩⟩
    · cases e1
  · cases e
/-- flags of a list -/
def boolL : List D → Option (List Bool)
  | [] => some []
  | .bool b :: r => (boolL r).map fun bs => b :: bs
  | _ => none
theorem boolL_of {K : PySem.W.Frag} {H : Hp} : ∀ {ds : List D} {bs : List Bool} {vs : List V}, boolL ds = some bs → DpAll K H vs ds → vs = bs.map V.bl
  | [], _, _, e, h => by cases e; cases h; rfl
  | .bool b :: r, bs, vs, e, h => by
    have e : (boolL r).map _ = some bs := e
    cases q : boolL r with
    | none => rw [q] at e; cases e
    | some cs =>
      rw [q] at e
      cases e
      cases h with
      | cons h1 h2 => cases h1; rw [boolL_of q h2]; rfl
  | .none :: _, _, _, e, _ => by cases e
  | .int _ :: _, _, _, e, _ => by cases e
  | .str _ :: _, _, _, e, _ => by cases e
  | .list _ :: _, _, _, e, _ => by cases e
  | .tuple _ :: _, _, _, e, _ => by cases e
  | .dict _ :: _, _, _, e, _ => by cases e
def allD : D → Option D
  | .list ds => (boolL ds).map fun bs => .bool (bs.all id)
  | _ => none
def anyD : D → Option D
  | .list ds => (boolL ds).map fun bs => .bool (bs.any id)
  | _ => none
theorem ok_all : C1Ok X.K (rAll X.K) allD := fun v d1 d F H Q fh p e k => by
  have p' := p.dp fh
  unfold allD at e
  split at e
  · rename_i ds
    cases q : boolL ds with
    | none => rw [q] at e; cases e
    | some bs =>
      rw [q] at e
      cases e
      cases p' with
      | lst hs ha => exact ⟨_, bs, rfl, by rw [← boolL_of q ha]; exact hs, k _ F H (.bl _) fh Stp.refl⟩
  · cases e
theorem ok_any : C1Ok X.K (rAny X.K) anyD := fun v d1 d F H Q fh p e k => by
  have p' := p.dp fh
  unfold anyD at e
  split at e
  · rename_i ds
    cases q : boolL ds with
    | none => rw [q] at e; cases e
    | some bs =>
      rw [q] at e
      cases e
      cases p' with
      | lst hs ha => exact ⟨_, bs, rfl, by rw [← boolL_of q ha]; exact hs, k _ F H (.bl _) fh Stp.refl⟩
  · cases e
/-- intL of a list -/
def intL : List D → Option (List Int)
  | [] => some []
  | .int b :: r => (intL r).map fun bs => b :: bs
  | _ => none
theorem intL_of {K : PySem.W.Frag} {H : Hp} : ∀ {ds : List D} {bs : List Int} {vs : List V}, intL ds = some bs → DpAll K H vs ds → vs = bs.map V.int
  | [], _, _, e, h => by cases e; cases h; rfl
  | .int b :: r, bs, vs, e, h => by
    have e : (intL r).map _ = some bs := e
    cases q : intL r with
    | none => rw [q] at e; cases e
    | some cs =>
      rw [q] at e
      cases e
      cases h with
      | cons h1 h2 => cases h1; rw [intL_of q h2]; rfl
  | .none :: _, _, _, e, _ => by cases e
  | .bool _ :: _, _, _, e, _ => by cases e
  | .str _ :: _, _, _, e, _ => by cases e
  | .list _ :: _, _, _, e, _ => by cases e
  | .tuple _ :: _, _, _, e, _ => by cases e
  | .dict _ :: _, _, _, e, _ => by cases e
def sumD : D → Option D
  | .list ds => (intL ds).map fun bs => .int bs.sum
  | _ => none
theorem ok_sum : C1Ok X.K (rSum X.K) sumD := fun v d1 d F H Q fh p e k => by
  have p' := p.dp fh
  unfold sumD at e
  split at e
  · rename_i ds
    cases q : intL ds with
    | none => rw [q] at e; cases e
    | some bs =>
      rw [q] at e
      cases e
      cases p' with
      | lst hs ha => exact ⟨_, bs, rfl, by rw [← intL_of q ha]; exact hs, k _ F H (.int _) fh Stp.refl⟩
  · cases e
section
variable {a : Expr} {f : Fe} {p pos : Pos}
theorem de_len (hg : Gl X "len") (hm : X.mg "len" = none) (ha : DB X a f) (he : starEach [a] X.env = (false, eval a X.env) :: starEach [] X.env := by rfl) : DE X (.Call (.Name "len" p) [a] [] pos) (eUn lenD f) := de_b1 call_len ok_len hg hm PySem.boot_len ha (he := he)
theorem de_abs (hg : Gl X "abs") (hm : X.mg "abs" = none) (ha : DB X a f) (he : starEach [a] X.env = (false, eval a X.env) :: starEach [] X.env := by rfl) : DE X (.Call (.Name "abs" p) [a] [] pos) (eUn absD f) := de_b1 call_abs ok_abs hg hm (by decide +kernel) ha (he := he)
theorem de_int1 (hg : Gl X "int") (hm : X.mg "int" = none) (ha : DB X a f) (he : starEach [a] X.env = (false, eval a X.env) :: starEach [] X.env := by rfl) : DE X (.Call (.Name "int" p) [a] [] pos) (eUn intD f) := de_t1 call_int1 ok_int hg hm (by decide +kernel) ha (he := he)
theorem de_tuple (hg : Gl X "tuple") (hm : X.mg "tuple" = none) (ha : DB X a f) (he : starEach [a] X.env = (false, eval a X.env) :: starEach [] X.env := by rfl) : DE X (.Call (.Name "tuple" p) [a] [] pos) (eUn tupD f) := de_t1 call_tuple_of ok_tup hg hm (by decide +kernel) ha (he := he)
theorem de_all (hc : X.calm = true) (hg : Gl X "all") (hm : X.mg "all" = none) (ha : DB X a f) (he : starEach [a] X.env = (false, eval a X.env) :: starEach [] X.env := by rfl) : DE X (.Call (.Name "all" p) [a] [] pos) (eUn allD f) := de_b1 (cr_all hc) ok_all hg hm (by decide +kernel) ha (he := he)
theorem de_any (hc : X.calm = true) (hg : Gl X "any") (hm : X.mg "any" = none) (ha : DB X a f) (he : starEach [a] X.env = (false, eval a X.env) :: starEach [] X.env := by rfl) : DE X (.Call (.Name "any" p) [a] [] pos) (eUn anyD f) := de_b1 (cr_any hc) ok_any hg hm (by decide +kernel) ha (he := he)
theorem de_sum (hc : X.calm = true) (hg : Gl X "sum") (hm : X.mg "sum" = none) (ha : DB X a f) (he : starEach [a] X.env = (false, eval a X.env) :: starEach [] X.env := by rfl) : DE X (.Call (.Name "sum" p) [a] [] pos) (eUn sumD f) := de_b1 (cr_sum hc) ok_sum hg hm (by decide +kernel) ha (he := he)
end
/-! ### repr of data -/
mutual
/-- no list in it -/
def noL : D → Bool
  | .list _ => false
  | .tuple ds => noLAll ds
  | _ => true
def noLAll : List D → Bool
  | [] => true
  | d :: ds => noL d && noLAll ds
end
section
variable {X : Cx} {pins : List (Addr × Obj)} {σ : L2.St} {H : Hp} {s : Shared}
mutual
theorem Dp.readsN (I : Inv X pins σ H s) : ∀ (d : D) (v : V) (u : Value), noL d = true → Dp X.K H v d → RelV v u → ∃ as, Reads s.heap u d as ∧ sysModules ∉ as
  | .none, _, _, _, h, r => by cases h; cases r; exact ⟨_, Reads.none, by simp⟩
  | .bool b, _, _, _, h, r => by cases h; cases r; exact ⟨_, Reads.bool b, by simp⟩
  | .int i, _, _, _, h, r => by
    cases h
    obtain ⟨t, rfl⟩ := r
    exact ⟨_, Reads.int i t, by simp⟩
  | .str x, _, _, _, h, r => by
    cases h
    obtain ⟨t, rfl⟩ := r
    exact ⟨_, Reads.str x t, by simp⟩
  | .list ds, _, _, n, _, _ => by simp [noL] at n
  | .tuple ds, _, _, n, h, r => by
    cases h with
    | tup hs ha =>
      cases r
      obtain ⟨its, rv, ⟨o, ho, hc, n', hd⟩, _⟩ := I.tuple hs
      obtain ⟨as, q, m⟩ := DpAll.readsN I ds _ its (by simpa only [noL] using n) ha rv
      exact ⟨_, Reads.tuple ho hc hd q, m⟩
  | .dict _, _, _, _, h, r => by
    cases h with
    | dct e =>
      cases r
      obtain ⟨_, hsm, xs, hp, o, es, ep, ho, hx, hd, he, _⟩ := (show ObjOk X.prog X.w H s.heap _ (.dT []) from I.hok _ _ e)
      cases hp
      refine ⟨_, Reads.dict ho hx.1 hd (by rw [he]; exact .nil) (by rw [he]; exact .nil), fun z => ?_⟩
      simp only [List.append_nil, List.mem_singleton] at z
      rw [z] at hsm
      simp at hsm
theorem DpAll.readsN (I : Inv X pins σ H s) : ∀ (ds : List D) (vs : List V) (us : List Value), noLAll ds = true → DpAll X.K H vs ds → Vals vs us → ∃ as, ReadsAll s.heap us ds as ∧ sysModules ∉ as
  | [], _, _, _, h, r => by cases h; cases r; exact ⟨_, ReadsAll.nil, by simp⟩
  | d :: ds, _, _, n, h, r => by
    simp only [noLAll, Bool.and_eq_true] at n
    cases h with
    | cons h1 h2 =>
      cases r with
      | cons r1 r2 =>
        obtain ⟨as, q1, m1⟩ := Dp.readsN I d _ _ n.1 h1 r1
        obtain ⟨bs, q2, m2⟩ := DpAll.readsN I ds _ _ n.2 h2 r2
        exact ⟨_, ReadsAll.cons q1 q2, fun z => (List.mem_append.mp z).elim m1 m2⟩
end
end
def reprD (d : D) : Option D := if d.showable = true ∧ (d.hasDict = false ∨ noL d = true) ∧ d.depth ≤ 60 ∧ d.shown.length ≤ sizeLine then some (.str d.shown) else none
theorem call_reprD (hg : X.A.guards = some []) (hu : X.A.units + 64 < cLine) : CallR X (.builtin "repr") (fun xs H Q => ∃ x d, xs = [x] ∧ Dp X.K H x d ∧ d.showable = true ∧ (d.hasDict = false ∨ noL d = true) ∧ d.depth ≤ 60 ∧ d.shown.length ≤ sizeLine ∧ Q (.str d.shown) H) := by
  intro pins s st H xs us Q I r h
  obtain ⟨x, d, rfl, hp, h1, h2, h3, h5, q⟩ := h
  obtain ⟨u, rfl, rx⟩ := vals1 r
  have key : ∀ a, u = .ref a → wpAny (model X.prog X.w) X.A (call (.builtin "repr") [u]) (fun v s' => EP X pins st Q v s') X.xe s := fun a e => by
    subst e
    have fin : ∀ as, Reads s.heap (.ref a) d as → (d.hasDict = true → sysModules ∉ as) → wpAny (model X.prog X.w) X.A (call (.builtin "repr") [.ref a]) (fun v s' => EP X pins st Q v s') X.xe s := fun as rd hsm =>
      repr_of_reads' rd h1 hsm hg (by omega) (fun _ _ e => e) (fun h' w tk hk => ⟨.str d.shown, H, I.kept hk, ⟨w, rfl⟩, q⟩) h5
    rcases h2 with h2 | h2
    · obtain ⟨as, rd⟩ := Dp.reads I d x _ hp rx
      exact fin as rd (PyData.noDict_hsm h2)
    · obtain ⟨as, rd, hm⟩ := Dp.readsN I d x _ h2 hp rx
      exact fin as rd fun _ => hm
  cases hp with
  | non => cases rx; exact PySem.P.repr_of_none ⟨.str _, H, I.tok _, ⟨_, rfl⟩, q⟩
  | bl b => cases rx; exact PySem.P.repr_of_bool ⟨.str _, H, I.tok _, ⟨_, rfl⟩, q⟩
  | int i =>
    obtain ⟨t, rfl⟩ := rx
    exact PySem.P.repr_of_int (by simpa [PyData.showable] using h1) ⟨.str _, H, I.tok _, ⟨_, rfl⟩, q⟩
  | str y =>
    obtain ⟨t, rfl⟩ := rx
    exact PySem.P.repr_of_str ⟨.str _, H, I.tok _, ⟨_, rfl⟩, q⟩ h5
  | lst hs ha => cases rx; exact key _ rfl
  | tup hs ha => cases rx; exact key _ rfl
  | dct e => cases rx; exact key _ rfl
theorem ok_repr : C1Ok X.K (fun xs H Q => ∃ x d, xs = [x] ∧ Dp X.K H x d ∧ d.showable = true ∧ (d.hasDict = false ∨ noL d = true) ∧ d.depth ≤ 60 ∧ d.shown.length ≤ sizeLine ∧ Q (.str d.shown) H) reprD := fun v d1 d F H Q fh p e k => by
  unfold reprD at e
  split at e
  · rename_i hh
    cases e
    exact ⟨v, d1, rfl, p.dp fh, hh.1, hh.2.1, hh.2.2.1, hh.2.2.2, k _ F H (.str _) fh Stp.refl⟩
  · cases e
theorem de_repr {a : Expr} {f : Fe} {p pos : Pos} (hgd : X.A.guards = some []) (hu : X.A.units + 64 < cLine) (hg : Gl X "repr") (hm : X.mg "repr" = none) (ha : DB X a f) (he : starEach [a] X.env = (false, eval a X.env) :: starEach [] X.env := by rfl) : DE X (.Call (.Name "repr" p) [a] [] pos) (eUn reprD f) :=
  de_b1 (call_reprD hgd hu) ok_repr hg hm (by decide +kernel) ha (he := he)

/-! ### isinstance -/
def tyD : D → Option String
  | .none => some "NoneType"
  | .bool _ => some "bool"
  | .int _ => some "int"
  | .str _ => some "str"
  | .list _ => some "list"
  | .tuple _ => some "tuple"
  | .dict [] => some "dict"
  | .dict _ => none
theorem tyX_of {K : PySem.W.Frag} {H : Hp} {v : V} {d : D} {n : String} (h : Dp K H v d) (e : tyD d = some n) : TyX K H v (.type n) := by
  cases h with
  | non => cases e; exact .base .non
  | bl b => cases e; exact .base (.bl b)
  | int i => cases e; exact .base (.int i)
  | str x => cases e; exact .base (.str x)
  | lst hs ha =>
    cases e
    rcases hs with (hs | ⟨o, hs⟩) | ⟨o, its, m, hk, hc, _⟩
    · exact .base (.lst hs)
    · exact .base (.frz hs)
    · exact .kList hk hc
  | tup hs ha =>
    cases e
    rcases hs with (hs | ⟨o, hs⟩) | ⟨o, its, m, hk, hc, _⟩
    · exact .base (.tup hs)
    · exact .fTuple hs
    · exact .kTuple hk hc
  | dct q => cases e; exact .base (.dT q)
/-- isinstance(e, T) -/
def isiD (T : String) (d : D) : Option D := (tyD d).bind fun n => (kitB n T).map fun b => .bool b
theorem de_isi {a : Expr} {f : Fe} {p pt pos : Pos} {T : Str} {n : String} (hg : Gl X "isinstance") (hm : X.mg "isinstance" = none) (hgT : Gl X T) (hmT : X.mg T = none) (hv : bootBuiltins T = some (.type n)) (ha : DE X a f)
    (hn : T ≠ "__name__" := by decide) (hd : (T == ("__debug__" : Str)) = false := by decide)
    (he : starEach [a, .Name T pt] X.env = (false, eval a X.env) :: starEach [.Name T pt] X.env := by rfl) (he2 : starEach [.Name T pt] X.env = (false, eval (.Name T pt) X.env) :: starEach [] X.env := by rfl) (hpl : (backTo pos (starEach [.Name T pt] X.env)).any (·.1) = false := by rfl) :
    DE X (.Call (.Name "isinstance" p) [a, .Name T pt] [] pos) (eUn (isiD n) f) :=
  peMono (pe_callB call_isi hg hm (by decide +kernel) (pa_cons ha (pa_cons (pe_bltn (v := .ty n) hgT hmT hv rfl hn hd) pa_nil he2) he) (by decide) (by decide) he hpl) fun s H Q h => by
    obtain ⟨F, g, d, g', rp, e, k⟩ := h
    obtain ⟨d1, e1, e2⟩ := eUn_inv e
    refine ⟨F, g, d1, g', rp, e1, fun v1 F1 H1 p1 r1 t1 m1 => ?_⟩
    unfold isiD at e2
    cases q : tyD d1 with
    | none => rw [q] at e2; cases e2
    | some m =>
      rw [q] at e2
      have e2 : (kitB m n).map _ = some d := e2
      cases q2 : kitB m n with
      | none => rw [q2] at e2; cases e2
      | some b =>
        rw [q2] at e2; cases e2
        exact ⟨v1, .ty n, .type m, .type n, b, rfl, .ty n, tyX_of (dpMono r1.fh _ _ p1) q, kit_ty q2, k _ F1 H1 (.bl b) r1 t1 m1⟩
/-- isinstance(e, (T, U)) -/
def isi2D (T U : String) (d : D) : Option D := (tyD d).bind fun n => match kitB n T, kitB n U with
  | some a, some b => some (.bool (a || b))
  | _, _ => none
theorem de_isi2 {a : Expr} {f : Fe} {p pt pu pos tp : Pos} {kk : Nat} {T U : Str} {n m : String} (hg : Gl X "isinstance") (hm : X.mg "isinstance" = none) (hgT : Gl X T) (hmT : X.mg T = none) (hv : bootBuiltins T = some (.type n)) (hgU : Gl X U) (hmU : X.mg U = none) (hvU : bootBuiltins U = some (.type m)) (ha : DE X a f)
    (hn : T ≠ "__name__" := by decide) (hd : (T == ("__debug__" : Str)) = false := by decide) (hnU : U ≠ "__name__" := by decide) (hdU : (U == ("__debug__" : Str)) = false := by decide)
    (he : starEach [a, .Tuple [.Name T pt, .Name U pu] kk tp] X.env = (false, eval a X.env) :: starEach [.Tuple [.Name T pt, .Name U pu] kk tp] X.env := by rfl) (he2 : starEach [.Tuple [.Name T pt, .Name U pu] kk tp] X.env = (false, eval (.Tuple [.Name T pt, .Name U pu] kk tp) X.env) :: starEach [] X.env := by rfl)
    (h3 : starEach [.Name T pt, .Name U pu] X.env = (false, eval (.Name T pt) X.env) :: starEach [.Name U pu] X.env := by rfl) (h4 : starEach [.Name U pu] X.env = (false, eval (.Name U pu) X.env) :: starEach [] X.env := by rfl)
    (hpl : (backTo pos (starEach [.Tuple [.Name T pt, .Name U pu] kk tp] X.env)).any (·.1) = false := by rfl) :
    DE X (.Call (.Name "isinstance" p) [a, .Tuple [.Name T pt, .Name U pu] kk tp] [] pos) (eUn (isi2D n m) f) :=
  peMono (pe_callB call_isiT hg hm (by decide +kernel) (pa_cons ha (pa_cons (pe_tup (pa_cons (pe_bltn (v := .ty n) hgT hmT hv rfl hn hd) (pa_cons (pe_bltn (v := .ty m) hgU hmU hvU rfl hnU hdU) pa_nil h4) h3)) pa_nil he2) he) (by decide) (by decide) he hpl) fun s H Q h => by
    obtain ⟨F, g, d, g', rp, e, k⟩ := h
    obtain ⟨d1, e1, e2⟩ := eUn_inv e
    refine ⟨F, g, d1, g', rp, e1, fun v1 F1 H1 p1 r1 t1 m1 => ⟨by show 2 ≤ sizeLine; decide, fun tpa ntp => ?_⟩⟩
    unfold isi2D at e2
    cases q : tyD d1 with
    | none => rw [q] at e2; cases e2
    | some t =>
      rw [q] at e2
      simp only [Option.bind_some] at e2
      split at e2
      · rename_i b1 b2 k1 k2
        cases e2
        have st : Stp Non F1 H1 F1 (upd H1 tpa (.tup [.ty n, .ty m])) := Stp.made ntp
        have fh := sameMade (o := .tup [.ty n, .ty m]) r1.fh ntp
        refine ⟨v1, tpa, [.ty n, .ty m], .type t, [.type n, .type m], b1 || b2, rfl, upd_same, .cons (.ty n) (.cons (.ty m) .nil), tyX_of (dpMono fh _ _ p1) q, ?_, k _ F1 _ (.bl _) (r1.stepN st fh) (t1.andN st) m1⟩
        refine kitAny_cons (kit_ty k1) (fun z => ?_) (fun z => by rw [z]; rfl)
        subst z
        refine kitAny_cons (kit_ty k2) (fun z => ?_) (fun z => by rw [z]; rfl)
        subst z
        rfl
      · cases e2
end Dl
set_option Elab.async false
set_option linter.all false
set_option maxRecDepth 100000
namespace Dl
open PySem PySem.Spec PyProof.Rows L2

/-! ### a def and its promise, where no repr is under way -/
abbrev Sp3 := List V → Hp → VK → Prop
structure FnG (P : Program) (w : World) (K : PySem.W.Frag) (mg : Str → Option Value) (base : Heap) (k : Nat) (f : Addr) (fd : FuncData) (ps : List Str) (sp : Sp3) : Prop where
  len : ∀ vs H Q, sp vs H Q → vs.length = ps.length
  run : ∀ (A : Around) (outer : List Env) (st : Shared) (H : Hp) (args : Args) (us : List Value) (vs : List V) (Q : VK), Room k A → A.guards = some [] → Env0 P w K mg base A outer st H → BindsTo st fd args (ps.zip us) → Vals vs us → sp vs H Q →
    codeAny (model P w) A (.call (.ref f) args) (CR CX0 outer P w H st Q E0) st
theorem FnG.mono {P : Program} {w : World} {K : PySem.W.Frag} {mg : Str → Option Value} {base : Heap} {j k : Nat} {f : Addr} {fd : FuncData} {ps : List Str} {sp : Sp3} (F : FnG P w K mg base j f fd ps sp) (h : j ≤ k) : FnG P w K mg base k f fd ps sp :=
  ⟨F.len, fun A outer st H args us vs Q hr => F.run A outer st H args us vs Q (hr.mono h)⟩
abbrev BodyCx (P : Program) (w : World) (K : PySem.W.Frag) (mg : Str → Option Value) (base : Heap) (N : List Str) (qual : Str) (sc : Scope) (f : Addr) (cd : Value) (A : Around) (outer : List Env) (st : Shared) (H : Hp) : Cx := (cxOf CX0 P w K mg base N qual sc f cd A outer st H E0).nox
section
variable {P : Program} {w : World} {K : PySem.W.Frag} {mg : Str → Option Value} {base : Heap}
theorem fnG_of {x qual : Str} {sd : Stmt} {f : Addr} {fd : FuncData} {N ps : List Str} {k : Nat} {sp : Sp3} (F : Fun K x qual sd f fd) (S : FnScope N ps (defScope sd)) (len : ∀ vs H Q, sp vs H Q → vs.length = ps.length)
    (hbody : ∀ (cd : Value) (A : Around) (outer : List Env) (st : Shared) (H : Hp) (vs : List V) (Q : VK), Room k (BodyCx P w K mg base N qual (defScope sd) f cd A outer st H).A → (BodyCx P w K mg base N qual (defScope sd) f cd A outer st H).A.guards = some [] → sp vs H Q →
      ∃ t, PSs (BodyCx P w K mg base N qual (defScope sd) f cd A outer st H) (defBody sd) t ∧ t { nx := fun _ H' => Q .non H', rt := Q } (L2.start N vs) H) : FnG P w K mg base (k + 1) f fd ps sp := by
  obtain ⟨oc, od, kV, doc, pm, an, cd, ct, osl, efd, lk, hcd⟩ := F.ex
  subst efd
  refine ⟨len, fun A outer st H args us vs Q room gd env0 bnd vals want => ?_⟩
  have hl := len vs H Q want
  have inK : K.In st.heap := env0.mod.kin.keeps fun b o z => (env0.bs b o z).1
  have nolim : st.heap.NoLimit := env0.mod.nolimit.keeps fun b o z => (env0.bs b o z).1
  have kinds : ∀ q ∈ ps.zip us, (defScope sd).names.lookup q.1 = some .local ∨ ((defScope sd).names.lookup q.1 = some .cell ∧ ((cellsFrom (st.heap.objs.size + 1) (defScope sd).names []).lookup q.1).isSome = true) := by
    rintro ⟨nm, v⟩ hq
    exact (S.par nm (List.of_mem_zip hq).1).imp id fun z => ⟨z, PySem.W.cellsFrom_some _ _ _ (.inl z)⟩
  refine codeAny_call_function room.depth (inK _ _ lk) rfl S.co S.gen rfl (PySem.W.codeRec_of inK hcd) (bnd _ _ _ _ (wpAny_newFunctionEnv_cells S.kind kinds fun env he st1 inC => ?_))
  subst he
  refine ⟨nolim.keeps inC.toInCall.keep, codeAny_func ?_⟩
  obtain ⟨t, ht, good⟩ := hbody cd A outer st H vs Q (room.deeper _) gd want
  have I0 : Inv (cxOf CX0 P w K mg base N qual (defScope sd) f cd A outer st H E0) [] (L2.start N vs) H st1 := inv_start S room.hd env0 hl vals inC
  refine wpAny_mono (ht.nox.run [] st1 (L2.start N vs) H _ I0 good) (fun fl st2 hs => ?_) fun e st2 hs => hs
  cases fl with
  | ret u =>
    obtain ⟨v, _, H2, J, rv, q⟩ := hs
    exact ⟨v, H2, J.os, J.bare, J.base, J.hok, rv, q⟩
  | next =>
    obtain ⟨_, H2, J, q⟩ := hs
    exact ⟨.non, H2, J.os, J.bare, J.base, J.hok, rfl, q⟩
  | brk =>
    obtain ⟨_, _, _, q⟩ := hs
    exact q.elim
  | cont =>
    obtain ⟨_, _, _, q⟩ := hs
    exact q.elim
end
section
variable {X : Cx} {k : Nat} {f : Addr} {fd : FuncData} {ps : List Str} {sp : Sp3}
/-- f(e, ..) -/
theorem pe_callG {x : Str} {p pos : Pos} {e : Expr} {es : List Expr} {t : TA} (F : FnG X.prog X.w X.K X.mg X.base k f fd ps sp) (room : Room k X.A) (gd : X.A.guards = some []) (hg : Gl X x) (hm : X.mg x = some (.ref f)) (hk : PySem.W.keepIn X.K (.ref f) = true) (hb : Binds X.K fd ps [])
    (ha : PA X (e :: es) t) (hdb : (x == ("__debug__" : Str)) = false := by decide) (he : starEach (e :: es) X.env = (false, eval e X.env) :: starEach es X.env := by rfl) (hpl : (backTo pos (starEach es X.env)).any (·.1) = false := by rfl) :
    PE X (.Call (.Name x p) (e :: es) [] pos) (fun s H Q => t s H fun vs H1 => sp vs H1 Q) := by
  refine ⟨fun pins st s H Q I h => wpAny_Call_Name_kw (ld_glob I hg hm (PySem.W.callWith_K (h₀ := X.base) I.ok.mod.kin hk (thn (ha.run pos pins st s H _ I h) fun us st1 hq => ?_) he hpl) hdb)⟩
  obtain ⟨vs, H1, I1, r, q⟩ := hq
  refine ⟨I1.kIn, ?_⟩
  have hl : (us ++ ([] : List Value)).length = ps.length := by rw [List.append_nil, ← r.length]; exact F.len _ _ _ q
  have bt := hb st1 us I1.kIn hl
  rw [List.append_nil] at bt
  refine wpAny_call (codeAny_mono (F.run X.A X.stack st1 H1 ⟨us, []⟩ us vs Q room gd I1.env0 bt r q) fun res st2 hq => ?_)
  cases res with
  | error e => exact (show False from hq).elim
  | ok fl =>
    cases fl with
    | ret u => exact I1.after hq
    | next => exact (show False from hq).elim
    | brk => exact (show False from hq).elim
    | cont => exact (show False from hq).elim
end

/-! ### promises by data -/
/-- a value handed back -/
def Back (K : PySem.W.Frag) (F H : Hp) (O : Addr → Prop) (x : Sl) (Q : VK) : Prop := ∀ v F' H', RepS K F' H' x (some v) → x ≠ .no → (∀ t es, x = .own t es → t = none ∧ ∃ a, v = .ref a ∧ H a = none) → Same F' H' → Stp O F H F' H' → Q v H'
/-- a def of n arguments, all data: m tells the answer -/
def spP (K : PySem.W.Frag) (n : Nat) (m : List D → Option Sl) : Sp3 := fun vs H Q => ∃ F ds x, Same F H ∧ DpAll K F vs ds ∧ ds.length = n ∧ m ds = some x ∧ Back K F H Non x Q
/-- a def whose first argument is a list that it changes -/
def spI (K : PySem.W.Frag) (n : Nat) (m : List D → List D → Option (Sl × List D)) : Sp3 := fun vs H Q => ∃ F a xs es ws ds x es', vs = .ref a :: ws ∧ Same F H ∧ F a = none ∧ H a = some (.lst xs) ∧ DpAll K F xs es ∧ DpAll K F ws ds ∧ ds.length + 1 = n ∧ m es ds = some (x, es') ∧
  ∀ v F' H' xs', RepS K F' H' x (some v) → x ≠ .no → (∀ t fs, x = .own t fs → t = none ∧ ∃ b, v = .ref b ∧ H b = none) → Same F' H' → F' a = none → H' a = some (.lst xs') → DpAll K F' xs' es' → Stp (fun b => b = a) F H F' H' → Q v H'
theorem spP_len {K : PySem.W.Frag} {n : Nat} {m : List D → Option Sl} : ∀ vs H Q, spP K n m vs H Q → vs.length = n := fun vs H Q ⟨F, ds, x, _, hp, hl, _⟩ => by rw [dpLen hp, hl]
theorem spI_len {K : PySem.W.Frag} {n : Nat} {m : List D → List D → Option (Sl × List D)} : ∀ vs H Q, spI K n m vs H Q → vs.length = n := fun vs H Q ⟨F, a, xs, es, ws, ds, x, es', e, _, _, _, _, hp, hl, _⟩ => by rw [e, List.length_cons, dpLen hp, hl]

/-! ### a body run from its arguments -/
def runG (f : Fs) (N : Nat) (g : G) : Option (Sl × G) := match f (g ++ List.replicate (N - g.length) .no) with
  | some (.ret x g') => some (x, g')
  | some (.nx g') => some (.v .none, g')
  | _ => none
def fnP (f : Fs) (N : Nat) (ds : List D) : Option Sl := (runG f N (ds.map .v)).map (·.1)
open Classical in
noncomputable def fnI (f : Fs) (N : Nat) (es ds : List D) : Option (Sl × List D) :=
  if h : ∃ r : Sl × List D, ∀ a, ∃ g', runG f N (.own (some a) es :: ds.map .v) = some (r.1, g') ∧ g'[0]? = some (.own (some a) r.2) then some h.choose else none
theorem fnI_of {f : Fs} {N : Nat} {es ds : List D} {x : Sl} {es' : List D} (h : ∀ a, ∃ g', runG f N (.own (some a) es :: ds.map .v) = some (x, g') ∧ g'[0]? = some (.own (some a) es')) : fnI f N es ds = some (x, es') := by
  have hx : ∃ r : Sl × List D, ∀ a, ∃ g', runG f N (.own (some a) es :: ds.map .v) = some (r.1, g') ∧ g'[0]? = some (.own (some a) r.2) := ⟨(x, es'), h⟩
  unfold fnI
  rw [dif_pos hx]
  obtain ⟨g1, e1, q1⟩ := hx.choose_spec (0 : Nat)
  obtain ⟨g2, e2, q2⟩ := h (0 : Nat)
  rw [e1] at e2
  have h1 : hx.choose.1 = x := (Prod.mk.inj (Option.some.inj e2)).1
  have h2 : g1 = g2 := (Prod.mk.inj (Option.some.inj e2)).2
  rw [h2, q2] at q1
  have h3 : es' = hx.choose.2 := by cases q1; rfl
  rw [h3, ← h1]
theorem fnI_inv {f : Fs} {N : Nat} {es ds : List D} {x : Sl} {es' : List D} (h : fnI f N es ds = some (x, es')) (a : Addr) : ∃ g', runG f N (.own (some a) es :: ds.map .v) = some (x, g') ∧ g'[0]? = some (.own (some a) es') := by
  unfold fnI at h
  split at h
  · rename_i hx
    have := hx.choose_spec a
    have e : hx.choose = (x, es') := Option.some.inj h
    rw [e] at this
    exact this
  · cases h
theorem startRep {K : PySem.W.Frag} {F H : Hp} {N : List Str} : ∀ {vs : List V} {ds : List D}, Same F H → DpAll K F vs ds → Rep K F (ds.map .v ++ List.replicate (N.length - ds.length) .no) (L2.start N vs) H := fun {vs ds} fh hp => by
  have hl := dpLen hp
  refine ⟨fh, by unfold L2.start; simp [hl], fun i x o hx ho => ?_, fun i j a t u es fs h1 => ?_⟩
  · unfold L2.start at ho
    by_cases hi : i < ds.length
    · rw [List.getElem?_append_left (by simpa using hi), List.getElem?_map] at hx
      rw [List.getElem?_append_left (by simpa [hl] using hi), List.getElem?_map] at ho
      cases q : ds[i]? with
      | none => rw [q] at hx; cases hx
      | some d =>
        rw [q] at hx; cases hx
        obtain ⟨v, hv, hd⟩ := dpAt hp q
        rw [hv] at ho; cases ho
        exact ⟨v, rfl, hd⟩
    · rw [List.getElem?_append_right (by simpa using hi), List.getElem?_replicate] at hx
      split at hx
      · cases hx; trivial
      · cases hx
  · exfalso
    by_cases hi : i < ds.length
    · rw [List.getElem?_append_left (by simpa using hi), List.getElem?_map] at h1
      cases q : ds[i]? with
      | none => rw [q] at h1; cases h1
      | some d => rw [q] at h1; cases h1
    · rw [List.getElem?_append_right (by simpa using hi), List.getElem?_replicate] at h1
      split at h1 <;> cases h1
section
variable {P : Program} {w : World} {K : PySem.W.Frag} {mg : Str → Option Value} {base : Heap}
/-- THE RULE for a def of data -/
theorem fnP_ok {x qual : Str} {sd : Stmt} {f : Addr} {fd : FuncData} {N ps : List Str} {k : Nat} {b : Fs} {n : Nat} (F : Fun K x qual sd f fd) (S : FnScope N ps (defScope sd)) (hn : ps.length = n)
    (hbody : ∀ (cd : Value) (A : Around) (outer : List Env) (st : Shared) (H : Hp), Room k (BodyCx P w K mg base N qual (defScope sd) f cd A outer st H).A → (BodyCx P w K mg base N qual (defScope sd) f cd A outer st H).A.guards = some [] →
      DSs (BodyCx P w K mg base N qual (defScope sd) f cd A outer st H) (defBody sd) b) : FnG P w K mg base (k + 1) f fd ps (spP K n (fnP b N.length)) := by
  refine fnG_of F S (fun vs H Q h => by rw [hn]; exact spP_len vs H Q h) fun cd A outer st H vs Q room gd h => ⟨_, hbody cd A outer st H room gd, ?_⟩
  obtain ⟨F0, ds, y, fh, hp, hl, e, k⟩ := h
  unfold fnP runG at e
  rw [List.length_map] at e
  have r0 := startRep (N := N) fh hp
  have noOwn : ∀ a, ¬ OwnAt (ds.map .v ++ List.replicate (N.length - ds.length) .no) (L2.start N vs) a := fun a ⟨i, t, es, h1, _⟩ => by
    by_cases hi : i < ds.length
    · rw [List.getElem?_append_left (by simpa using hi), List.getElem?_map] at h1
      cases q : ds[i]? with
      | none => rw [q] at h1; cases h1
      | some d => rw [q] at h1; cases h1
    · rw [List.getElem?_append_right (by simpa using hi), List.getElem?_replicate] at h1
      split at h1 <;> cases h1
  cases q : b (ds.map .v ++ List.replicate (N.length - ds.length) .no) with
  | none => rw [q] at e; cases e
  | some o =>
    rw [q] at e
    refine ⟨F0, _, o, r0, q, ?_⟩
    cases o with
    | bk g' => cases e
    | ct g' => cases e
    | nx g' =>
      cases e
      exact fun F' s' H' t => k .non F' H' ⟨_, rfl, .non⟩ (fun z => nomatch z) (fun _ _ z => nomatch z) t.rep.fh (t.stp.weak fun b hb => noOwn b hb)
    | ret z g' =>
      cases e
      refine fun v F' s' H' hv hz ho t => k v F' H' hv hz (fun tg es ez => ?_) t.rep.fh (t.stp.weak fun b hb => noOwn b hb)
      obtain ⟨e1, a, e2, e3, _⟩ := ho tg es ez
      exact ⟨e1, a, e2, e3.resolve_right (noOwn a)⟩
theorem startRepI {F H : Hp} {N : List Str} {a : Addr} {xs : List V} {es : List D} {vs : List V} {ds : List D} (fh : Same F H) (fa : F a = none) (ha : H a = some (.lst xs)) (hx : DpAll K F xs es) (hp : DpAll K F vs ds) :
    Rep K F (.own (some a) es :: (ds.map .v ++ List.replicate (N.length - (ds.length + 1)) .no)) (L2.start N (.ref a :: vs)) H := by
  have hl := dpLen hp
  have noT : ∀ (i : Nat) (t : Option Addr) (fs : List D), (ds.map Sl.v ++ List.replicate (N.length - (ds.length + 1)) Sl.no)[i]? ≠ some (Sl.own t fs) := fun i t fs h1 => by
    by_cases hi : i < ds.length
    · rw [List.getElem?_append_left (by simpa using hi), List.getElem?_map] at h1
      cases q : ds[i]? with
      | none => rw [q] at h1; cases h1
      | some d => rw [q] at h1; cases h1
    · rw [List.getElem?_append_right (by simpa using hi), List.getElem?_replicate] at h1
      split at h1 <;> cases h1
  refine ⟨fh, by unfold L2.start; simp [hl], fun i x o hxx ho => ?_, fun i j b t u fs gs h1 h2 => ?_⟩
  · cases i with
    | zero =>
      cases hxx
      cases ho
      exact ⟨a, xs, rfl, fa, ha, hx, fun b e => (Option.some.inj e).symm⟩
    | succ i =>
      have hxx : (ds.map Sl.v ++ List.replicate (N.length - (ds.length + 1)) Sl.no)[i]? = some x := by simpa using hxx
      have ho : (vs.map some ++ List.replicate (N.length - (vs.length + 1)) none)[i]? = some o := by
        unfold L2.start at ho
        simpa using ho
      by_cases hi : i < ds.length
      · rw [List.getElem?_append_left (by simpa using hi), List.getElem?_map] at hxx
        rw [List.getElem?_append_left (by simpa [hl] using hi), List.getElem?_map] at ho
        cases q : ds[i]? with
        | none => rw [q] at hxx; cases hxx
        | some d =>
          rw [q] at hxx; cases hxx
          obtain ⟨v, hv, hd⟩ := dpAt hp q
          rw [hv] at ho; cases ho
          exact ⟨v, rfl, hd⟩
      · rw [List.getElem?_append_right (by simpa using hi), List.getElem?_replicate] at hxx
        split at hxx
        · cases hxx; trivial
        · cases hxx
  · cases i with
    | zero =>
      cases j with
      | zero => exact fun _ _ => rfl
      | succ j => exact absurd (by simpa using h2) (noT j u gs)
    | succ i => exact absurd (by simpa using h1) (noT i t fs)
/-- .. of a def whose first argument is a list that it changes -/
theorem fnI_ok {x qual : Str} {sd : Stmt} {f : Addr} {fd : FuncData} {N ps : List Str} {k : Nat} {b : Fs} {n : Nat} (F : Fun K x qual sd f fd) (S : FnScope N ps (defScope sd)) (hn : ps.length = n)
    (hbody : ∀ (cd : Value) (A : Around) (outer : List Env) (st : Shared) (H : Hp), Room k (BodyCx P w K mg base N qual (defScope sd) f cd A outer st H).A → (BodyCx P w K mg base N qual (defScope sd) f cd A outer st H).A.guards = some [] →
      DSs (BodyCx P w K mg base N qual (defScope sd) f cd A outer st H) (defBody sd) b) : FnG P w K mg base (k + 1) f fd ps (spI K n (fnI b N.length)) := by
  refine fnG_of F S (fun vs H Q h => by rw [hn]; exact spI_len vs H Q h) fun cd A outer st H vs Q room gd h => ⟨_, hbody cd A outer st H room gd, ?_⟩
  obtain ⟨F0, a, xs, es, ws, ds, y, es', rfl, fh, fa, ha, hx, hp, hl, e, k⟩ := h
  obtain ⟨gE, e, e0⟩ := fnI_inv e a
  unfold runG at e
  have hlen : (Sl.own (some a) es :: ds.map Sl.v).length = ds.length + 1 := by simp
  rw [hlen] at e
  have r0 := startRepI (N := N) fh fa ha hx hp
  have one : ∀ c, OwnAt (.own (some a) es :: (ds.map .v ++ List.replicate (N.length - (ds.length + 1)) .no)) (L2.start N (.ref a :: ws)) c → c = a := fun c ⟨i, t, fs, h1, h2⟩ => by
    cases i with
    | zero => cases h2; rfl
    | succ i =>
      exfalso
      have h1 : (ds.map Sl.v ++ List.replicate (N.length - (ds.length + 1)) Sl.no)[i]? = some (.own t fs) := by simpa using h1
      by_cases hi : i < ds.length
      · rw [List.getElem?_append_left (by simpa using hi), List.getElem?_map] at h1
        cases q : ds[i]? with
        | none => rw [q] at h1; cases h1
        | some d => rw [q] at h1; cases h1
      · rw [List.getElem?_append_right (by simpa using hi), List.getElem?_replicate] at h1
        split at h1 <;> cases h1
  -- the list behind the body
  have fin : ∀ {F' : Hp} {s' : Sg} {H' : Hp} {g' : G}, g' = gE → Tr K F0 (.own (some a) es :: (ds.map .v ++ List.replicate (N.length - (ds.length + 1)) .no)) (L2.start N (.ref a :: ws)) H F' g' s' H' →
      OwnAt g' s' a ∧ ∃ xs', F' a = none ∧ H' a = some (.lst xs') ∧ DpAll K F' xs' es' := fun {F' s' H' g'} eg t => by
    subst eg
    obtain ⟨o, ho, c, xs', eo, fc, hc, hp', ht⟩ := t.rep.get e0
    have : a = c := ht a rfl
    subst this
    subst eo
    exact ⟨⟨0, _, _, e0, ho⟩, xs', fc, hc, hp'⟩
  have hb : b (.own (some a) es :: (ds.map .v ++ List.replicate (N.length - (ds.length + 1)) .no)) = b ((.own (some a) es :: ds.map .v) ++ List.replicate (N.length - (ds.length + 1)) .no) := rfl
  cases q : b ((.own (some a) es :: ds.map .v) ++ List.replicate (N.length - (ds.length + 1)) .no) with
  | none => rw [q] at e; cases e
  | some o =>
    rw [q] at e
    refine ⟨F0, _, o, r0, hb.trans q, ?_⟩
    cases o with
    | bk g' => cases e
    | ct g' => cases e
    | nx g' =>
      cases e
      intro F' s' H' t
      obtain ⟨_, xs', f1, f2, f3⟩ := fin rfl t
      exact k .non F' H' xs' ⟨_, rfl, .non⟩ (fun z => nomatch z) (fun _ _ z => nomatch z) t.rep.fh f1 f2 f3 (t.stp.weak one)
    | ret z g' =>
      cases e
      intro v F' s' H' hv hz ho t
      obtain ⟨f0, xs', f1, f2, f3⟩ := fin rfl t
      refine k v F' H' xs' hv hz (fun tg es ez => ?_) t.rep.fh f1 f2 f3 (t.stp.weak one)
      obtain ⟨e1, c, e2, e3, e4⟩ := ho tg es ez
      refine ⟨e1, c, e2, e3.resolve_right fun w => ?_⟩
      rw [one c w] at e4
      exact e4 f0
end

/-! ### calls by data -/
section
variable {X : Cx} {k : Nat} {f : Addr} {fd : FuncData} {ps : List Str} {n : Nat}
def eCall (m : List D → Option Sl) (fs : Fa) : Fv := fun g => (fs g).bind fun p => (m p.1).map fun x => (x, p.2)
theorem dv_call {x : Str} {p pos : Pos} {a : Expr} {es : List Expr} {m : List D → Option Sl} {fs : Fa} (F : FnG X.prog X.w X.K X.mg X.base k f fd ps (spP X.K n m)) (room : Room k X.A) (gd : X.A.guards = some []) (hg : Gl X x) (hm : X.mg x = some (.ref f)) (hk : PySem.W.keepIn X.K (.ref f) = true) (hb : Binds X.K fd ps [])
    (ha : DA X (a :: es) fs) (hl : LenA fs n) (hdb : (x == ("__debug__" : Str)) = false := by decide) (he : starEach (a :: es) X.env = (false, eval a X.env) :: starEach es X.env := by rfl) (hpl : (backTo pos (starEach es X.env)).any (·.1) = false := by rfl) :
    DV X (.Call (.Name x p) (a :: es) [] pos) (eCall m fs) := peMono (pe_callG F room gd hg hm hk hb ha hdb he hpl) fun s H Q ⟨Fz, g, y, g', r, e, k⟩ => by
  unfold eCall at e
  cases q : fs g with
  | none => rw [q] at e; cases e
  | some p =>
    rw [q] at e
    have e : (m p.1).map _ = some (y, g') := e
    cases q2 : m p.1 with
    | none => rw [q2] at e; cases e
    | some z =>
      rw [q2] at e; cases e
      refine ⟨Fz, g, p.1, p.2, r, q, fun vs F1 H1 p1 r1 t1 m1 => ⟨F1, p.1, _, r1.fh, p1, hl _ _ _ q, q2, fun v F2 H2 hv hz ho fh t2 => ?_⟩⟩
      refine k v F2 H2 hv (fun tg es ez => ?_) (r1.stepN t2 fh) (t1.andN t2) m1
      obtain ⟨e1, b, e2, e3⟩ := ho tg es ez
      refine ⟨e1, b, e2, ?_⟩
      cases w : H b with
      | none => rfl
      | some o => exact absurd e3 (t1.dom b (by rw [w]; simp))
/-- the first argument the list in slot i, which is changed -/
def eCallI (m : List D → List D → Option (Sl × List D)) (i : Nat) (fs : Fa) : Fv := fun g => (ownD g[i]?).bind fun _ => (fs g).bind fun p => match p.2[i]? with
  | some (.own t es) => (m es p.1).map fun r => (r.1, p.2.set i (.own t r.2))
  | _ => none
theorem turnI {K : PySem.W.Frag} {F H F' H' : Hp} {g : G} {s : Sg} (r : Rep K F g s H) {i : Nat} {t : Option Addr} {es es' : List D} {a : Addr} {ys : List V} (hg : g[i]? = some (.own t es)) (hs : s[i]? = some (some (.ref a))) (st : Stp (fun b => b = a) F H F' H') (fh : Same F' H') (fa : F' a = none) (ha : H' a = some (.lst ys)) (hp : DpAll K F' ys es') :
    Rep K F' (g.set i (.own t es')) s H' ∧ Stp (OwnAt g s) F H F' H' := by
  obtain ⟨o, ho, a', xs, eo, fa0, ha0, hp0, ht⟩ := r.get hg
  rw [hs] at ho; cases ho; cases eo
  have hi : i < g.length := (List.getElem?_eq_some_iff.mp hg).1
  have r0 : Rep K F (g.set i .no) s H := by
    have := r.put i .no (some (.ref a)) trivial (fun _ _ _ e => nomatch e)
    rwa [setSelf hs] at this
  have n0 : ¬ OwnAt (g.set i .no) s a := fun ⟨j, tg, fs, e1, e2⟩ => by
    by_cases z : i = j
    · subst z; rw [List.getElem?_set_self hi] at e1; cases e1
    · rw [List.getElem?_set_ne z] at e1
      exact z (r.uq i j a t tg es fs hg e1 hs e2)
  have r1 : Rep K F' (g.set i .no) s H' := r0.step st (fun b hb z => n0 (by rw [← z]; exact hb)) fh
  refine ⟨?_, st.weak fun b z => by rw [z]; exact ⟨i, t, es, hg, hs⟩⟩
  have := r1.put i (.own t es') (some (.ref a)) ⟨a, ys, rfl, fa, ha, hp, ht⟩ (fun _ _ b _ e => by cases e; exact n0)
  rwa [setSelf hs, List.set_set] at this
theorem dv_callI (i : Nat) {x y : Str} {p py pos : Pos} {es : List Expr} {m : List D → List D → Option (Sl × List D)} {fs : Fa} (F : FnG X.prog X.w X.K X.mg X.base k f fd ps (spI X.K n m)) (room : Room k X.A) (gd : X.A.guards = some []) (hg : Gl X x) (hm : X.mg x = some (.ref f)) (hk : PySem.W.keepIn X.K (.ref f) = true) (hb : Binds X.K fd ps [])
    (ha : DA X es fs) {n' : Nat} (hl : LenA fs n') (hn : n' + 1 = n := by rfl) (hN : X.N[i]? = some y := by rfl) (hv : Vis X.env.scope y := by first | exact Or.inl rfl | exact Or.inr (Or.inl rfl) | exact Or.inr (Or.inr rfl)) (hd : (y == ("__debug__" : Str)) = false := by decide) (hcd : (y == ("__classdict__" : Str)) = false := by decide)
    (hdb : (x == ("__debug__" : Str)) = false := by decide) (he : starEach (.Name y py :: es) X.env = (false, eval (.Name y py) X.env) :: starEach es X.env := by rfl) (hpl : (backTo pos (starEach es X.env)).any (·.1) = false := by rfl) :
    DV X (.Call (.Name x p) (.Name y py :: es) [] pos) (eCallI m i fs) := peMono (pe_callG F room gd hg hm hk hb (pa_cons (pe_var hN hv hd hcd) ha he) hdb he hpl) fun s H Q ⟨Fz, g, y, g', r, e, k⟩ => by
  unfold eCallI at e
  cases q0 : ownD g[i]? with
  | none => rw [q0] at e; cases e
  | some d0 =>
    rw [q0] at e
    have e : (fs g).bind _ = some (y, g') := e
    cases q : fs g with
    | none => rw [q] at e; cases e
    | some p =>
      obtain ⟨ds, g1⟩ := p
      rw [q] at e
      simp only [Option.bind_some] at e
      split at e
      · rename_i t ee hge
        cases q2 : m ee ds with
        | none => rw [q2] at e; cases e
        | some z =>
          obtain ⟨z, ee'⟩ := z
          rw [q2] at e; cases e
          have hw : ∃ a, s[i]? = some (some (V.ref a)) := by
            unfold ownD at q0
            split at q0
            · rename_i t0 ds0 hx0
              obtain ⟨o, ho, a, xs, ea, _⟩ := r.get hx0
              subst ea
              exact ⟨a, ho⟩
            · cases q0
          obtain ⟨a, ha⟩ := hw
          refine ⟨.ref a, ha, Fz, g, ds, g1, r, q, fun vs F1 H1 p1 r1 t1 m1 => ?_⟩
          obtain ⟨o, ho, a', xs, eo, fa, hal, hps, ht⟩ := r1.get hge
          rw [ha] at ho; cases ho; cases eo
          refine ⟨F1, a, xs, ee, vs, ds, z, ee', rfl, r1.fh, fa, hal, hps, p1, by rw [hl _ _ _ q]; exact hn, q2, fun v F2 H2 xs' hv hz hown fh f1 f2 f3 t2 => ?_⟩
          obtain ⟨r2, t2'⟩ := turnI r1 hge ha t2 fh f1 f2 f3
          refine k v F2 H2 hv (fun tg fs' ez => ?_) r2 (t1.two m1 t2') (m1.trans (moSet hge))
          obtain ⟨e1, b, e2, e3⟩ := hown tg fs' ez
          refine ⟨e1, b, e2, ?_⟩
          cases w : H b with
          | none => rfl
          | some o => exact absurd e3 (t1.dom b (by rw [w]; simp))
      · cases e
end
end Dl
set_option Elab.async false
set_option linter.all false
set_option maxRecDepth 100000
namespace Dl
open PySem PySem.Spec PyProof.Rows L2

/-- the law's def is called, nothing tracked but the script -/
theorem lawG {P : Program} {w : World} {K : PySem.W.Frag} {mg mb : Str → Option Value} {k : Nat} {fa a : Addr} {fd : FuncData} {x : Str} {m : List D → Option Sl} {st : Shared} {vs : List Value} {ns : List Int}
    (inK : K.In st.heap) (nsG : st.heap.Ns mainGlobals mg) (nsB : st.heap.Ns builtinsNs mb) (boot : ∀ x : Str, x ≠ "__name__" → mb x = bootBuiltins x) (lim : st.heap.NoLimit) (gens : st.gens = #[])
    (hob : st.heap.get? a = some { cls := .type "list", data := .seq vs.toArray }) (hns : IntsAre vs ns) (hlen : ns.length ≤ sizeLine) (room : Room k callerA)
    (G : ∀ base : Heap, K.In base → base.Ns mainGlobals mg → FnG P w K mg base k fa fd [x] (spP K 1 m)) (bnd : ∀ (s : Shared) (u : Value), BindsTo s fd ⟨[u], []⟩ [(x, u)])
    (good : m [.list (ns.map .int)] = some (.v (.bool true))) :
    codeAny (model P w) callerA (.call (.ref fa) ⟨[.ref a], []⟩) (fun r s' => r = .ok (.ret (.bool true)) ∧ OldK st.heap s'.heap ∧ s'.os = st.os ∧ AllBare s'.gens) st := by
  have vals := vals_ints hns
  have leq := hns.length
  have dps : ∀ H : Hp, DpAll K H (ns.map V.int) (ns.map PyData.int) := fun H => by
    clear hlen leq good vals hns
    induction ns with
    | nil => exact .nil
    | cons n r ih => exact .cons (.int n) ih
  have main : ∀ H : Hp, (∀ b u, H b = some u → b = a ∧ ∃ o ys, u = .frz o (.lst ys)) → SqL K H a (ns.map V.int) → HOk P w H st.heap → (H a ≠ none → K.lookup a = none) →
      codeAny (model P w) callerA (.call (.ref fa) ⟨[.ref a], []⟩) (fun r s' => r = .ok (.ret (.bool true)) ∧ OldK st.heap s'.heap ∧ s'.os = st.os ∧ AllBare s'.gens) st := by
    intro H only hS hok apart
    have hid : ∀ {b : Addr} {o : Obj}, st.heap.get? b = some o → (H b ≠ none → False) → (hidT st.heap H).get? b = some o := fun {b o} e n => hidT_get e (by
      cases q : H b with
      | none => rfl
      | some u => exact (n (by rw [q]; simp)).elim)
    have noDict : ∀ {b : Addr} {o : Obj} {es : Array DictEntry} {ep : Nat}, st.heap.get? b = some o → o.data = .dict es ep → H b ≠ none → False := fun {b o es ep} e d n => by
      cases q : H b with
      | none => exact n q
      | some u =>
        have eb := (only b u q).1
        subst eb
        rw [hob] at e
        cases e
        exact Data.noConfusion (show Data.seq vs.toArray _ = Data.dict es ep from d)
    have nsH : ∀ {b : Addr} {mm : Str → Option Value}, st.heap.Ns b mm → (hidT st.heap H).Ns b mm := fun {b mm} z => by
      obtain ⟨o, es, ep, e, d, q⟩ := z
      exact ⟨o, es, ep, hid e (noDict e d), d, q⟩
    have kH : K.In (hidT st.heap H) := fun b o e => hid (inK b o e) fun n => by
      cases q : H b with
      | none => exact n q
      | some u =>
        have eb := (only b u q).1
        subst eb
        rw [apart n] at e
        cases e
    obtain ⟨mc, l1, l2⟩ := lim
    have md : Mod K mg (hidT st.heap H) := ⟨kH, nsH nsG, ⟨mb, nsH nsB, boot⟩, ⟨mc, nsH l1, l2⟩⟩
    have env0 : Env0 P w K mg (hidT st.heap H) callerA [] st H := ⟨rfl, md, fun b o e => of_hidT e, Nat.le_of_eq (hidT_size _ _), trivial, (fun b hb => by cases hb), hok, .of_eq gens⟩
    have want : spP K 1 m [.ref a] H (fun v H' => v = .bl true) := ⟨H, [.list (ns.map PyData.int)], _, .refl _, .cons (.lst hS (dps H)) .nil, rfl, good, fun v F' H' hv _ _ _ _ => by
      obtain ⟨y, ey, hy⟩ := hv
      cases ey
      cases hy
      rfl⟩
    refine codeAny_mono ((G _ kH (nsH nsG)).run callerA [] st H ⟨[.ref a], []⟩ [.ref a] [.ref a] _ room rfl env0 (bnd st (.ref a)) (.cons rfl .nil) want) fun r s' hr => ?_
    cases r with
    | error e => exact (show False from hr).elim
    | ok fl =>
      cases fl with
      | next => exact (show False from hr).elim
      | brk => exact (show False from hr).elim
      | cont => exact (show False from hr).elim
      | ret u =>
        obtain ⟨v, H', e1, e2, un, hok', rv, hv⟩ := hr
        have hv : v = .bl true := hv
        subst hv
        have hu : u = Value.bool true := rv
        subst hu
        refine ⟨rfl, OldK.of_keep fun b o e => ?_, e1, e2⟩
        cases q : H b with
        | none => exact un.keep b o e q (by intro z; cases z) (by simp)
        | some z =>
          obtain ⟨_, ob, ys, rfl⟩ := only b z q
          obtain ⟨k1, _⟩ := hok b _ q
          obtain ⟨k2, _⟩ := hok' b _ (un.frzs b ob _ q)
          rw [e] at k1
          cases k1
          exact k2
  cases hk : K.lookup a with
  | some o =>
    have e := inK a o hk
    rw [hob] at e
    cases e
    exact main (fun _ => none) (fun b u z => nomatch z) (.inr ⟨_, vs.toArray, _, hk, rfl, rfl, rfl, by rw [List.size_toArray, leq]; exact hlen, by simpa using vals⟩) (fun b u z => nomatch z) fun z => absurd rfl z
  | none =>
    refine main (fun b => if b = a then some (.frz { cls := .type "list", data := .seq vs.toArray } (.lst (ns.map V.int))) else none) (fun b u z => ?_) (.inl (.inr ⟨_, if_pos rfl⟩)) (fun b u z => ?_) fun _ => hk
    · by_cases hb : b = a
      · have z2 := (if_pos hb).symm.trans z
        cases z2; exact ⟨hb, _, _, rfl⟩
      · have z2 := (if_neg hb).symm.trans z
        cases z2
    · by_cases hb : b = a
      · have z2 := (if_pos hb).symm.trans z
        cases z2
        subst hb
        exact ⟨hob, by rw [List.length_map]; exact hlen, vs, _, vals, hob⟩
      · have z2 := (if_neg hb).symm.trans z
        cases z2
/-- the goal that k_head leaves -/
theorem walkG {l : PySem.W.OpenLaw} {n k : Nat} {q : Program} {loose : List Str} {XP : (Str → Option Value) → Heap → Prop} {YP : World → Heap → Prop} {d : DefRec} {K : Params → PySem.W.Frag} {x : Str} {m : List D → Option Sl}
    (hn : l.most = some n) (hn2 : n ≤ sizeLine) (hdf : d.params.defaults = []) (room : Room k callerA) (hY : ∀ (w : World) (h : Heap), YP w h → (K w.params).In h)
    (G : ∀ (w : World) (mg : Str → Option Value) (fa : Addr) (h : Heap), (K w.params).In h → h.Ns mainGlobals mg → mg d.name = some (.ref fa) →
      ∃ fd : FuncData, (∀ (s : Shared) (u : Value), BindsTo s fd ⟨[u], []⟩ [(x, u)]) ∧ ∀ base : Heap, (K w.params).In base → base.Ns mainGlobals mg → FnG l.prog w (K w.params) mg base k fa fd [x] (spP (K w.params) 1 m))
    (good : ∀ ns : List Int, ns.length ≤ n → m [.list (ns.map .int)] = some (.v (.bool true))) :
    PySem.W.WalkO q loose XP YP l.row.toRowW d [] (fun f vs => PySem.call f vs) := by
  refine Att.attach_call hn hdf fun w s0 s1 mg mb fa o pm cd doc a vs ns TT Y ho hd hcd hmg hob hns hlen hgens => ?_
  have inK := hY w _ Y
  obtain ⟨fd, bnd, hG⟩ := G w mg fa _ inK TT.T.g hmg
  exact lawG inK TT.T.g TT.T.b TT.T.builtins TT.T.nolimit hgens hob hns (Nat.le_trans hlen hn2) room hG bnd (good ns hlen)
end Dl
set_option Elab.async false
set_option linter.all false
set_option maxRecDepth 100000
namespace Dl
open PySem PySem.Spec PyProof.Rows L2

/-! ### a def as the head tells it -/
structure Df (K : PySem.W.Frag) (mg : Str → Option Value) (x : Str) (sd : Stmt) (ps : List Str) : Type where
  f : Addr
  fd : FuncData
  F : Fun K x x sd f fd
  g : mg x = some (.ref f)
  b : L2.Binds K fd ps []
  bA : ∀ (s : Shared) (us : List Value), us.length = ps.length → BindsTo s fd ⟨us, []⟩ (ps.zip us)
theorem fun_of {K : PySem.W.Frag} {x qual : Str} {st : Stmt} {f : Addr} {fd : FuncData} (F : FunD K x qual (defArgs st) (defBody st) (defScope st) [] [] f fd) : Fun K x qual st f fd := by
  obtain ⟨oc, od, dV, kV, doc, pm, an, cdv, ct, osl, e, l, c, hd, _⟩ := F.ex
  rcases hd with ⟨_, e2⟩ | ⟨e2, _⟩
  · subst e2
    exact ⟨⟨oc, od, kV, doc, pm, an, cdv, ct, osl, e, l, c⟩, F.kp⟩
  · exact absurd rfl e2
def Df.mk' {K : PySem.W.Frag} {mg : Str → Option Value} {x : Str} {sd : Stmt} {ps : List Str} {f : Addr} (fd : {fd : FuncData // FunD K x x (defArgs sd) (defBody sd) (defScope sd) [] [] f fd}) (g : mg x = some (.ref f))
    (h : ∀ (kV doc pm : Value) (an : Option Addr) (cdv ct : Value) (us : List Value), us.length = ps.length → bindArgs (PySem.W.fnOf x x (defArgs sd) (defBody sd) (defScope sd) .none kV doc pm an cdv ct) ⟨us, []⟩ = pure (ps.zip us)) : Df K mg x sd ps :=
  ⟨f, fd.1, fun_of fd.2, g, fd.2.bindsN h, fun s us e => fd.2.bindsA h s us e⟩

theorem hu64 {k : Nat} {A : Around} (r : Room k A) : A.units + 64 < cLine := r.units
theorem hu65 {k : Nat} {A : Around} (r : Room k A) : A.units + 65 < cLine := by have := r.un; omega

variable {X : Cx}
/-! ### + of ints, tuples, texts -/
def addA : D → D → Option D := fun a b => (addD a b).or ((catTD a b).or (catSD a b))
theorem addA_int (i j : Int) : addA (.int i) (.int j) = some (.int (i + j)) := rfl
theorem addA_tup (xs ys : List D) : addA (.tuple xs) (.tuple ys) = catTD (.tuple xs) (.tuple ys) := by
  unfold addA addD catSD
  simp
theorem de_addA {a b : Expr} {pos : Pos} {fa fb : Fe} (ha : DE X a fa) (hb : DE X b fb) : DE X (.BinOp a .Add b pos) (eBin addA fa fb) :=
  de_op (op_add.or (op_catA.or op_add_str)) (ok_add.or (ok_catT.or ok_catS)) ha hb

/-! ### slices of a list or a tuple -/
def eSlU (fa : Fe) (fl fh : Fo) : Fe := fun g => (fa g).bind fun p => (fl p.2).bind fun l => (fh l.2).bind fun h => match p.1 with
  | .tuple ds => some (.tuple (cutL ds l.1 h.1), h.2)
  | .list ds => some (.list (cutL ds l.1 h.1), h.2)
  | _ => none
/-- a new list, frozen at once -/
theorem newLstF {K : PySem.W.Frag} {F H : Hp} {vs : List V} {ds : List D} {Q : VK} (fh : Same F H) (hp : DpAll K F vs ds) (k : ∀ v F' H', Dp K F' v (.list ds) → Same F' H' → Stp Non F H F' H' → Q v H') : ∀ p, H p = none → Q (.ref p) (upd H p (.lst vs)) := fun p np =>
  k (.ref p) (upd F p (.lst vs)) _ (.lst (SqL.of upd_same) (dpUpd hp (nF fh np))) (sameLaid fh np) (Stp.laid np fh)
theorem de_sl {a : Expr} {lo hi : Option Expr} {p2 pos : Pos} {fa : Fe} {fl fh : Fo} (ha : DE X a fa) (hl : DO X lo fl) (hu : DO X hi fh) : DE X (.Subscript a (.Slice lo hi none p2) pos) (eSlU fa fl fh) := peMono (pe_slice (SlR.or sl_tupA sl_list) ha hl hu) fun s H Q ⟨F, g, d, g', rp, e, k⟩ => by
  unfold eSlU at e
  cases q : fa g with
  | none => rw [q] at e; cases e
  | some p =>
    rw [q] at e
    have e : (fl p.2).bind _ = some (d, g') := e
    cases q2 : fl p.2 with
    | none => rw [q2] at e; cases e
    | some l =>
      rw [q2] at e
      have e : (fh l.2).bind _ = some (d, g') := e
      cases q3 : fh l.2 with
      | none => rw [q3] at e; cases e
      | some h =>
        rw [q3] at e
        obtain ⟨d1, g1⟩ := p
        obtain ⟨l, g2⟩ := l
        obtain ⟨h, g3⟩ := h
        cases d1 with
        | tuple ds =>
          cases e
          refine ⟨F, g, _, g1, rp, q, fun v F1 H1 p1 r1 t1 m1 => ⟨F1, g1, l, g2, r1, q2, fun F2 H2 r2 t2 m2 => ⟨F2, g2, h, g3, r2, q3, fun F3 H3 r3 t3 m3 => .inl ?_⟩⟩⟩
          have p3 := dpMono (t2.fs.trans t3.fs) _ _ p1
          have tt := (t1.two m1 t2).two (m1.trans m2) t3
          have mm := (m1.trans m2).trans m3
          cases p3 with
          | tup hs hp =>
            refine ⟨_, _, rfl, Same.tupS r3.fh hs, fun hw => ?_, fun _ => newTup r3.fh (dpCut hp) fun v F' H' hv fh st => k v F' H' hv (r3.stepN st fh) (tt.andN st) mm⟩
            rw [dpLen hp] at hw
            exact k _ F3 H3 (.tup hs (by rw [cut_whole hw.1 hw.2]; exact hp)) r3 tt mm
        | list ds =>
          cases e
          refine ⟨F, g, _, g1, rp, q, fun v F1 H1 p1 r1 t1 m1 => ⟨F1, g1, l, g2, r1, q2, fun F2 H2 r2 t2 m2 => ⟨F2, g2, h, g3, r2, q3, fun F3 H3 r3 t3 m3 => .inr ?_⟩⟩⟩
          have p3 := dpMono (t2.fs.trans t3.fs) _ _ p1
          have tt := (t1.two m1 t2).two (m1.trans m2) t3
          have mm := (m1.trans m2).trans m3
          cases p3 with
          | lst hs hp => exact ⟨_, _, rfl, r3.fh.seq hs, newLstF r3.fh (dpCut hp) fun v F' H' hv fh st => k v F' H' hv (r3.stepN st fh) (tt.andN st) mm⟩
        | _ => cases e

/-! ### in, not in -/
def rInU (K : PySem.W.Frag) (neg : Bool) : R2 := fun x y H Q => ∃ d ds, Dp K H x d ∧ (Dp K H y (.list ds) ∨ Dp K H y (.tuple ds)) ∧ SeqAt.shaped d = true ∧ SeqAt.shaped (.list ds) = true ∧ Q (.bl (neg ^^ (ds.any fun z => PyData.eqv z d))) H
theorem op_inU (hu : X.A.units + 65 < cLine) : OpR X (compareOp .In) (rInU X.K false) := by
  intro pins s σ H x y v u Q I rx ry h
  obtain ⟨d, ds, hd, he, sd, se, q⟩ := h
  rw [Bool.false_xor] at q
  obtain ⟨as, r1⟩ := Dp.reads I d x v hd rx
  rcases he with he | he
  · obtain ⟨bs, r2⟩ := Dp.reads I (.list ds) y u he ry
    exact SeqAt.in_list_reads r2 r1 (SeqAt.canLay_of_shaped se) (SeqAt.canLay_of_shaped sd) (room_in_shaped sd hu) ⟨.bl _, H, I, rfl, q⟩
  · obtain ⟨bs, r2⟩ := Dp.reads I (.tuple ds) y u he ry
    exact SeqAt.in_tuple_reads r2 r1 (SeqAt.canLay_of_shaped se) (SeqAt.canLay_of_shaped sd) (room_in_shaped sd hu) ⟨.bl _, H, I, rfl, q⟩
theorem op_notInU (hu : X.A.units + 65 < cLine) : OpR X (compareOp .NotIn) (rInU X.K true) := by
  intro pins s σ H x y v u Q I rx ry h
  obtain ⟨d, ds, hd, he, sd, se, q⟩ := h
  rw [Bool.true_xor] at q
  obtain ⟨as, r1⟩ := Dp.reads I d x v hd rx
  rcases he with he | he
  · obtain ⟨bs, r2⟩ := Dp.reads I (.list ds) y u he ry
    exact SeqAt.notIn_list_reads r2 r1 (SeqAt.canLay_of_shaped se) (SeqAt.canLay_of_shaped sd) (room_in_shaped sd hu) ⟨.bl _, H, I, rfl, q⟩
  · obtain ⟨bs, r2⟩ := Dp.reads I (.tuple ds) y u he ry
    exact SeqAt.notIn_tuple_reads r2 r1 (SeqAt.canLay_of_shaped se) (SeqAt.canLay_of_shaped sd) (room_in_shaped sd hu) ⟨.bl _, H, I, rfl, q⟩
def inGD (neg : Bool) : D → D → Option D
  | d, .list ds => if SeqAt.shaped d = true ∧ SeqAt.shaped (.list ds) = true then some (.bool (neg ^^ (ds.any fun z => PyData.eqv z d))) else none
  | d, .tuple ds => if SeqAt.shaped d = true ∧ SeqAt.shaped (.list ds) = true then some (.bool (neg ^^ (ds.any fun z => PyData.eqv z d))) else none
  | _, _ => none
abbrev inD : D → D → Option D := inGD false
abbrev notinD : D → D → Option D := inGD true
theorem ok_inG {neg : Bool} : BinOk X.K (rInU X.K neg) (inGD neg) := fun x y d1 d2 d F H Q fh p1 p2 e k => by
  unfold inGD at e
  split at e
  · split at e
    · rename_i hc
      cases e
      exact ⟨_, _, dpMono fh _ _ p1, .inl (dpMono fh _ _ p2), hc.1, hc.2, fin0 fh (.bl _) k⟩
    · cases e
  · split at e
    · rename_i hc
      cases e
      exact ⟨_, _, dpMono fh _ _ p1, .inr (dpMono fh _ _ p2), hc.1, hc.2, fin0 fh (.bl _) k⟩
    · cases e
  · cases e
theorem isb_inG {neg : Bool} : IsBo (inGD neg) := fun d e c h => by
  unfold inGD at h
  split at h
  · split at h
    · cases h; exact ⟨_, rfl⟩
    · cases h
  · split at h
    · cases h; exact ⟨_, rfl⟩
    · cases h
  · cases h
section
variable {a b : Expr} {pos : Pos} {fa fb : Fe}
theorem de_in (hu : X.A.units + 65 < cLine) (ha : DE X a fa) (hb : DE X b fb) (hm : behindInMarks .In b = false := by rfl) : DE X (.Compare a [.In] [b] pos) (eBin inD fa fb) := de_cmp (op_inU hu) ok_inG hm ha hb
theorem de_notin (hu : X.A.units + 65 < cLine) (ha : DE X a fa) (hb : DE X b fb) (hm : behindInMarks .NotIn b = false := by rfl) : DE X (.Compare a [.NotIn] [b] pos) (eBin notinD fa fb) := de_cmp (op_notInU hu) ok_inG hm ha hb
theorem dt_in (hu : X.A.units + 65 < cLine) (ha : DE X a fa) (hb : DE X b fb) (hm : behindInMarks .In b = false := by rfl) : DT X (.Compare a [.In] [b] pos) (tOf (eBin inD fa fb)) := dt_cmp (op_inU hu) ok_inG isb_inG hm ha hb
theorem dt_notin (hu : X.A.units + 65 < cLine) (ha : DE X a fa) (hb : DE X b fb) (hm : behindInMarks .NotIn b = false := by rfl) : DT X (.Compare a [.NotIn] [b] pos) (tOf (eBin notinD fa fb)) := dt_cmp (op_notInU hu) ok_inG isb_inG hm ha hb
end

/-! ### l.append(e) -/
theorem de_append (i : Nat) {x : Str} {a : Expr} {f : Fv} {pos p1 p2 : Pos} (he : DV X a f) (hN : X.N[i]? = some x := by rfl) (hv : Vis X.env.scope x := by first | exact Or.inl rfl | exact Or.inr (Or.inl rfl) | exact Or.inr (Or.inr rfl)) (hd : (x == ("__debug__" : Str)) = false := by decide)
    (hcd : (x == ("__classdict__" : Str)) = false := by decide) (hbase : attributeBase (.Name x p1) "append" X.env (eval (.Name x p1) X.env) = eval (.Name x p1) X.env := by rfl)
    (hfew : ((backTo pos (starEach [a] X.env)).all (fun x => !x.1) && (backToKw pos (keywordEach [] X.env)).all (fun x => x.1.isSome)
      && decide ([a].length + ([] : List Keyword).length + (if ([] : List Keyword).isEmpty then 0 else 1) < 30)) = true := by rfl)
    (hline : (p2.endLine == pos.line) = true := by rfl) (hs : starEach [a] X.env = (false, eval a X.env) :: starEach [] X.env := by rfl) (hplain : (backTo pos (starEach [] X.env)).any (·.1) = false := by rfl) :
    DE X (.Call (.Attribute (.Name x p1) "append" p2) [a] [] pos) (eApp i f) :=
  de_app i he hN hv hd hcd (pe_bm PySem.F.plainAttrs_list PySem.F.slot_list_append PySem.F.type_list_append mt_append (pe_var hN hv hd hcd) (pa_cons (de_dv he) pa_nil hs) hbase hfew hline hs hplain)

/-! ### a, b = e1, e2 where one is a cell -/
theorem ds_parC (i j : Nat) {x y : Str} {a b : Expr} {f h : Fv} {pos px py pt : Pos} {kt k2 pt2} (hc : X.calm = true) (hN : X.N.Nodup) (ha : DV X a f) (hb : DV X b h) (hi : X.N[i]? = some x := by rfl) (hj : X.N[j]? = some y := by rfl)
    (hx : Loc X.env.scope x := by first | exact Or.inl rfl | exact Or.inr rfl) (hy : Loc X.env.scope y := by first | exact Or.inl rfl | exact Or.inr rfl)
    (hfx : X.fn x = true ∨ X.env.scope.names.lookup x = some .local := by first | exact .inl rfl | exact .inr rfl | assumption) (hfy : X.fn y = true ∨ X.env.scope.names.lookup y = some .local := by first | exact .inl rfl | exact .inr rfl | assumption)
    (hs : swapsWithSole [.Tuple [.Name x px, .Name y py] kt pt] (.Tuple [a, b] k2 pt2) pos.line X.env = pure false := by rfl)
    (hw : swappedStores [.Tuple [.Name x px, .Name y py] kt pt] (.Tuple [a, b] k2 pt2) X.env = pure none := by rfl)
    (hg : (assignEach [.Tuple [.Name x px, .Name y py] kt pt] X.env).map (·.2) = [assign (.Tuple [.Name x px, .Name y py] kt pt) X.env] := by rfl)
    (hn : (assignEach [.Name x px, .Name y py] X.env).length = 2 := by rfl) (hst : (assignEach [.Name x px, .Name y py] X.env).findIdx? (·.1) = none := by rfl)
    (hg1 : (assignEach [.Name x px, .Name y py] X.env).map (·.2) = assign (.Name x px) X.env :: (assignEach [.Name y py] X.env).map (·.2) := by rfl) (hg2 : (assignEach [.Name y py] X.env).map (·.2) = assign (.Name y py) X.env :: (assignEach [] X.env).map (·.2) := by rfl)
    (h1 : starEach [a, b] X.env = (false, eval a X.env) :: starEach [b] X.env := by rfl) (h2 : starEach [b] X.env = (false, eval b X.env) :: starEach [] X.env := by rfl) :
    DS X (.Assign [.Tuple [.Name x px, .Name y py] kt pt] (.Tuple [a, b] k2 pt2) pos) (sPar i j f h) := psMono (ps_asg (pe_tup (pa_cons ha (pa_cons hb pa_nil h2) h1)) (pg_tup hc (pgs_cons (pg_name hN hi hx hfx) (pgs_cons (pg_name hN hj hy hfy) pgs_nil hg2) hg1) hn hst) hs hw hg) fun D s H ⟨F, g, o, r, e, k⟩ => by
  unfold sPar at e
  cases q : f g with
  | none => rw [q] at e; cases e
  | some p =>
    obtain ⟨x1, g1⟩ := p
    rw [q] at e
    have e : (h g1).bind _ = some o := e
    cases q2 : h g1 with
    | none => rw [q2] at e; cases e
    | some p2 =>
      obtain ⟨x2, g2⟩ := p2
      rw [q2] at e
      have e : parOut i j x1 x2 g2 = some o := e
      have hx1 : x1 ≠ .no := fun z => by subst z; cases e
      have hx2 : x2 ≠ .no := fun z => by subst z; cases x1 <;> cases e
      have hx1' : ∀ b, x1 ≠ .ex b := fun b z => by subst z; cases x2 <;> cases e
      have hx2' : ∀ b, x2 ≠ .ex b := fun b z => by subst z; cases x1 <;> cases e
      have eo : o = Out.nx ((g2.set i x1).set j x2) := by
        cases x1 <;> cases x2 <;> first | (cases e; rfl) | exact absurd rfl hx1 | exact absurd rfl hx2 | exact absurd rfl (hx1' _) | exact absurd rfl (hx2' _)
      subst eo
      refine ⟨F, g, x1, g1, r, q, fun v F1 H1 hv hn r1 t1 m1 => ⟨F1, g1, x2, g2, r1, q2, fun w F2 H2 hw2 hn2 r2 t2 m2 => ⟨sl1000 (by decide : 2 ≤ 1000), fun p np => ⟨p, [v, w], rfl, SqT.of upd_same, rfl, v, [w], rfl, w, [], rfl, rfl, ?_⟩⟩⟩⟩
      have na : ∀ a, H a = none → ¬ OwnAt g1 s a := fun a ha z => by
        obtain ⟨xs, hx, _⟩ := r.ownSome (m1.own z)
        rw [ha] at hx; cases hx
      have hv2 : RepS X.K F2 H2 x1 (some v) := keepRep r1 hv t2 (fun tg ds z => by
        obtain ⟨_, a, ea, n⟩ := hn tg ds z
        exact ⟨a, ea, na a n⟩) r2.fh
      have t02 := Tr.of r2 (t1.two m1 t2) (m1.trans m2)
      have s1 := par_set i t02 hv2 hx1 hx1' fun tg ds z => by
        obtain ⟨e1, a, ea, n⟩ := hn tg ds z
        exact ⟨e1, a, ea, n, fun z2 => na a n (m2.own z2)⟩
      have s2 := par_set j s1 hw2 hx2 hx2' fun tg ds z => by
        obtain ⟨e1, a, ea, n⟩ := hn2 tg ds z
        refine ⟨e1, a, ea, ?_, fun z2 => ?_⟩
        · cases z3 : H a with
          | none => rfl
          | some u => exact absurd n (t1.dom a (by rw [z3]; simp))
        · rcases ownIn z2 r2.len with q3 | ⟨_, _, e3, e4⟩
          · obtain ⟨xs, hx, _⟩ := r1.ownSome (m2.own q3)
            rw [n] at hx; cases hx
          · subst e3
            cases e4
            obtain ⟨a', xs, ea', _, ha', _⟩ := hv
            cases ea'
            rw [n] at ha'; cases ha'
      exact k F2 _ _ (s2.trans (Tr.of (s2.rep.stepN (Stp.made np) (sameMade s2.rep.fh np)) (Stp.made np) Mo.refl))

/-! ### the root -/
theorem walkK {l : PySem.W.OpenLaw} {n k : Nat} {q : Program} {loose : List Str} {XP : (Str → Option Value) → Heap → Prop} {YP : World → Heap → Prop} {d : DefRec} {x : Str} {m : List D → Option Sl}
    (hn : l.most = some n) (hn2 : n ≤ sizeLine) (hdf : d.params.defaults = []) (room : Room k callerA)
    (G : ∀ (w : World) (mg : Str → Option Value) (fa : Addr) (h : Heap), YP w h → h.Ns mainGlobals mg → mg d.name = some (.ref fa) →
      ∃ (K : PySem.W.Frag) (fd : FuncData), K.In h ∧ (∀ (s : Shared) (u : Value), BindsTo s fd ⟨[u], []⟩ [(x, u)]) ∧ ∀ base : Heap, K.In base → base.Ns mainGlobals mg → FnG l.prog w K mg base k fa fd [x] (spP K 1 m))
    (good : ∀ ns : List Int, ns.length ≤ n → m [.list (ns.map .int)] = some (.v (.bool true))) :
    PySem.W.WalkO q loose XP YP l.row.toRowW d [] (fun f vs => PySem.call f vs) := by
  refine Att.attach_call hn hdf fun w s0 s1 mg mb fa o pm cd doc a vs ns TT Y ho hd hcd hmg hob hns hlen hgens => ?_
  obtain ⟨K, fd, inK, bnd, hG⟩ := G w mg fa _ Y TT.T.g hmg
  exact lawG inK TT.T.g TT.T.b TT.T.builtins TT.T.nolimit hgens hob hns (Nat.le_trans hlen hn2) room hG bnd (good ns hlen)
end Dl
set_option Elab.async false
set_option linter.all false
set_option maxRecDepth 100000
namespace Dl
open PySem PySem.Spec PyProof.Rows L2
variable {X : Cx}

/-! ### methods of a list of the frame's own, one argument -/
def M1Ok (K : PySem.W.Frag) (r : V → List V → Hp → VK → Prop) (op : List D → D → Option (D × List D)) : Prop := ∀ (l : Addr) (xs : List V) (ds : List D) (y : V) (d : D) (F H : Hp) (res : D) (ds' : List D) (Q : VK), H l = some (.lst xs) → DpAll K F xs ds → Dp K F y d → op ds d = some (res, ds') →
  (∀ v ys, Dp K F v res → DpAll K F ys ds' → Q v (upd H l (.lst ys))) → r (.ref l) [y] H Q
def eM1 (op : List D → D → Option (D × List D)) (i : Nat) (f : Fe) : Fe := fun g => (ownD g[i]?).bind fun _ => (f g).bind fun q => match q.2[i]? with
  | some (.own t ds) => (op ds q.1).map fun r => (r.1, q.2.set i (.own t r.2))
  | _ => none
theorem de_m1 (i : Nat) {x n : Str} {id : String} {a : Expr} {f : Fe} {pos p1 p2 : Pos} {r : V → List V → Hp → VK → Prop} {op : List D → D → Option (D × List D)} (slot : Slot "list" n id) (hty : typeOf (.builtin id) = pure (.type "method_descriptor")) (hm : MtR X id r) (ok : M1Ok X.K r op)
    (he : DE X a f) (hN : X.N[i]? = some x := by rfl) (hv : Vis X.env.scope x := by first | exact Or.inl rfl | exact Or.inr (Or.inl rfl) | exact Or.inr (Or.inr rfl)) (hd : (x == ("__debug__" : Str)) = false := by decide)
    (hcd : (x == ("__classdict__" : Str)) = false := by decide) (hbase : attributeBase (.Name x p1) n X.env (eval (.Name x p1) X.env) = eval (.Name x p1) X.env := by rfl)
    (hfew : ((backTo pos (starEach [a] X.env)).all (fun x => !x.1) && (backToKw pos (keywordEach [] X.env)).all (fun x => x.1.isSome)
      && decide ([a].length + ([] : List Keyword).length + (if ([] : List Keyword).isEmpty then 0 else 1) < 30)) = true := by rfl)
    (hline : (p2.endLine == pos.line) = true := by rfl) (hs : starEach [a] X.env = (false, eval a X.env) :: starEach [] X.env := by rfl) (hplain : (backTo pos (starEach [] X.env)).any (·.1) = false := by rfl) :
    DE X (.Call (.Attribute (.Name x p1) n p2) [a] [] pos) (eM1 op i f) :=
  peMono (pe_bm PySem.F.plainAttrs_list slot hty hm (pe_var hN hv hd hcd) (pa_cons he pa_nil hs) hbase hfew hline hs hplain) fun s H Q ⟨F, g, d, g', r0, e, k⟩ => by
    unfold eM1 at e
    cases q0 : ownD g[i]? with
    | none => rw [q0] at e; cases e
    | some d0 =>
      rw [q0] at e
      have e : (f g).bind _ = some (d, g') := e
      cases q2 : f g with
      | none => rw [q2] at e; cases e
      | some p2 =>
        obtain ⟨dj, g2⟩ := p2
        rw [q2] at e
        simp only [Option.bind_some] at e
        split at e
        · rename_i tg ds hg
          cases q3 : op ds dj with
          | none => rw [q3] at e; cases e
          | some rr =>
            rw [q3] at e
            cases e
            have hw : ∃ w xs, s[i]? = some (some (.ref w)) ∧ H w = some (.lst xs) := by
              unfold ownD at q0
              split at q0
              · rename_i t0 ds0 hx0
                obtain ⟨o, ho, a, xs, ea, _, ha, _⟩ := r0.get hx0
                subst ea
                exact ⟨a, xs, ho, ha⟩
              · cases q0
            obtain ⟨w, xs0, hw, hxs0⟩ := hw
            refine ⟨.ref w, hw, .inl ⟨rfl, _, SqL.of hxs0⟩, F, g, dj, g2, r0, q2, fun vj F2 H2 hpj r2 t2 m2 => ?_⟩
            obtain ⟨o, ho, a, xs, eo, fa, hal, hps, ht⟩ := r2.get hg
            rw [hw] at ho; cases ho; cases eo
            refine ok w xs ds vj dj F2 H2 _ _ Q hal hps hpj q3 fun v ys hv hys => ?_
            have tr := r2.turn hg hw hys
            exact k v F2 _ hv tr.rep (t2.two m2 tr.stp) (m2.trans (moSet hg))
        · cases e
def popD : List D → D → Option (D × List D)
  | ds, .int i => match ixN ds.length i with
    | some k => (ds[k]?).map fun d => (d, ds.eraseIdx k)
    | none => none
  | _, _ => none
theorem dpErase {K : PySem.W.Frag} {H : Hp} : ∀ (n : Nat) {vs : List V} {ds : List D}, DpAll K H vs ds → DpAll K H (vs.eraseIdx n) (ds.eraseIdx n)
  | _, _, [], h => by cases h; exact .nil
  | 0, _, d :: ds, h => by
    cases h with
    | cons h1 h2 => exact h2
  | n + 1, _, d :: ds, h => by
    cases h with
    | cons h1 h2 => exact .cons h1 (dpErase n h2)
theorem ok_pop : M1Ok X.K (fun x vs H Q => rPopAt x vs H Q) (fun ds d => match d with
    | .int i => if -(2 ^ 63) ≤ i ∧ i < 2 ^ 63 then popD ds d else none
    | _ => none) := fun l xs ds y d F H res ds' Q hl hx hy e k => by
  cases d with
  | int i =>
    simp only at e
    split at e
    · rename_i hi
      unfold popD at e
      simp only at e
      split at e
      · rename_i kk hk
        cases q : ds[kk]? with
        | none => rw [q] at e; cases e
        | some d0 =>
          rw [q] at e; cases e
          obtain ⟨v, hv, hd⟩ := dpAt hx q
          refine ⟨l, xs, i, kk, v, rfl, by rw [intOf hy], hl, hi.1, hi.2, ?_, hv, k v _ hd (dpErase kk hx)⟩
          rw [dpLen hx]
          exact (ixN_seq hk).1
      · cases e
    · cases e
  | _ => cases e
def popOp : List D → D → Option (D × List D) := fun ds d => match d with
    | .int i => if -(2 ^ 63) ≤ i ∧ i < 2 ^ 63 then popD ds d else none
    | _ => none
theorem de_pop (i : Nat) {x : Str} {a : Expr} {f : Fe} {pos p1 p2 : Pos} (he : DE X a f) (hN : X.N[i]? = some x := by rfl) (hv : Vis X.env.scope x := by first | exact Or.inl rfl | exact Or.inr (Or.inl rfl) | exact Or.inr (Or.inr rfl)) (hd : (x == ("__debug__" : Str)) = false := by decide)
    (hcd : (x == ("__classdict__" : Str)) = false := by decide) (hbase : attributeBase (.Name x p1) "pop" X.env (eval (.Name x p1) X.env) = eval (.Name x p1) X.env := by rfl)
    (hfew : ((backTo pos (starEach [a] X.env)).all (fun x => !x.1) && (backToKw pos (keywordEach [] X.env)).all (fun x => x.1.isSome)
      && decide ([a].length + ([] : List Keyword).length + (if ([] : List Keyword).isEmpty then 0 else 1) < 30)) = true := by rfl)
    (hline : (p2.endLine == pos.line) = true := by rfl) (hs : starEach [a] X.env = (false, eval a X.env) :: starEach [] X.env := by rfl) (hplain : (backTo pos (starEach [] X.env)).any (·.1) = false := by rfl) :
    DE X (.Call (.Attribute (.Name x p1) "pop" p2) [a] [] pos) (eM1 popOp i f) := de_m1 i PySem.F.slot_list_pop PySem.F.type_list_pop mt_popAt ok_pop he hN hv hd hcd hbase hfew hline hs hplain
end Dl
set_option Elab.async false
set_option linter.all false
set_option maxRecDepth 100000
namespace Dl
open PySem PySem.Spec PyProof.Rows L2
variable {X : Cx}

/-! ### a built-in that makes a list of the frame's own out of one argument -/
def V1Ok (K : PySem.W.Frag) (r : List V → Hp → VK → Prop) (op : D → Option (List D)) : Prop := ∀ (v : V) (d1 : D) (ds : List D) (F H : Hp) (Q : VK), Same F H → BD K F H v d1 → op d1 = some ds →
  (∀ vs p, DpAll K F vs ds → H p = none → Q (.ref p) (upd H p (.lst vs))) → r [v] H Q
def v1 (op : D → Option (List D)) (f : Fe) : Fv := fun g => (f g).bind fun p => (op p.1).map fun ds => (.own none ds, p.2)
theorem v1_of {op : D → Option (List D)} {f : Fe} {g g1 : G} {d : D} {ds : List D} (e : f g = some (d, g1)) (h : op d = some ds) : v1 op f g = some (.own none ds, g1) := by
  unfold v1
  simp only [e, h, Option.bind_some, Option.map_some]
theorem tCV_of {K : PySem.W.Frag} {r : List V → Hp → VK → Prop} {op : D → Option (List D)} {f : Fe} (ok : V1Ok K r op) {s : Sg} {H : Hp} {Q : VK} (h : tV K (v1 op f) s H Q) : tCB r (tCons (tB K f) tNil) s H Q := by
  obtain ⟨F, g, x, g', rp, e, k⟩ := h
  unfold v1 at e
  cases q : f g with
  | none => rw [q] at e; cases e
  | some p =>
    obtain ⟨d1, g1⟩ := p
    rw [q] at e
    have e : (op d1).map _ = some (x, g') := e
    cases q2 : op d1 with
    | none => rw [q2] at e; cases e
    | some ds =>
      rw [q2] at e; cases e
      refine ⟨F, g, d1, _, rp, q, fun v1 F1 H1 p1 r1 t1 m1 => ok v1 d1 ds F1 H1 Q r1.fh p1 q2 fun vs p hvs np => ?_⟩
      exact newLst r1 hvs t1 m1 k p np
theorem dv_b1 {x : Str} {id : String} {p pos : Pos} {a : Expr} {f : Fe} {r : List V → Hp → VK → Prop} {op : D → Option (List D)} (hc : CallR X (.builtin id) r) (ok : V1Ok X.K r op) (hg : Gl X x) (hm : X.mg x = none) (hv : bootBuiltins x = some (.builtin id)) (ha : DB X a f)
    (hn : x ≠ "__name__" := by decide) (hdb : (x == ("__debug__" : Str)) = false := by decide) (he : starEach [a] X.env = (false, eval a X.env) :: starEach [] X.env := by rfl) (hpl : (backTo pos (starEach [] X.env)).any (·.1) = false := by rfl) : DV X (.Call (.Name x p) [a] [] pos) (v1 op f) :=
  peMono (pe_callB hc hg hm hv (pa_cons ha pa_nil he) hn hdb he hpl) fun _ _ _ h => tCV_of ok h
theorem dv_t1 {x : Str} {id : String} {p pos : Pos} {a : Expr} {f : Fe} {r : List V → Hp → VK → Prop} {op : D → Option (List D)} (hc : CallR X (.type id) r) (ok : V1Ok X.K r op) (hg : Gl X x) (hm : X.mg x = none) (hv : bootBuiltins x = some (.type id)) (ha : DB X a f)
    (hn : x ≠ "__name__" := by decide) (hdb : (x == ("__debug__" : Str)) = false := by decide) (he : starEach [a] X.env = (false, eval a X.env) :: starEach [] X.env := by rfl) (hpl : (backTo pos (starEach [] X.env)).any (·.1) = false := by rfl) : DV X (.Call (.Name x p) [a] [] pos) (v1 op f) :=
  peMono (pe_callTy hc hg hm hv (pa_cons ha pa_nil he) hn hdb he hpl) fun _ _ _ h => tCV_of ok h
theorem BD.seq {K : PySem.W.Frag} {F H : Hp} {v : V} {d : D} {ds : List D} (h : BD K F H v d) (fh : Same F H) (e : seqD d = some ds) : ∃ p ys, v = .ref p ∧ (SqL K H p ys ∨ SqT K H p ys) ∧ DpAll K F ys ds := by
  rcases h with h | ⟨es, a, xs, rfl, rfl, ha, hp⟩
  · cases d with
    | list es =>
      cases e
      cases h with
      | lst hs ha => exact ⟨_, _, rfl, .inl (fh.seq hs), ha⟩
    | tuple es =>
      cases e
      cases h with
      | tup hs ha => exact ⟨_, _, rfl, .inr (Same.tupS fh hs), ha⟩
    | _ => cases e
  · cases e
    exact ⟨_, _, rfl, .inl (SqL.of ha), hp⟩
/-- list(x) -/
theorem ok_list : V1Ok X.K (fun xs H Q => ∃ p ys, xs = [.ref p] ∧ (SqL X.K H p ys ∨ SqT X.K H p ys) ∧ ∀ l, H l = none → Q (.ref l) (upd H l (.lst ys))) seqD := fun v d1 ds F H Q fh p e k => by
  obtain ⟨a, ys, rfl, h1, h2⟩ := p.seq fh e
  exact ⟨a, ys, rfl, h1, fun l nl => k ys l h2 nl⟩
theorem dv_list {p pos : Pos} {a : Expr} {f : Fe} (hg : Gl X "list") (hm : X.mg "list" = none) (ha : DB X a f) (he : starEach [a] X.env = (false, eval a X.env) :: starEach [] X.env := by rfl) (hpl : (backTo pos (starEach [] X.env)).any (·.1) = false := by rfl) :
    DV X (.Call (.Name "list" p) [a] [] pos) (v1 seqD f) := dv_t1 call_list_of ok_list hg hm (by decide +kernel) ha (by decide) (by decide) he hpl
/-- sorted of ints -/
def srtI (ns : List Int) : List Int := ns.mergeSort fun a b => decide (a ≤ b)
theorem srt_perm (ns : List Int) : (srtI ns).Perm ns := List.mergeSort_perm ..
theorem srt_sorted (ns : List Int) : (srtI ns).Pairwise (· ≤ ·) := by
  have := List.pairwise_mergeSort (le := fun a b : Int => decide (a ≤ b)) (by intro a b c h1 h2; simp at h1 h2 ⊢; omega) (by intro a b; simp; omega) ns
  exact this.imp fun h => by simpa using h
theorem srt_unique {ms ns : List Int} (h1 : ms.Perm ns) (h2 : ms.Pairwise (· ≤ ·)) : ms = srtI ns :=
  (h1.trans (srt_perm ns).symm).eq_of_pairwise (fun a b _ _ x y => Int.le_antisymm x y) h2 (srt_sorted ns)
def sortD : D → Option (List D)
  | .list ds => (intL ds).map fun ns => (srtI ns).map .int
  | _ => none
theorem dpInts {K : PySem.W.Frag} {F : Hp} : ∀ ns : List Int, DpAll K F (ns.map V.int) (ns.map .int)
  | [] => .nil
  | n :: r => .cons (.int n) (dpInts r)
theorem ok_sorted : V1Ok X.K (rSortedI X.K) sortD := fun v d1 ds F H Q fh p e k => by
  cases d1 with
  | list es =>
    have e : (intL es).map _ = some ds := e
    cases q : intL es with
    | none => rw [q] at e; cases e
    | some ns =>
      rw [q] at e; cases e
      have p' := p.dp fh
      cases p' with
      | lst hs ha =>
        have e2 := intL_of q ha
        subst e2
        exact ⟨_, ns, rfl, hs, fun ns' l hp hsrt nl => by rw [srt_unique hp hsrt]; exact k _ l (dpInts _) nl⟩
  | _ => cases e
theorem dv_sorted {p pos : Pos} {a : Expr} {f : Fe} (hg : Gl X "sorted") (hm : X.mg "sorted" = none) (ha : DB X a f) (he : starEach [a] X.env = (false, eval a X.env) :: starEach [] X.env := by rfl) (hpl : (backTo pos (starEach [] X.env)).any (·.1) = false := by rfl) :
    DV X (.Call (.Name "sorted" p) [a] [] pos) (v1 sortD f) := dv_b1 cr_sortedI ok_sorted hg hm (by decide +kernel) ha (by decide) (by decide) he hpl
end Dl
set_option Elab.async false
set_option linter.all false
set_option maxRecDepth 100000
namespace Dl
open PySem PySem.Spec PyProof.Rows L2

/-! ### zip of a list and a tuple, either way round -/
def Sq (t : Bool) (K : PySem.W.Frag) (H : Hp) (a : Addr) (xs : List V) : Prop := if t = true then SqT K H a xs else SqL K H a xs
def IterAt (t : Bool) (h : Heap) (i a : Addr) (k : Nat) : Prop := if t = true then h.IsTupleIter i a k else h.IsListIter i a k
def PlAt (t : Bool) (h : Heap) (a : Addr) (its : Array Value) : Prop := if t = true then h.IsTuple a its else h.IsList a its
def itObj (t : Bool) (a : Addr) : Obj := if t = true then { cls := .type "tuple_iterator", data := .fields #[.ref a, .int 0 0] } else { cls := .type "list_iterator", data := .fields #[.ref a, .int 0 0] }
theorem drawsX {prog : Program} {w : World} {A : Around} (hh : A.handled = none) (t : Bool) (it a : Addr) (hne : a ≠ it) (items : Array Value) :
    Draws prog w A it [it, a] items.size (fun i v => items[i]? = some v) (fun i h => IterAt t h it a i ∧ PlAt t h a items) := by
  cases t
  · exact Draws.list hh it a hne items
  · exact Draws.tuple hh it a hne items
theorem beginsX (t : Bool) (a : Addr) (items : Array Value) : Begins (.ref a) (itObj t a) fun h => PlAt t h a items := by
  cases t
  · exact begins_list a items
  · exact begins_tuple a items
theorem IterAt.obj {t : Bool} {h : Heap} {i a : Addr} {k : Nat} (x : IterAt t h i a k) : ∃ o, h.get? i = some o ∧ ∀ v, o.data ≠ .cell v := by
  cases t
  · obtain ⟨o, e, _, d⟩ := (show h.IsListIter i a k from x)
    exact ⟨o, e, fun v q => by rw [d] at q; cases q⟩
  · obtain ⟨o, e, _, d⟩ := (show h.IsTupleIter i a k from x)
    exact ⟨o, e, fun v q => by rw [d] at q; cases q⟩
theorem IterAt.at {t : Bool} {h h' : Heap} {i a : Addr} {k : Nat} (x : IterAt t h i a k) (kp : ∀ o, h.get? i = some o → h'.get? i = some o) : IterAt t h' i a k := by
  cases t
  · exact (show h.IsListIter i a k from x).at kp
  · exact (show h.IsTupleIter i a k from x).at kp
theorem IterAt.new {t : Bool} {h : Heap} {i a : Addr} (x : h.get? i = some (itObj t a)) : IterAt t h i a 0 := by
  cases t
  · exact ⟨_, x, rfl, rfl⟩
  · exact ⟨_, x, rfl, rfl⟩
theorem invSq {X : Cx} {pins : List (Addr × Obj)} {σ : L2.St} {H : Hp} {s : Shared} (I : Inv X pins σ H s) {t : Bool} {a : Addr} {xs : List V} (h : Sq t X.K H a xs) : ∃ its : List Value, Vals xs its ∧ PlAt t s.heap a its.toArray ∧ a < s.heap.objs.size := by
  cases t
  · obtain ⟨its, r, p, _⟩ := I.list (show SqL X.K H a xs from h)
    exact ⟨its, r, p.isList, p.lt⟩
  · obtain ⟨its, r, p, _⟩ := I.tuple (show SqT X.K H a xs from h)
    have p' := p
    obtain ⟨o, ho, _⟩ := p'
    exact ⟨its, r, p, Heap.lt_size ho⟩
theorem sqInj {X : Cx} {pins : List (Addr × Obj)} {σ : L2.St} {H : Hp} {s : Shared} (I : Inv X pins σ H s) {t : Bool} {a : Addr} {xs ys : List V} (h : Sq t X.K H a xs) (h2 : Sq t X.K H a ys) : xs = ys := by
  cases t
  · exact I.list_inj (show SqL X.K H a xs from h) (show SqL X.K H a ys from h2)
  · exact I.tuple_inj (show SqT X.K H a xs from h) (show SqT X.K H a ys from h2)
def ItX (K : PySem.W.Frag) (t1 t2 : Bool) (a b : Addr) : It :=
  ⟨fun i H => ∃ (xs ys : List V) (x y : V), Sq t1 K H a xs ∧ Sq t2 K H b ys ∧ xs[i]? = some x ∧ ys[i]? = some y,
    fun i H v H' => ∃ T x y, v = .ref T ∧ H T = none ∧ H' = upd H T (.tup [x, y]) ∧ (∀ xs, Sq t1 K H a xs → xs[i]? = some x) ∧ ∀ ys, Sq t2 K H b ys → ys[i]? = some y,
    fun i H => ∃ xs ys : List V, Sq t1 K H a xs ∧ Sq t2 K H b ys ∧ i = min xs.length ys.length⟩
theorem turnX {P : Program} {w : World} {K : PySem.W.Frag} {elts : List Expr} {kk : Nat} {tpos : Pos} {t1 t2 : Bool} {a b z TI TO i1 i2 : Addr} (S : ZipSep2 z TI TO i1 i2 [i1, a] [i2, b]) (hai : a ≠ i1) (hbi : b ≠ i2) :
    Turn P w K (.Tuple elts kk tpos) (ItX K t1 t2 a b) [z, TI, TO, i1, i2] z (fun i h => IsZip h z TI TO .none ∧ IsTupOf2 h TI (.ref i1) (.ref i2) ∧ (∃ x y, IsTupOf2 h TO x y) ∧ IterAt t1 h i1 a i ∧ IterAt t2 h i2 b i) where
  mem := by simp
  obj := fun i h st c hc => by
    obtain ⟨hz, hTI, ⟨x, y, hTO⟩, h1, h2⟩ := st
    have e' : c = z ∨ c = TI ∨ c = TO ∨ c = i1 ∨ c = i2 := by simpa using hc
    rcases e' with q | q | q | q | q
    · rw [q]; exact ⟨_, hz, fun v q => nomatch q⟩
    · rw [q]; exact ⟨_, hTI, fun v q => nomatch q⟩
    · rw [q]; exact ⟨_, hTO, fun v q => nomatch q⟩
    · rw [q]; exact h1.obj
    · rw [q]; exact h2.obj
  keep := fun i h h' st k => by
    obtain ⟨hz, hTI, ⟨x, y, hTO⟩, h1, h2⟩ := st
    exact ⟨k z (by simp) _ hz, k TI (by simp) _ hTI, ⟨x, y, k TO (by simp) _ hTO⟩, h1.at fun o q => k i1 (by simp) o q, h2.at fun o q => k i2 (by simp) o q⟩
  item := by
    intro X hP hw hK hc i pins s σ H E I hf st hg
    subst hP hw hK
    obtain ⟨hz, hTI, ⟨x0, y0, hTO⟩, h1, h2⟩ := st
    obtain ⟨xs, ys, x, y, hqx, hqy, hx, hy⟩ := hg
    obtain ⟨its, rv, p, _⟩ := invSq I hqx
    obtain ⟨its2, rv2, p2, _⟩ := invSq I hqy
    obtain ⟨u, hu, ru⟩ := rv.get hx
    obtain ⟨u2, hu2, ru2⟩ := rv2.get hy
    have hzl : z < s.heap.objs.size := Heap.lt_size hz
    have l1 : i < its.toArray.size := by
      have := (List.getElem?_eq_some_iff.mp hu).1
      simpa using this
    have l2 : i < its2.toArray.size := by
      have := (List.getElem?_eq_some_iff.mp hu2).1
      simpa using this
    have hh : X.A.in1.handled = none := I.ok.hd hc
    refine wpAny_pyNext_zipD2_item S (drawsX hh t1 i1 a hai its.toArray) (drawsX hh t2 i2 b hbi its2.toArray) hz hTI hTO ⟨h1, p⟩ ⟨h2, p2⟩ l1 l2 fun v1 v2 h' tk e1 e2 z' TO' n1 n2 hT hsz hk => ?_
    have e1 : v1 = u := by
      have : its[i]? = some v1 := by simpa using e1
      rw [hu] at this; exact (Option.some.inj this).symm
    have e2 : v2 = u2 := by
      have : its2[i]? = some v2 := by simpa using e2
      rw [hu2] at this; exact (Option.some.inj this).symm
    subst e1 e2
    refine ⟨_, rfl, wpAny_letOwnedTupleGo_zip (s := { s with heap := h', toks := tk }) z' fun h'' z'' sb => ?_⟩
    have hT2 : h''.get? s.heap.objs.size = some { cls := .type "tuple", data := .seq #[v1, v2] } := (sb.2 _ (Nat.ne_of_gt hzl)).trans hT
    have new : ObjOk X.prog X.w (upd H s.heap.objs.size (.tup [x, y])) h'' s.heap.objs.size (.tup [x, y]) :=
      ⟨by show 2 ≤ sizeLine; decide, [v1, v2], .cons ru (.cons ru2 .nil), ⟨_, hT2, rfl, _, rfl⟩⟩
    have I1 : Inv X pins σ (upd H s.heap.objs.size (.tup [x, y])) { s with heap := h'', toks := tk } :=
      I.turnedNew (t' := tk) (ch := [z, TI, TO, i1, i2]) (fun c o hb q => (sb.2 c (fun q' => hb (by simp [q']))).trans (hk c o (fun q' => hb (by simp [q'])) (fun q' => hb (by simp [q'])) (fun q' => hb (by simp [q'])) (fun q' => hb (by simp [q'])) q)) hf (Nat.le_refl _) new
    refine ⟨.ref s.heap.objs.size, _, I1, rfl, ⟨_, x, y, rfl, I.hok.fresh (Nat.le_refl _), rfl, fun l hl => by rw [sqInj I hl hqx]; exact hx, fun l hl => by rw [sqInj I hl hqy]; exact hy⟩, ⟨z'', ?_, ⟨v1, v2, ?_⟩, ?_, ?_⟩, fun c hcm => ?_⟩
    · exact (sb.2 _ S.TIz).trans (hk _ _ S.TIz S.TITO S.TIi1 S.TIi2 hTI)
    · exact (sb.2 _ S.TOz).trans TO'
    · exact n1.1.at fun o q => (sb.2 _ (Ne.symm S.zi1)).trans q
    · exact n2.1.at fun o q => (sb.2 _ (Ne.symm S.zi2)).trans q
    · have hlt : c < s.heap.objs.size := by
        have e' : c = z ∨ c = TI ∨ c = TO ∨ c = i1 ∨ c = i2 := by simpa using hcm
        rcases e' with q | q | q | q | q
        · rw [q]; exact hzl
        · rw [q]; exact Heap.lt_size hTI
        · rw [q]; exact Heap.lt_size hTO
        · rw [q]; obtain ⟨_, e1, _⟩ := h1.obj; exact Heap.lt_size e1
        · rw [q]; obtain ⟨_, e2, _⟩ := h2.obj; exact Heap.lt_size e2
      rw [upd_ne (Nat.ne_of_lt hlt)]
      exact (hf c hcm).1
  done := by
    intro X hP hw hK hc i pins s σ H E I hf st hg
    subst hP hw hK
    obtain ⟨hz, hTI, ⟨x0, y0, hTO⟩, h1, h2⟩ := st
    obtain ⟨xs, ys, hqx, hqy, hend⟩ := hg
    obtain ⟨its, rv, p, _⟩ := invSq I hqx
    obtain ⟨its2, rv2, p2, _⟩ := invSq I hqy
    have l1 := rv.length
    have l2 := rv2.length
    have hh : X.A.in1.handled = none := I.ok.hd hc
    exact wpAny_pyNext_zipD2_end S (drawsX hh t1 i1 a hai its.toArray) (drawsX hh t2 i2 b hbi its2.toArray) hz hTI hTO ⟨h1, p⟩ ⟨h2, p2⟩ (by simp; omega) (by simp; omega) (by simp; omega) fun h' tk hk => ⟨rfl, I.turnedL (t' := tk) (ch := [z, TI, TO, i1, i2]) (fun c o hb q =>
      hk c o (fun q' => hb (by simp [q'])) (fun q' => hb (by simp [q'])) (fun q' => hb (by simp [q'])) (fun q' => hb (by simp [q'])) q) hf⟩
  self := fun A i s Q E st h => wpAny_pyIter_zip st.1 h
def iZipX (K : PySem.W.Frag) (ta : TA) : TI := fun σ H R => ta σ H fun vs H1 => ∃ (t1 t2 : Bool) (a b : Addr) (xs ys : List V), vs = [.ref a, .ref b] ∧ Sq t1 K H1 a xs ∧ Sq t2 K H1 b ys ∧ R (ItX K t1 t2 a b) H1
theorem pi_zipX {X : Cx} {e e2 : Expr} {ta : TA} {p pos tpos : Pos} {elts : List Expr} {kk : Nat} (hg : Gl X "zip") (hm : X.mg "zip" = none) (ha : PA X [e, e2] ta)
    (hs : starEach [e, e2] X.env = (false, eval e X.env) :: starEach [e2] X.env := by rfl) (hpl : (backTo pos (starEach [e2] X.env)).any (·.1) = false := by rfl) :
    PI X (.Tuple elts kk tpos) (.Call (.Name "zip" p) [e, e2] [] pos) (iZipX X.K ta) := by
  refine ⟨fun pins s σ H R I h => ?_⟩
  refine Call_ (ld_blt I hg hm PyProof.Rows.boot_zip (PyProof.Rows.callWith_type1 (thn (ha.run pos pins s σ H _ I h) fun us s1 ⟨vs, H1, I1, r1, q1⟩ => ?_) hs hpl))
  obtain ⟨t1, t2, a, b, xs, ys, ex, hqx, hqy, q⟩ := q1
  subst ex
  cases r1 with
  | cons r rr =>
    cases rr with
    | cons r' rr =>
      cases rr
      cases r
      cases r'
      have fresh5 : ∀ c, c ∈ [s1.heap.objs.size + 4, s1.heap.objs.size + 2, s1.heap.objs.size + 3, s1.heap.objs.size, s1.heap.objs.size + 1] → FpOk X pins H1 c := fun c hcm => by
        have e' : c = s1.heap.objs.size + 4 ∨ c = s1.heap.objs.size + 2 ∨ c = s1.heap.objs.size + 3 ∨ c = s1.heap.objs.size ∨ c = s1.heap.objs.size + 1 := by simpa using hcm
        have hle : s1.heap.objs.size ≤ c := by
          rcases e' with z | z | z | z | z
          · rw [z]; exact Nat.le_add_right _ _
          · rw [z]; exact Nat.le_add_right _ _
          · rw [z]; exact Nat.le_add_right _ _
          · rw [z]; exact Nat.le_refl _
          · rw [z]; exact Nat.le_add_right _ _
        exact I1.fpOk hle (I1.hok.fresh hle)
      obtain ⟨its, rv, p1, la⟩ := invSq I1 hqx
      obtain ⟨its2, rv2, p2, lb⟩ := invSq I1 hqy
      refine zip_begins2 (beginsX t1 a its.toArray) (beginsX t2 b its2.toArray) p1 p2 fun h' hz hTI hTO h1 h2 hsz hk => wpAny_pyIter_zip hz ?_
      have I2 : Inv X pins σ H1 { s1 with heap := h' } := I1.kept (t' := s1.toks) hk
      exact ⟨s1.heap.objs.size + 4, [s1.heap.objs.size + 4, s1.heap.objs.size + 2, s1.heap.objs.size + 3, s1.heap.objs.size, s1.heap.objs.size + 1], _, _, H1, rfl, I2,
        turnX (t1 := t1) (t2 := t2) (zip_sep2 (N := s1.heap.objs.size) (fp1 := [a]) (fp2 := [b]) (by simpa using la) (by simpa using lb)) (Nat.ne_of_lt la) (Nat.ne_of_lt (Nat.lt_succ_of_lt lb)), ⟨hz, hTI, ⟨_, _, hTO⟩, IterAt.new h1, IterAt.new h2⟩, fresh5, q⟩

variable {X : Cx}
theorem walkX {K : PySem.W.Frag} {t1 t2 : Bool} {a b : Addr} {xs ys : List V} {n : Nat} (hn : n = min xs.length ys.length) : Walk (ItX K t1 t2 a b) n (fun H => Sq t1 K H a xs ∧ Sq t2 K H b ys) (YPair (fun i => xs[i]?) (fun i => ys[i]?)) := by
  subst hn
  refine ⟨fun i _ hi q => ?_, fun _ q => ⟨xs, ys, q.1, q.2, rfl⟩, fun i H v H' _ q y => ?_⟩
  · have h1 : i < xs.length := by omega
    have h2 : i < ys.length := by omega
    exact ⟨xs, ys, xs[i], ys[i], q.1, q.2, by simp [h1], by simp [h2]⟩
  · obtain ⟨T, x, z, h1, h2, h3, h4, h5⟩ := y
    exact ⟨T, x, z, h1, h2, h3, h4 xs q.1, h5 ys q.2⟩
def iZipU (f : Fa) : Fa := fun g => match f g with
  | some ([d, e], g') => (seqD d).bind fun xs => (seqD e).map fun ys => (zipL xs ys, g')
  | _ => none
theorem sqOf {K : PySem.W.Frag} {F H : Hp} {v : V} {d : D} {ds : List D} (h : Dp K F v d) (fh : Same F H) (e : seqD d = some ds) : ∃ t p ys, v = .ref p ∧ (∀ H', Same F H' → Sq t K H' p ys) ∧ DpAll K F ys ds := by
  cases d with
  | list es =>
    cases e
    cases h with
    | lst hs ha => exact ⟨false, _, _, rfl, fun H' q => q.seq hs, ha⟩
  | tuple es =>
    cases e
    cases h with
    | tup hs ha => exact ⟨true, _, _, rfl, fun H' q => Same.tupS q hs, ha⟩
  | _ => cases e
theorem di_zipU {a b : Expr} {p pos tp : Pos} {es : List Expr} {kk : Nat} {f : Fa} (hg : Gl X "zip") (hm : X.mg "zip" = none) (ha : DA X [a, b] f)
    (hs : starEach [a, b] X.env = (false, eval a X.env) :: starEach [b] X.env := by rfl) (hpl : (backTo pos (starEach [b] X.env)).any (·.1) = false := by rfl) :
    DI X (.Tuple es kk tp) (.Call (.Name "zip" p) [a, b] [] pos) (iZipU f) := piMono (pi_zipX hg hm ha hs hpl) fun s H R ⟨F, g, ds, g', r, e, k⟩ => by
  unfold iZipU at e
  split at e
  · rename_i d1 d2 g1 q
    cases q1 : seqD d1 with
    | none => rw [q1] at e; cases e
    | some xs =>
      rw [q1] at e
      have e : (seqD d2).map _ = some (ds, g') := e
      cases q2 : seqD d2 with
      | none => rw [q2] at e; cases e
      | some ys =>
        rw [q2] at e; cases e
        refine ⟨F, g, _, _, r, q, fun vs F1 H1 p1 r1 t1 m1 => ?_⟩
        obtain ⟨v, w, rfl, h1, h2⟩ := dpTwo p1
        obtain ⟨ta, pa, us, rfl, sa, da⟩ := sqOf h1 r1.fh q1
        obtain ⟨tb, pb, ws, rfl, sb, db⟩ := sqOf h2 r1.fh q2
        exact ⟨ta, tb, pa, pb, us, ws, rfl, sa _ r1.fh, sb _ r1.fh, k _ F1 H1 r1 t1 m1 (itdZip rfl da db (fun H q => ⟨sa H q, sb H q⟩) (walkX rfl))⟩
  · cases e
end Dl
set_option Elab.async false
set_option linter.all false
set_option maxRecDepth 100000
namespace Dl
open PySem PySem.Spec PyProof.Rows L2

/-! ### several new cells told by what is true of each -/
def layE (H : Hp) : List (Addr × (Heap → Prop)) → Hp
  | [] => H
  | (a, φ) :: r => upd (layE H r) a (.ext φ)
theorem layE_cases (H : Hp) : ∀ (cs : List (Addr × (Heap → Prop))) (b : Addr), ((∀ p ∈ cs, p.1 ≠ b) ∧ layE H cs b = H b) ∨ ∃ φ, (b, φ) ∈ cs ∧ layE H cs b = some (.ext φ)
  | [], b => .inl ⟨fun p hp => (by cases hp), rfl⟩
  | (a, φ) :: r, b => by
    by_cases e : b = a
    · subst e
      exact .inr ⟨φ, List.mem_cons_self .., by rw [layE, upd_same]⟩
    · rw [layE, upd_ne e]
      rcases layE_cases H r b with ⟨h1, h2⟩ | ⟨ψ, h1, h2⟩
      · exact .inl ⟨fun p hp => by
          rcases List.mem_cons.mp hp with rfl | hp
          · exact fun z => e z.symm
          · exact h1 p hp, h2⟩
      · exact .inr ⟨ψ, List.mem_cons_of_mem _ h1, h2⟩
section
variable {X : Cx} {pins : List (Addr × Obj)} {σ : L2.St} {H : Hp} {s : Shared}
theorem inv_laids {h' : Heap} {t' : Nat} {cs : List (Addr × (Heap → Prop))} (I : Inv X pins σ H s) (k : ∀ b u, s.heap.get? b = some u → h'.get? b = some u) (hp : ∀ p ∈ cs, s.heap.objs.size ≤ p.1)
    (ok : ∀ p ∈ cs, p.2 h' ∧ (∃ o, h'.get? p.1 = some o) ∧ ∀ h1 h2 : Heap, p.2 h1 → (∀ o, h1.get? p.1 = some o → h2.get? p.1 = some o) → p.2 h2) : Inv X pins σ (layE H cs) { s with heap := h', toks := t' } := by
  have old : ∀ b o, H b = some o → layE H cs b = some o := fun b o e => by
    rcases layE_cases H cs b with ⟨_, h2⟩ | ⟨φ, h1, _⟩
    · rw [h2, e]
    · have := I.hok.fresh (hp _ h1)
      rw [this] at e; cases e
  refine I.un ⟨fun b u q _ _ _ => k b u q, fun b u q _ _ _ => ⟨u.slots, k b u q⟩, fun b u q n _ => ?_, fun b u q _ => ⟨u, k b u q⟩, fun b xs q => old _ _ q, fun b u xs q => old _ _ q, fun b ps q => ⟨#[], by rw [old _ _ q]; simp⟩⟩ fun b u e => ?_
  · rcases layE_cases H cs b with ⟨_, h2⟩ | ⟨φ, h1, _⟩
    · rw [h2, n]
    · exact absurd (Nat.lt_of_lt_of_le (Heap.lt_size q) (hp _ h1)) (Nat.lt_irrefl _)
  · rcases layE_cases H cs b with ⟨_, h2⟩ | ⟨φ, h1, h2⟩
    · rw [h2] at e
      exact (I.hok b u e).stay (fun c v _ q => k c v q) (fun c q => old _ _ q) fun c xs q => old _ _ q
    · rw [h2] at e
      cases e
      exact ok _ h1
theorem inv_drops {cs : List (Addr × (Heap → Prop))} : ∀ {H : Hp}, (cs.map (·.1)).Nodup → (∀ p ∈ cs, H p.1 = none) → Inv X pins σ (layE H cs) s → Inv X pins σ H s := by
  induction cs with
  | nil => exact fun _ _ I => I
  | cons p r ih =>
    obtain ⟨a, φ⟩ := p
    intro H nd hn I
    rw [List.map_cons, List.nodup_cons] at nd
    have na : layE H r a = none := by
      rcases layE_cases H r a with ⟨_, h2⟩ | ⟨ψ, h1, _⟩
      · rw [h2]; exact hn _ (List.mem_cons_self ..)
      · exact absurd (List.mem_map.mpr ⟨_, h1, rfl⟩) nd.1
    have I2 := ItX.inv_drop (a := a) (φ := φ) I (by rw [layE, upd_same])
    have e : ItX.dropH (layE H ((a, φ) :: r)) a = layE H r := ItX.dropH_upd na
    rw [e] at I2
    exact ih nd.2 (fun p hp => hn p (List.mem_cons_of_mem _ hp)) I2
theorem fp_drops {cs : List (Addr × (Heap → Prop))} (I : Inv X pins σ (layE H cs) s) (hs : ∀ p ∈ cs, X.s_0.heap.objs.size ≤ p.1) (hn : ∀ p ∈ cs, H p.1 = none) : ∀ p ∈ cs, FpOk X pins H p.1 := fun p hp => by
  have : ∃ u, layE H cs p.1 = some u := by
    rcases layE_cases H cs p.1 with ⟨h1, _⟩ | ⟨φ, _, h2⟩
    · exact absurd rfl (h1 p hp)
    · exact ⟨_, h2⟩
  obtain ⟨u, hu⟩ := this
  obtain ⟨f0, f1, f2, f3, f4, f5⟩ := ItX.inv_fp I hu (hs p hp)
  exact ⟨hn p hp, f1, f2, f3, f4, f5⟩
end

/-! ### a zip kept in a name -/
abbrev zipCells (t1 t2 : Bool) (a b N : Addr) : List (Addr × (Heap → Prop)) :=
  [(N + 4, fun h => IsZip h (N + 4) (N + 2) (N + 3) .none), (N + 2, fun h => IsTupOf2 h (N + 2) (.ref N) (.ref (N + 1))), (N + 3, fun h => IsTupOf2 h (N + 3) .none .none), (N, fun h => IterAt t1 h N a 0), (N + 1, fun h => IterAt t2 h (N + 1) b 0)]
def tZipO (K : PySem.W.Frag) (n : Nat) (ta : TA) : TE := fun σ H Q => ta σ H fun vs H1 => ∃ (t1 t2 : Bool) (a b : Addr) (xs ys : List V), vs = [.ref a, .ref b] ∧ Sq t1 K H1 a xs ∧ Sq t2 K H1 b ys ∧
  ∀ N : Addr, n ≤ N → a < N → b < N → (∀ c, N ≤ c → H1 c = none) → Q (.ref (N + 4)) (layE H1 (zipCells t1 t2 a b N))
theorem pe_zipO {X : Cx} {e e2 : Expr} {ta : TA} {p pos : Pos} (hg : Gl X "zip") (hm : X.mg "zip" = none) (ha : PA X [e, e2] ta)
    (hs : starEach [e, e2] X.env = (false, eval e X.env) :: starEach [e2] X.env := by rfl) (hpl : (backTo pos (starEach [e2] X.env)).any (·.1) = false := by rfl) :
    PE X (.Call (.Name "zip" p) [e, e2] [] pos) (tZipO X.K X.s_0.heap.objs.size ta) := by
  refine ⟨fun pins s σ H Q I h => ?_⟩
  refine Call_ (ld_blt I hg hm PyProof.Rows.boot_zip (PyProof.Rows.callWith_type1 (thn (ha.run pos pins s σ H _ I h) fun us s1 ⟨vs, H1, I1, r1, q1⟩ => ?_) hs hpl))
  obtain ⟨t1, t2, a, b, xs, ys, ex, hqx, hqy, q⟩ := q1
  subst ex
  cases r1 with
  | cons r rr =>
    cases rr with
    | cons r' rr =>
      cases rr
      cases r
      cases r'
      obtain ⟨its, rv, p1, la⟩ := invSq I1 hqx
      obtain ⟨its2, rv2, p2, lb⟩ := invSq I1 hqy
      refine zip_begins2 (beginsX t1 a its.toArray) (beginsX t2 b its2.toArray) p1 p2 fun h' hz hTI hTO h1 h2 hsz hk => ?_
      refine ⟨.ref (s1.heap.objs.size + 4), _, inv_laids (t' := s1.toks) (cs := zipCells t1 t2 a b s1.heap.objs.size) I1 hk (fun p hp => ?_) (fun p hp => ?_), rfl, q _ I1.sz la lb fun c hc => I1.hok.fresh hc⟩
      · simp only [List.mem_cons, List.not_mem_nil, or_false] at hp
        rcases hp with rfl | rfl | rfl | rfl | rfl
        · exact Nat.le_add_right _ _
        · exact Nat.le_add_right _ _
        · exact Nat.le_add_right _ _
        · exact Nat.le_refl _
        · exact Nat.le_add_right _ _
      · simp only [List.mem_cons, List.not_mem_nil, or_false] at hp
        rcases hp with rfl | rfl | rfl | rfl | rfl
        · exact ⟨hz, ⟨_, hz⟩, fun g1 g2 x y => y _ x⟩
        · exact ⟨hTI, ⟨_, hTI⟩, fun g1 g2 x y => y _ x⟩
        · exact ⟨hTO, ⟨_, hTO⟩, fun g1 g2 x y => y _ x⟩
        · exact ⟨IterAt.new h1, ⟨_, h1⟩, fun g1 g2 x y => x.at y⟩
        · exact ⟨IterAt.new h2, ⟨_, h2⟩, fun g1 g2 x y => x.at y⟩
def iZipVar (K : PySem.W.Frag) (n k : Nat) : TI := fun σ H R => ∃ (t1 t2 : Bool) (a b N : Addr) (H0 : Hp), σ[k]? = some (some (.ref (N + 4))) ∧ H = layE H0 (zipCells t1 t2 a b N) ∧ n ≤ N ∧ a < N ∧ b < N ∧ (∀ c, N ≤ c → H0 c = none) ∧ R (ItX K t1 t2 a b) H0
theorem pi_zipVar {X : Cx} {elts : List Expr} {kk k : Nat} {tpos : Pos} {x : Str} {p : Pos} (hN : X.N[k]? = some x) (hv : Vis X.env.scope x) (hd : (x == ("__debug__" : Str)) = false := by decide) (hcd : (x == ("__classdict__" : Str)) = false := by decide) :
    PI X (.Tuple elts kk tpos) (.Name x p) (iZipVar X.K X.s_0.heap.objs.size k) := by
  refine ⟨fun pins s σ H R I h => ?_⟩
  obtain ⟨t1, t2, a, b, N, H0, hs, eH, hn, la, lb, fr, q⟩ := h
  subst eH
  refine thn ((pe_var (pos := p) (i := k) hN hv hd hcd).run pins s σ _ (fun v H1 => v = .ref (N + 4) ∧ H1 = layE H0 (zipCells t1 t2 a b N)) I ⟨.ref (N + 4), hs, rfl, rfl⟩) fun u s1 ⟨v, H1, I1, r1, ev, eH⟩ => ?_
  subst ev
  rw [eH] at I1
  cases r1
  have at' : ∀ p ∈ zipCells t1 t2 a b N, p.2 s1.heap := fun p hp => by
    rcases layE_cases H0 (zipCells t1 t2 a b N) p.1 with ⟨h1, _⟩ | ⟨φ, h1, h2⟩
    · exact absurd rfl (h1 p hp)
    · have e : φ = p.2 := by
        simp only [List.mem_cons, List.not_mem_nil, or_false] at hp h1
        rcases hp with rfl | rfl | rfl | rfl | rfl <;> rcases h1 with h1 | h1 | h1 | h1 | h1 <;> first
          | exact (Prod.mk.inj h1).2
          | (exfalso; have := (Prod.mk.inj h1).1; simp only at this; revert this; show ¬ ((_ : Nat) = _); omega)
      have := (I1.hok _ _ h2)
      obtain ⟨w, _⟩ := this
      rw [e] at w
      exact w
  have nd : ((zipCells t1 t2 a b N).map (·.1)).Nodup := by
    simp only [List.map_cons, List.map_nil, List.nodup_cons, List.mem_cons, List.not_mem_nil, or_false, not_or, not_false_eq_true, List.nodup_nil, and_true]
    refine ⟨⟨?_, ?_, ?_, ?_⟩, ⟨?_, ?_, ?_⟩, ⟨?_, ?_⟩, ?_⟩ <;> (show ¬ ((_ : Nat) = _); omega)
  have hz := at' _ (List.mem_cons_self ..)
  have hTI := at' _ (List.mem_cons_of_mem _ (List.mem_cons_self ..))
  have hTO := at' _ (List.mem_cons_of_mem _ (List.mem_cons_of_mem _ (List.mem_cons_self ..)))
  have h1 := at' _ (List.mem_cons_of_mem _ (List.mem_cons_of_mem _ (List.mem_cons_of_mem _ (List.mem_cons_self ..))))
  have h2 := at' _ (List.mem_cons_of_mem _ (List.mem_cons_of_mem _ (List.mem_cons_of_mem _ (List.mem_cons_of_mem _ (List.mem_cons_self ..)))))
  have hge : ∀ p ∈ zipCells t1 t2 a b N, N ≤ p.1 := fun p hp => by
    simp only [List.mem_cons, List.not_mem_nil, or_false] at hp
    rcases hp with rfl | rfl | rfl | rfl | rfl
    · exact Nat.le_add_right _ _
    · exact Nat.le_add_right _ _
    · exact Nat.le_add_right _ _
    · exact Nat.le_refl _
    · exact Nat.le_add_right _ _
  have I2 := inv_drops (H := H0) nd (fun p hp => fr _ (hge p hp)) I1
  have fp := fp_drops I1 (fun p hp => Nat.le_trans hn (hge p hp)) (fun p hp => fr _ (hge p hp))
  refine wpAny_pyIter_zip hz ?_
  refine ⟨N + 4, [N + 4, N + 2, N + 3, N, N + 1], _, _, H0, rfl, I2, turnX (t1 := t1) (t2 := t2) (zip_sep2 (N := N) (fp1 := [a]) (fp2 := [b]) (by simpa using la) (by simpa using lb)) (Nat.ne_of_lt la) (Nat.ne_of_lt (Nat.lt_succ_of_lt lb)), ⟨hz, hTI, ⟨_, _, hTO⟩, h1, h2⟩, fun c hc => ?_, q⟩
  simp only [List.mem_cons, List.not_mem_nil, or_false] at hc
  rcases hc with rfl | rfl | rfl | rfl | rfl
  · exact fp _ (List.mem_cons_self ..)
  · exact fp _ (List.mem_cons_of_mem _ (List.mem_cons_self ..))
  · exact fp _ (List.mem_cons_of_mem _ (List.mem_cons_of_mem _ (List.mem_cons_self ..)))
  · exact fp _ (List.mem_cons_of_mem _ (List.mem_cons_of_mem _ (List.mem_cons_of_mem _ (List.mem_cons_self ..))))
  · exact fp _ (List.mem_cons_of_mem _ (List.mem_cons_of_mem _ (List.mem_cons_of_mem _ (List.mem_cons_of_mem _ (List.mem_cons_self ..)))))
end Dl
set_option Elab.async false
set_option linter.all false
set_option maxRecDepth 100000
namespace Dl
open PySem PySem.Spec PyProof.Rows L2

/-! ### x = zip(a, b), then return f([.. for .. in x]) -/
def sZr (i : Nat) (fz : Fa) (op : D → Option D) (t : Fg) (c : Ft) (f : Fe) (vs : List Nat) : Fs := fun g => (fz g).bind fun p => match p.2[i]? with
  | some .no => sRet (vE (eUn op (eV (vLc (fun _ => some (p.1, p.2)) t c f vs)))) p.2
  | _ => none
theorem noSet {g : G} {i : Nat} (h : g[i]? = some .no) : g.set i .no = g := by
  obtain ⟨hi, e⟩ := List.getElem?_eq_some_iff.mp h
  rw [← e, List.set_getElem_self]
section
variable {X : Cx}
theorem zr_core {K : PySem.W.Frag} {r : List V → Hp → VK → Prop} {op : D → Option D} (ok : C1Ok K r op) {wi : TI} {t : Fg} {ws : List Nat} {c : Ft} {f : Fe} {vs : List Nat} (hw : ∀ i ∈ ws, i ∈ vs) {s : Sg} {F H : Hp} {g : G} {ds : List D} {o : Out} {D0 : Ends}
    (hwi : ∀ R : It → Hp → Prop, (∀ J F' H', Rep K F' g s H' → Stp (OwnAt g s) F H F' H' → Mo g g → Itd K F' J ds → R J H') → wi s H R) (rp : Rep K F g s H)
    (e : sRet (vE (eUn op (eV (vLc (fun _ => some (ds, g)) t c f vs)))) g = some o) (k : endS K F g s H D0 o) : tRet (tCB r (tCons (tLc wi (tG K t ws) (tT K c) (tD K f) vs) tNil)) D0 s H := by
  cases q : vLc (fun _ => some (ds, g)) t c f vs g with
  | none =>
    unfold sRet vE eUn eV at e
    rw [q] at e; cases e
  | some p =>
    obtain ⟨x, g'⟩ := p
    have hx : ∃ es, x = .own none es := by
      unfold vLc at q
      simp only [Option.bind_some] at q
      split at q
      · cases q2 : lcGo t c f vs ds (wipeG g vs) with
        | none => rw [q2] at q; cases q
        | some p2 =>
          rw [q2] at q
          simp only [Option.bind_some] at q
          split at q
          · cases q; exact ⟨_, rfl⟩
          · cases q
      · cases q
    obtain ⟨es, rfl⟩ := hx
    have e2 : (op (.list es)).bind (fun d => some (Out.ret (.v d) g')) = some o := by
      unfold sRet vE eUn eV at e
      rw [q] at e
      cases q3 : op (.list es) with
      | none => simp [dat, q3] at e
      | some d => simpa [dat, q3] using e
    cases q3 : op (.list es) with
    | none => rw [q3] at e2; cases e2
    | some d =>
      rw [q3] at e2
      cases e2
      show tLc wi (tG K t ws) (tT K c) (tD K f) vs s H fun x H1 => r [x] H1 D0.rt
      refine tLc_ofX hw hwi rp q fun v F1 H1 hv hn r1 t1 m1 => ?_
      obtain ⟨a, xs, ea, fa, ha, hp, _⟩ := hv
      cases ea
      refine ok (.ref a) (.list es) d F1 H1 _ r1.fh (.inr ⟨es, a, xs, rfl, rfl, ha, hp⟩) q3 fun v F2 H2 p2 fh t2 => ?_
      exact k v F2 s H2 ⟨v, rfl, p2⟩ (fun z => nomatch z) (fun _ _ z => nomatch z) (Tr.of (r1.stepN t2 fh) (t1.andN t2) m1)
/-- the two rows, f a type (tuple) -/
theorem dss_zipRetT (i : Nat) {x y : Str} {id : String} {px pz p1 p2 pt p3 rpos lpos spos : Pos} {a b elt : Expr} {elts : List Expr} {kk : Nat} {tp : Pos} {ifs : List Expr} {scope : Scope} (own : List (Str × Nat)) {r : List V → Hp → VK → Prop} {op : D → Option D} {fA : Fa} {t : Fg} {ws : List Nat} {c : Ft} {f : Fe}
    (hcr : CallR X (.type id) r) (ok1 : C1Ok X.K r op) (hgy : Gl X y) (hmy : X.mg y = none) (hvy : bootBuiltins y = some (.type id)) (hc : X.calm = true) (hN : X.N.Nodup) (hg0 : Gl X "zip") (hm0 : X.mg "zip" = none) (ha : DA X [a, b] fA) (ok : blkC X.N X.env.scope scope own = true)
    (hg : ∀ st H C cl fp, DG (Blk X scope st H C cl fp) (.Tuple elts kk tp) t ws) (ht : ∀ st H C cl fp, DCs (Blk X scope st H C cl fp) ifs c) (he : ∀ st H C cl fp, DE (Blk X scope st H C cl fp) elt f) (hi : X.N[i]? = some x := by rfl) (hx : Loc X.env.scope x := by first | exact Or.inl rfl | exact Or.inr rfl)
    (hv : Vis X.env.scope x := by first | exact Or.inl rfl | exact Or.inr (Or.inl rfl) | exact Or.inr (Or.inr rfl)) (hf : X.fn x = true ∨ X.env.scope.names.lookup x = some .local := by first | exact .inl rfl | exact .inr rfl | assumption) (hd : (x == ("__debug__" : Str)) = false := by decide) (hcd : (x == ("__classdict__" : Str)) = false := by decide)
    (hw : ∀ i ∈ ws, i ∈ own.map (·.2) := by decide) (hfs : ∀ z, foldedSetIterable (.Name x px) X.env z = pure z := by intro _; rfl) (hsw : swapsWith (.Call (.Name "zip" pz) [a, b] [] p1) (some (.Name x p2)) spos.line X.env = pure false := by rfl)
    (hs : starEach [a, b] X.env = (false, eval a X.env) :: starEach [b] X.env := by rfl) (hpl : (backTo p1 (starEach [b] X.env)).any (·.1) = false := by rfl) (hny : y ≠ "__name__" := by decide) (hdy : (y == ("__debug__" : Str)) = false := by decide)
    (hs2 : starEach [.ListComp elt [⟨.Tuple elts kk tp, .Name x px, ifs, 0⟩] scope lpos] X.env = (false, eval (.ListComp elt [⟨.Tuple elts kk tp, .Name x px, ifs, 0⟩] scope lpos) X.env) :: starEach [] X.env := by rfl) (hpl2 : (backTo p3 (starEach [] X.env)).any (·.1) = false := by rfl) :
    DSs X [.Assign [.Name x p2] (.Call (.Name "zip" pz) [a, b] [] p1) spos, .Return (some (.Call (.Name y pt) [.ListComp elt [⟨.Tuple elts kk tp, .Name x px, ifs, 0⟩] scope lpos] [] p3)) rpos] (sZr i (iZipU fA) op t c f (own.map (·.2))) :=
  pssMono (pss_cons (ps_set hN hi hx (pe_zipO hg0 hm0 ha hs hpl) hsw hf) (pss_one (ps_ret (pe_callTy hcr hgy hmy hvy (pa_cons (pe_lc (g := tG X.K t ws) (tt := tT X.K c) (te := tD X.K f) hc hN (pi_zipVar hi hv hd hcd) (blkOk_by ok) hg ht he hfs) pa_nil hs2) hny hdy hs2 hpl2)))) fun D0 s H ⟨F, g, o, rp, e, k⟩ => by
    unfold sZr at e
    cases q : iZipU fA g with
    | none => rw [q] at e; cases e
    | some p =>
      obtain ⟨ds, g1⟩ := p
      rw [q] at e
      simp only [Option.bind_some] at e
      split at e
      · rename_i hno
        unfold iZipU at q
        split at q
        · rename_i d1 d2 g2 qa
          cases q1 : seqD d1 with
          | none => rw [q1] at q; cases q
          | some xs =>
            rw [q1] at q
            have q : (seqD d2).map _ = some (ds, g1) := q
            cases q2 : seqD d2 with
            | none => rw [q2] at q; cases q
            | some ys =>
              rw [q2] at q; cases q
              refine ⟨F, g, _, _, rp, qa, fun vs F1 H1 p1 r1 t1 m1 => ?_⟩
              obtain ⟨v, w, rfl, h1, h2⟩ := dpTwo p1
              obtain ⟨ta, pa, us, rfl, sa, da⟩ := sqOf h1 r1.fh q1
              obtain ⟨tb, pb, ws', rfl, sb, db⟩ := sqOf h2 r1.fh q2
              refine ⟨ta, tb, pa, pb, us, ws', rfl, sa _ r1.fh, sb _ r1.fh, fun N hn la lb fr => ?_⟩
              have hlen : i < s.length := by
                rw [← r1.len]
                exact (List.getElem?_eq_some_iff.mp hno).1
              have rep2 : Rep X.K F1 g1 (s.set i (some (.ref (N + 4)))) H1 := by
                have := r1.put i .no (some (.ref (N + 4))) trivial (fun _ _ _ z => nomatch z)
                rwa [noSet hno] at this
              have tr2 : Tr X.K F g s H F1 g1 (s.set i (some (.ref (N + 4)))) H1 := (Tr.of r1 t1 m1).trans ⟨rep2, Stp.refl, fun b hb => by
                have hb : OwnAt (g1.set i .no) (s.set i (some (.ref (N + 4)))) b := by rw [noSet hno]; exact hb
                rcases ownIn hb r1.len with z | ⟨_, _, z, _⟩
                · exact .inl z
                · cases z⟩
              have hz := zr_core (wi := fun _ H' R => R (ItX X.K ta tb pa pb) H') (F := F1) (H := H1) (g := g1) (s := s.set i (some (.ref (N + 4)))) ok1 hw (fun R hR => hR _ F1 H1 rep2 Stp.refl Mo.refl (itdZip rfl da db (fun H q => ⟨sa H q, sb H q⟩) (walkX rfl))) rep2 e (k.back tr2)
              exact ⟨ta, tb, pa, pb, N, H1, List.getElem?_set_self hlen, rfl, hn, la, lb, fr, hz⟩
        · cases q
      · cases e
end
end Dl
set_option Elab.async false
set_option linter.all false
set_option maxRecDepth 100000
namespace Dl
open PySem PySem.Spec PyProof.Rows L2
variable {X : Cx}

/-! ### list(range(a)), tuple(range(a)) -/
def rg1 : D → Option (List D)
  | .int j => if -(2 ^ 62) ≤ j ∧ j ≤ 1000000 then some (rangeL 0 j.toNat) else none
  | _ => none
theorem rgV_dp {K : PySem.W.Frag} {F : Hp} {j : Int} : DpAll K F (rgV 0 j) (rangeL 0 j.toNat) := by
  unfold rgV rangeL
  rw [Int.sub_zero]
  have : ∀ l : List Nat, DpAll K F (l.map fun (i : Nat) => V.int (0 + (i : Nat))) (l.map fun (i : Nat) => PyData.int (0 + (i : Nat))) := fun l => by
    induction l with
    | nil => exact .nil
    | cons a r ih => exact .cons (.int _) ih
  exact this _
theorem rg1_inv {d : D} {ds : List D} (h : rg1 d = some ds) : ∃ j, d = .int j ∧ RgOk 0 j ∧ ds = rangeL 0 j.toNat := by
  unfold rg1 at h
  split at h
  · rename_i j
    split at h
    · rename_i hj
      cases h
      refine ⟨j, rfl, ⟨by omega, by omega, hj.1, by omega, by omega⟩, rfl⟩
    · cases h
  · cases h
theorem dv_listRg {a : Expr} {f : Fe} {p pr pos pos2 : Pos} (hc : X.calm = true) (hg : Gl X "list") (hm : X.mg "list" = none) (hg2 : Gl X "range") (hm2 : X.mg "range" = none) (ha : DE X a f) (na : starEach [a] X.env = (false, eval a X.env) :: starEach [] X.env := by rfl)
    (na2 : starEach [.Call (.Name "range" pr) [a] [] pos2] X.env = (false, eval (.Call (.Name "range" pr) [a] [] pos2) X.env) :: starEach [] X.env := by rfl) : DV X (.Call (.Name "list" p) [.Call (.Name "range" pr) [a] [] pos2] [] pos) (v1 rg1 f) :=
  peMono (pe_listRg hc hg hm (prg_1 hg2 hm2 ha na) na2) fun s H Q ⟨F, g, x, g', rp, e, k⟩ => by
    unfold v1 at e
    cases q : f g with
    | none => rw [q] at e; cases e
    | some pp =>
      obtain ⟨d1, g1⟩ := pp
      rw [q] at e
      have e : (rg1 d1).map _ = some (x, g') := e
      cases q2 : rg1 d1 with
      | none => rw [q2] at e; cases e
      | some ds =>
        rw [q2] at e; cases e
        obtain ⟨j, rfl, hj, rfl⟩ := rg1_inv q2
        exact ⟨F, g, _, _, rp, q, fun v F1 H1 p1 r1 t1 m1 => ⟨j, intOf p1, hj, newLst r1 rgV_dp t1 m1 k⟩⟩
theorem de_tupRg {a : Expr} {f : Fe} {p pr pos pos2 : Pos} (hc : X.calm = true) (hg : Gl X "tuple") (hm : X.mg "tuple" = none) (hg2 : Gl X "range") (hm2 : X.mg "range" = none) (ha : DE X a f) (na : starEach [a] X.env = (false, eval a X.env) :: starEach [] X.env := by rfl)
    (na2 : starEach [.Call (.Name "range" pr) [a] [] pos2] X.env = (false, eval (.Call (.Name "range" pr) [a] [] pos2) X.env) :: starEach [] X.env := by rfl) : DE X (.Call (.Name "tuple" p) [.Call (.Name "range" pr) [a] [] pos2] [] pos) (eUn (fun d => (rg1 d).map .tuple) f) :=
  peMono (pe_tupRg hc hg hm (prg_1 hg2 hm2 ha na) na2) fun s H Q ⟨F, g, d, g', rp, e, k⟩ => by
    obtain ⟨d1, e1, e2⟩ := eUn_inv e
    cases q2 : rg1 d1 with
    | none => rw [q2] at e2; cases e2
    | some ds =>
      rw [q2] at e2; cases e2
      obtain ⟨j, rfl, hj, rfl⟩ := rg1_inv q2
      refine ⟨F, g, _, _, rp, e1, fun v F1 H1 p1 r1 t1 m1 => ⟨j, intOf p1, hj, ?_⟩⟩
      exact newTup r1.fh rgV_dp fun v F' H' hv fh st => k v F' H' hv (r1.stepN st fh) (t1.andN st) m1

/-! ### min, max of two ints -/
def eInt2 (op : Int → Int → Int) (f : Fa) : Fe := fun g => match f g with
  | some ([.int i, .int j], g') => some (.int (op i j), g')
  | _ => none
def min2 (i j : Int) : Int := if j < i then j else i
def max2 (i j : Int) : Int := if j > i then j else i
theorem de_min2 {a b : Expr} {f : Fa} {p pos : Pos} (hc : X.calm = true) (hg : Gl X "min") (hm : X.mg "min" = none) (ha : DA X [a, b] f) (he : starEach [a, b] X.env = (false, eval a X.env) :: starEach [b] X.env := by rfl) (hpl : (backTo pos (starEach [b] X.env)).any (·.1) = false := by rfl) :
    DE X (.Call (.Name "min" p) [a, b] [] pos) (eInt2 min2 f) := peMono (pe_callB (call_min2 hc) hg hm (by decide +kernel) ha (by decide) (by decide) he hpl) fun s H Q ⟨F, g, d, g', rp, e, k⟩ => by
  unfold eInt2 at e
  split at e
  · rename_i i j g1 q
    cases e
    exact ⟨F, g, _, _, rp, q, fun vs F1 H1 p1 r1 t1 m1 => ⟨i, j, dp2 p1, k _ F1 H1 (.int _) r1 t1 m1⟩⟩
  · cases e
theorem de_max2 {a b : Expr} {f : Fa} {p pos : Pos} (hc : X.calm = true) (hg : Gl X "max") (hm : X.mg "max" = none) (ha : DA X [a, b] f) (he : starEach [a, b] X.env = (false, eval a X.env) :: starEach [b] X.env := by rfl) (hpl : (backTo pos (starEach [b] X.env)).any (·.1) = false := by rfl) :
    DE X (.Call (.Name "max" p) [a, b] [] pos) (eInt2 max2 f) := peMono (pe_callB (call_max2 hc) hg hm (by decide +kernel) ha (by decide) (by decide) he hpl) fun s H Q ⟨F, g, d, g', rp, e, k⟩ => by
  unfold eInt2 at e
  split at e
  · rename_i i j g1 q
    cases e
    exact ⟨F, g, _, _, rp, q, fun vs F1 H1 p1 r1 t1 m1 => ⟨i, j, dp2 p1, k _ F1 H1 (.int _) r1 t1 m1⟩⟩
  · cases e

/-! ### l.extend(a new list) -/
def eExt (i : Nat) (f : Fv) : Fe := fun g => (ownD g[i]?).bind fun _ => (f g).bind fun q => match q.2[i]?, q.1 with
  | some (.own t ds), .own none es => if ds.length + es.length ≤ 1000000 then some (.none, q.2.set i (.own t (ds ++ es))) else none
  | _, _ => none
theorem de_ext (i : Nat) {x : Str} {a : Expr} {f : Fv} {pos p1 p2 : Pos} (he : DV X a f) (hN : X.N[i]? = some x := by rfl) (hv : Vis X.env.scope x := by first | exact Or.inl rfl | exact Or.inr (Or.inl rfl) | exact Or.inr (Or.inr rfl)) (hd : (x == ("__debug__" : Str)) = false := by decide)
    (hcd : (x == ("__classdict__" : Str)) = false := by decide) (hbase : attributeBase (.Name x p1) "extend" X.env (eval (.Name x p1) X.env) = eval (.Name x p1) X.env := by rfl)
    (hfew : ((backTo pos (starEach [a] X.env)).all (fun x => !x.1) && (backToKw pos (keywordEach [] X.env)).all (fun x => x.1.isSome)
      && decide ([a].length + ([] : List Keyword).length + (if ([] : List Keyword).isEmpty then 0 else 1) < 30)) = true := by rfl)
    (hline : (p2.endLine == pos.line) = true := by rfl) (hs : starEach [a] X.env = (false, eval a X.env) :: starEach [] X.env := by rfl) (hplain : (backTo pos (starEach [] X.env)).any (·.1) = false := by rfl) :
    DE X (.Call (.Attribute (.Name x p1) "extend" p2) [a] [] pos) (eExt i f) :=
  peMono (pe_bm PySem.F.plainAttrs_list PySem.F.slot_list_extend PySem.F.type_list_extend mt_extend (pe_var hN hv hd hcd) (pa_cons he pa_nil hs) hbase hfew hline hs hplain) fun s H Q ⟨F, g, d, g', r0, e, k⟩ => by
    unfold eExt at e
    cases q0 : ownD g[i]? with
    | none => rw [q0] at e; cases e
    | some d0 =>
      rw [q0] at e
      have e : (f g).bind _ = some (d, g') := e
      cases q2 : f g with
      | none => rw [q2] at e; cases e
      | some p2 =>
        obtain ⟨dj, g2⟩ := p2
        rw [q2] at e
        simp only [Option.bind_some] at e
        split at e
        · rename_i tg ds es hg
          split at e
          · rename_i hl
            cases e
            have hw : ∃ w xs, s[i]? = some (some (.ref w)) ∧ H w = some (.lst xs) := by
              unfold ownD at q0
              split at q0
              · rename_i t0 ds0 hx0
                obtain ⟨o, ho, a, xs, ea, _, ha, _⟩ := r0.get hx0
                subst ea
                exact ⟨a, xs, ho, ha⟩
              · cases q0
            obtain ⟨w, xs0, hw, hxs0⟩ := hw
            refine ⟨.ref w, hw, .inl ⟨rfl, _, SqL.of hxs0⟩, F, g, _, g2, r0, q2, fun vj F2 H2 hpj _ r2 t2 m2 => ?_⟩
            obtain ⟨b, ys, eb, fb, hb, hys, _⟩ := hpj
            cases eb
            obtain ⟨o, ho, a, xs, eo, fa, hal, hps, ht⟩ := r2.get hg
            rw [hw] at ho; cases ho; cases eo
            have tr := r2.turn hg hw (dpApp hps hys)
            show rExtend _ _ _ _
            exact ⟨w, b, xs, ys, rfl, rfl, hal, hb, by rw [dpLen hps, dpLen hys]; exact Nat.le_trans hl million, k .non F2 _ .non tr.rep (t2.two m2 tr.stp) (m2.trans (moSet hg))⟩
          · cases e
        · cases e
/-! ### l.insert(i, e) -/
def eIns (i : Nat) (f : Fa) : Fe := fun g => (ownD g[i]?).bind fun _ => (f g).bind fun q => match q.2[i]?, q.1 with
  | some (.own t ds), [.int k, d] => if ds.length < 1000000 ∧ 0 ≤ k ∧ k ≤ 1000000 then some (.none, q.2.set i (.own t (ds.take k.toNat ++ [d] ++ ds.drop k.toNat))) else none
  | _, _ => none
theorem de_ins (i : Nat) {x : Str} {a b : Expr} {f : Fa} {pos p1 p2 : Pos} (he : DA X [a, b] f) (hN : X.N[i]? = some x := by rfl) (hv : Vis X.env.scope x := by first | exact Or.inl rfl | exact Or.inr (Or.inl rfl) | exact Or.inr (Or.inr rfl)) (hd : (x == ("__debug__" : Str)) = false := by decide)
    (hcd : (x == ("__classdict__" : Str)) = false := by decide) (hbase : attributeBase (.Name x p1) "insert" X.env (eval (.Name x p1) X.env) = eval (.Name x p1) X.env := by rfl)
    (hfew : ((backTo pos (starEach [a, b] X.env)).all (fun x => !x.1) && (backToKw pos (keywordEach [] X.env)).all (fun x => x.1.isSome)
      && decide ([a, b].length + ([] : List Keyword).length + (if ([] : List Keyword).isEmpty then 0 else 1) < 30)) = true := by rfl)
    (hline : (p2.endLine == pos.line) = true := by rfl) (hs : starEach [a, b] X.env = (false, eval a X.env) :: starEach [b] X.env := by rfl) (hplain : (backTo pos (starEach [b] X.env)).any (·.1) = false := by rfl) :
    DE X (.Call (.Attribute (.Name x p1) "insert" p2) [a, b] [] pos) (eIns i f) :=
  peMono (pe_bm PySem.F.plainAttrs_list PySem.F.slot_list_insert PySem.F.type_list_insert mt_insert (pe_var hN hv hd hcd) he hbase hfew hline hs hplain) fun s H Q ⟨F, g, d, g', r0, e, k⟩ => by
    unfold eIns at e
    cases q0 : ownD g[i]? with
    | none => rw [q0] at e; cases e
    | some d0 =>
      rw [q0] at e
      have e : (f g).bind _ = some (d, g') := e
      cases q2 : f g with
      | none => rw [q2] at e; cases e
      | some p2 =>
        obtain ⟨dj, g2⟩ := p2
        rw [q2] at e
        simp only [Option.bind_some] at e
        split at e
        · rename_i tg ds kk dd hg
          split at e
          · rename_i hl
            cases e
            have hw : ∃ w xs, s[i]? = some (some (.ref w)) ∧ H w = some (.lst xs) := by
              unfold ownD at q0
              split at q0
              · rename_i t0 ds0 hx0
                obtain ⟨o, ho, a, xs, ea, _, ha, _⟩ := r0.get hx0
                subst ea
                exact ⟨a, xs, ho, ha⟩
              · cases q0
            obtain ⟨w, xs0, hw, hxs0⟩ := hw
            refine ⟨.ref w, hw, .inl ⟨rfl, _, SqL.of hxs0⟩, F, g, _, g2, r0, q2, fun vs F2 H2 hps2 r2 t2 m2 => ?_⟩
            obtain ⟨v1, v2, rfl, h1, h2⟩ := dpTwo hps2
            obtain ⟨o, ho, a, xs, eo, fa, hal, hps, ht⟩ := r2.get hg
            rw [hw] at ho; cases ho; cases eo
            have tr := r2.turn hg hw (dpApp (dpApp (dpTake kk.toNat hps) (.cons h2 .nil)) (dpDrop kk.toNat hps))
            exact ⟨w, xs, kk, v2, rfl, by rw [intOf h1], hal, by rw [dpLen hps]; exact Nat.lt_of_lt_of_le hl.1 million, hl.2.1, by omega, k .non F2 _ .non tr.rep (t2.two m2 tr.stp) (m2.trans (moSet hg))⟩
          · cases e
        · cases e
end Dl
set_option Elab.async false
set_option linter.all false
set_option maxRecDepth 100000
namespace Dl
open PySem PySem.Spec PyProof.Rows L2
variable {X : Cx}

/-! ### a def that calls itself: nothing is promised at depth nought -/
theorem FnG.none {P : Program} {w : World} {K : PySem.W.Frag} {mg : Str → Option Value} {base : Heap} {k : Nat} {f : Addr} {fd : FuncData} {ps : List Str} {n : Nat} (hn : ps.length = n) : FnG P w K mg base k f fd ps (spP K n fun _ => Option.none) :=
  ⟨fun vs H Q h => by rw [hn]; exact spP_len vs H Q h, fun A outer st H args us vs Q _ _ _ _ _ h => by
    obtain ⟨F, ds, x, _, _, _, e, _⟩ := h
    cases e⟩
/-- a def as the head tells it, its place named otherwise than the def -/
structure Dk (K : PySem.W.Frag) (mg : Str → Option Value) (y x : Str) (sd : Stmt) (ps : List Str) : Type where
  f : Addr
  fd : FuncData
  F : Fun K x x sd f fd
  g : mg y = some (.ref f)
  b : L2.Binds K fd ps []
  bA : ∀ (s : Shared) (us : List Value), us.length = ps.length → BindsTo s fd ⟨us, []⟩ (ps.zip us)
def Dk.mk' {K : PySem.W.Frag} {mg : Str → Option Value} {y x : Str} {sd : Stmt} {ps : List Str} {f : Addr} (fd : {fd : FuncData // FunD K x x (defArgs sd) (defBody sd) (defScope sd) [] [] f fd}) (g : mg y = some (.ref f))
    (h : ∀ (kV doc pm : Value) (an : Option Addr) (cdv ct : Value) (us : List Value), us.length = ps.length → bindArgs (PySem.W.fnOf x x (defArgs sd) (defBody sd) (defScope sd) .none kV doc pm an cdv ct) ⟨us, []⟩ = pure (ps.zip us)) : Dk K mg y x sd ps :=
  ⟨f, fd.1, fun_of fd.2, g, fd.2.bindsN h, fun s us e => fd.2.bindsA h s us e⟩

/-! ### a, b, c = e1, e2, e3 of data -/
def sPar3 (i j l : Nat) (f : Fa) : Fs := fun g => match f g with
  | some ([x, y, z], g') => some (.nx (((g'.set i (.v x)).set j (.v y)).set l (.v z)))
  | _ => none
theorem ds_par3 (i j l : Nat) {x y z : Str} {a b c : Expr} {f : Fa} {px py pz pt pos : Pos} {kt k2 pt2} (hc : X.calm = true) (hN : X.N.Nodup) (ha : DA X [a, b, c] f) (hi : X.N[i]? = some x := by rfl) (hj : X.N[j]? = some y := by rfl) (hl : X.N[l]? = some z := by rfl)
    (hij : i ≠ j := by decide) (hil : i ≠ l := by decide) (hjl : j ≠ l := by decide)
    (hx : X.env.scope.names.lookup x = some .local := by rfl) (hy : X.env.scope.names.lookup y = some .local := by rfl) (hz : X.env.scope.names.lookup z = some .local := by rfl)
    (hw : swappedStores [.Tuple [.Name x px, .Name y py, .Name z pz] kt pt] (.Tuple [a, b, c] k2 pt2) X.env = pure (some [x, y, z]) := by rfl)
    (hs : swapsWithSole [.Tuple [.Name x px, .Name y py, .Name z pz] kt pt] (.Tuple [a, b, c] k2 pt2) pos.line X.env = pure false := by rfl) :
    DS X (.Assign [.Tuple [.Name x px, .Name y py, .Name z pz] kt pt] (.Tuple [a, b, c] k2 pt2) pos) (sPar3 i j l f) := psMono (ps_par3 hc hN hi hj hl hij hil hjl hx hy hz ha hw hs) fun D0 s H ⟨F, g, o, r, e, k⟩ => by
  unfold sPar3 at e
  split at e
  · rename_i d1 d2 d3 g1 q
    cases e
    refine ⟨F, g, _, g1, r, q, fun vs F1 H1 p1 r1 t1 m1 => ?_⟩
    cases p1 with
    | cons h1 p2 =>
      obtain ⟨v2, v3, rfl, h2, h3⟩ := dpTwo p2
      refine ⟨_, _, _, rfl, ?_⟩
      have t := Tr.of r1 t1 m1
      have a1 := t.trans (t.rep.setV i h1)
      have a2 := a1.trans (a1.rep.setV j h2)
      have a3 := a2.trans (a2.rep.setV l h3)
      exact k F1 _ H1 a3
  · cases e

/-! ### is, is not of bools -/
def isBD : D → D → Option D
  | .bool a, .bool b => some (.bool (decide (a = b)))
  | _, _ => none
def notBD : D → D → Option D
  | .bool a, .bool b => some (.bool (!decide (a = b)))
  | _, _ => none
theorem ok_isB : BinOk X.K rIsB isBD := fun x y d1 d2 d F H Q fh p1 p2 e k => by
  unfold isBD at e
  split at e
  · cases e
    cases p1; cases p2
    exact ⟨_, _, rfl, rfl, fin0 fh (.bl _) k⟩
  · cases e
theorem ok_notB : BinOk X.K rNotB notBD := fun x y d1 d2 d F H Q fh p1 p2 e k => by
  unfold notBD at e
  split at e
  · cases e
    cases p1; cases p2
    exact ⟨_, _, rfl, rfl, fin0 fh (.bl _) k⟩
  · cases e
theorem isb_isB : IsBo isBD := fun d1 d2 d e => by
  unfold isBD at e
  split at e
  · cases e; exact ⟨_, rfl⟩
  · cases e
theorem isb_notB : IsBo notBD := fun d1 d2 d e => by
  unfold notBD at e
  split at e
  · cases e; exact ⟨_, rfl⟩
  · cases e
section
variable {a b : Expr} {pos : Pos} {fa fb : Fe}
theorem de_isBl (ha : DE X a fa) (hb : DE X b fb) : DE X (.Compare a [.Is] [b] pos) (eBin isBD fa fb) := de_cmp op_isBl ok_isB (nomark _) ha hb
theorem de_notBl (ha : DE X a fa) (hb : DE X b fb) : DE X (.Compare a [.IsNot] [b] pos) (eBin notBD fa fb) := de_cmp op_notBl ok_notB (nomark _) ha hb
theorem dt_isBl (ha : DE X a fa) (hb : DE X b fb) : DT X (.Compare a [.Is] [b] pos) (tOf (eBin isBD fa fb)) := dt_cmp op_isBl ok_isB isb_isB (nomark _) ha hb
theorem dt_notBl (ha : DE X a fa) (hb : DE X b fb) : DT X (.Compare a [.IsNot] [b] pos) (tOf (eBin notBD fa fb)) := dt_cmp op_notBl ok_notB isb_notB (nomark _) ha hb
end
end Dl
set_option Elab.async false
set_option linter.all false
set_option maxRecDepth 100000
namespace Dl
open PySem PySem.Spec PyProof.Rows L2

/-! ### the next pair of a zip whose last pair is still held -/
section
variable {prog : Program} {w : World} {A : Around} {E : Value → Shared → Prop} {s : Shared} {z TI TO T i1 i2 : Addr} {fp1 fp2 : List Addr} {n1 n2 i : Nat} {P1 P2 : Nat → Value → Prop} {St1 St2 : Nat → Heap → Prop} {f : Bool} {oT : Obj}
theorem held_item {Q : Value → Shared → Prop} (S : ZipSep2 z TI TO i1 i2 fp1 fp2) (D1 : Draws prog w A i1 fp1 n1 P1 St1) (D2 : Draws prog w A i2 fp2 n2 P2 St2) (hz : IsZipHeld s.heap z TI TO T f) (hT : s.heap.get? T = some oT) (hTI : IsTupOf2 s.heap TI (.ref i1) (.ref i2))
    (st1 : St1 i s.heap) (st2 : St2 i s.heap) (l1 : i < n1) (l2 : i < n2)
    (hQ : ∀ x y h' tk, P1 i x → P2 i y → IsZipHeld h' z TI TO T true → St1 (i + 1) h' → St2 (i + 1) h' → IsTupOf2 h' s.heap.objs.size x y → h'.objs.size = s.heap.objs.size + 1 → (∀ c o, c ≠ z → c ≠ i1 → c ≠ i2 → s.heap.get? c = some o → h'.get? c = some o) → Q (.ref s.heap.objs.size) { s with heap := h', toks := tk }) :
    wpAny (model prog w) A (Builtin.«zip.__next__» ⟨[.ref z], []⟩) (fun fin s' => ∃ v, fin = .done (.ret v) ∧ Q v s') E s := by
  obtain ⟨hp, gg, dd, tk0, os⟩ := s
  show wpAny _ _ (field (.ref z) 2 >>= _) _ _ _
  refine wpAny_bind (wpAny_field hz rfl (x := .bool false) rfl ?_)
  show wpAny _ _ (field (.ref z) 3 >>= _) _ _ _
  refine wpAny_bind (wpAny_field hz rfl (x := .ref TI) rfl ?_)
  refine wpAny_bind (wpAny_seqItems hTI rfl ?_)
  show wpAny _ _ (Builtin.SmallTypes.ownedTupleIsFree (.ref z) >>= _) _ _ _
  refine wpAny_bind (wpAny_tupleHeld_zip hz hT fun ha za sa => ?_)
  replace sa : Heap.SameBut z hp ha := sa
  simp only [Bool.false_eq_true, if_false]
  refine wpAny_bind ?_
  rw [← Array.forIn_toList]
  simp only [List.forIn_cons, List.forIn_nil]
  refine wpAny_bind (wpAny_bind (wpAny_holding ?_))
  show wpAny _ _ (Builtin.SmallTypes.nextOf (.ref i1) >>= _) _ _ _
  refine wpAny_bind (D1.item i _ _ _ l1 (D1.over st1 sa S.zf1) fun x hb tkb px sb1 sb => wpAny_pure ?_)
  replace sb : Heap.SameBut i1 ha hb := sb
  refine wpAny_pure ?_
  refine wpAny_bind (wpAny_bind (wpAny_holding ?_))
  show wpAny _ _ (Builtin.SmallTypes.nextOf (.ref i2) >>= _) _ _ _
  refine wpAny_bind (D2.item i _ _ _ l2 (D2.over (D2.over st2 sa S.zf2) sb S.sep1_2) fun y hc tkc py sc2 sc => wpAny_pure ?_)
  replace sc : Heap.SameBut i2 hb hc := sc
  refine wpAny_pure (wpAny_pure ?_)
  show wpAny _ _ (newTuple [x, y] >>= _) _ _ _
  refine wpAny_bind (wpAny_newTuple ?_)
  have size : hc.objs.size = hp.objs.size := by rw [sc.1, sb.1, sa.1]
  have zc : IsZipHeld hc z TI TO T true := sc.extBut _ _ S.zi2 (sb.extBut _ _ S.zi1 za)
  have keeps : ∀ c o, c ≠ z → c ≠ i1 → c ≠ i2 → hp.get? c = some o → hc.get? c = some o := fun c o a b d e => sc.extBut _ _ d (sb.extBut _ _ b (sa.extBut _ _ a e))
  have t1 : St1 (i + 1) hc := D1.over sb1 sc S.sep2_1
  refine wpAny_pure ⟨_, rfl, ?_⟩
  show Q (.ref hc.objs.size) _
  have pr : IsTupOf2 (hc.push { cls := .type "tuple", data := .seq #[x, y] }) hc.objs.size x y := Heap.get?_push_size _ rfl
  have sz : (hc.push { cls := .type "tuple", data := .seq #[x, y] }).objs.size = hc.objs.size + 1 := Heap.size_push ..
  rw [size] at pr sz ⊢
  exact hQ x y _ _ px py (Heap.get?_push_of_some _ zc) (D1.frame _ _ _ t1 fun b _ o e => Heap.get?_push_of_some _ e) (D2.frame _ _ _ sc2 fun b _ o e => Heap.get?_push_of_some _ e) pr sz fun c o a b d e => Heap.get?_push_of_some _ (keeps c o a b d e)
theorem held_end {Q : Fin → Shared → Prop} (S : ZipSep2 z TI TO i1 i2 fp1 fp2) (D1 : Draws prog w A i1 fp1 n1 P1 St1) (D2 : Draws prog w A i2 fp2 n2 P2 St2) (hz : IsZipHeld s.heap z TI TO T f) (hT : s.heap.get? T = some oT) (hTI : IsTupOf2 s.heap TI (.ref i1) (.ref i2))
    (st1 : St1 i s.heap) (st2 : St2 i s.heap) (l1 : i ≤ n1) (l2 : i ≤ n2) (hend : i = n1 ∨ i = n2)
    (hE : ∀ h' tk e, (∀ c o, c ≠ z → c ≠ i1 → c ≠ i2 → s.heap.get? c = some o → h'.get? c = some o) → (∃ o, h'.get? e = some o ∧ o.cls = .type "StopIteration") → E (.ref e) { s with heap := h', toks := tk }) :
    wpAny (model prog w) A (Builtin.«zip.__next__» ⟨[.ref z], []⟩) Q E s := by
  obtain ⟨hp, gg, dd, tk0, os⟩ := s
  show wpAny _ _ (field (.ref z) 2 >>= _) _ _ _
  refine wpAny_bind (wpAny_field hz rfl (x := .bool false) rfl ?_)
  show wpAny _ _ (field (.ref z) 3 >>= _) _ _ _
  refine wpAny_bind (wpAny_field hz rfl (x := .ref TI) rfl ?_)
  refine wpAny_bind (wpAny_seqItems hTI rfl ?_)
  show wpAny _ _ (Builtin.SmallTypes.ownedTupleIsFree (.ref z) >>= _) _ _ _
  refine wpAny_bind (wpAny_tupleHeld_zip hz hT fun ha za sa => ?_)
  replace sa : Heap.SameBut z hp ha := sa
  simp only [Bool.false_eq_true, if_false]
  refine wpAny_bind ?_
  rw [← Array.forIn_toList]
  simp only [List.forIn_cons, List.forIn_nil]
  refine wpAny_bind (wpAny_bind (wpAny_holding ?_))
  show wpAny _ _ (Builtin.SmallTypes.nextOf (.ref i1) >>= _) _ _ _
  by_cases e1 : i = n1
  · subst e1
    refine wpAny_bind (D1.done _ _ _ (D1.over st1 sa S.zf1) fun hb e sb he => ?_)
    exact hE hb tk0 e (fun c o a b _ x => sb _ _ b (sa.extBut _ _ a x)) he
  · have e2 : i = n2 := hend.resolve_left e1
    subst e2
    refine wpAny_bind (D1.item i _ _ _ (by omega) (D1.over st1 sa S.zf1) fun x hb tkb px sb1 sb => wpAny_pure ?_)
    replace sb : Heap.SameBut i1 ha hb := sb
    refine wpAny_pure ?_
    refine wpAny_bind (wpAny_bind (wpAny_holding ?_))
    show wpAny _ _ (Builtin.SmallTypes.nextOf (.ref i2) >>= _) _ _ _
    refine wpAny_bind (D2.done _ _ _ (D2.over (D2.over st2 sa S.zf2) sb S.sep1_2) fun hc e sc he => ?_)
    exact hE hc tkb e (fun c o a b d x => sc _ _ d (sb.extBut _ _ b (sa.extBut _ _ a x))) he
theorem held_next {Q : Option Value → Shared → Prop} (S : ZipSep2 z TI TO i1 i2 fp1 fp2) (D1 : Draws prog w A.in1 i1 fp1 n1 P1 St1) (D2 : Draws prog w A.in1 i2 fp2 n2 P2 St2) (hz : IsZipHeld s.heap z TI TO T f) (hT : s.heap.get? T = some oT) (hTI : IsTupOf2 s.heap TI (.ref i1) (.ref i2))
    (st1 : St1 i s.heap) (st2 : St2 i s.heap) (l1 : i < n1) (l2 : i < n2)
    (hQ : ∀ x y h' tk, P1 i x → P2 i y → IsZipHeld h' z TI TO T true → St1 (i + 1) h' → St2 (i + 1) h' → IsTupOf2 h' s.heap.objs.size x y → h'.objs.size = s.heap.objs.size + 1 → (∀ c o, c ≠ z → c ≠ i1 → c ≠ i2 → s.heap.get? c = some o → h'.get? c = some o) → Q (some (.ref s.heap.objs.size)) { s with heap := h', toks := tk }) :
    wpAny (model prog w) A (pyNext (.ref z)) Q E s := by
  have ty : s.TypeIs (.ref z) "zip" := ⟨_, hz, rfl⟩
  unfold pyNext
  exact wpAny_bind (wpAny_attempt (wpAny_callSpecial?_slot (name := Str.ofString "__next__") ty F.slot_zip_next (wpAny_call_entry F.slot_zip_next ty F.entry_zip_next
    (held_item S D1 D2 hz hT hTI st1 st2 l1 l2 fun x y h' tk a b c d e g k m => wpAny_pure (hQ x y h' tk a b c d e g k m)) (F.args_zip_next_1 _))))
theorem held_stop {Q : Option Value → Shared → Prop} (S : ZipSep2 z TI TO i1 i2 fp1 fp2) (D1 : Draws prog w A.in1 i1 fp1 n1 P1 St1) (D2 : Draws prog w A.in1 i2 fp2 n2 P2 St2) (hz : IsZipHeld s.heap z TI TO T f) (hT : s.heap.get? T = some oT) (hTI : IsTupOf2 s.heap TI (.ref i1) (.ref i2))
    (st1 : St1 i s.heap) (st2 : St2 i s.heap) (l1 : i ≤ n1) (l2 : i ≤ n2) (hend : i = n1 ∨ i = n2)
    (hQ : ∀ h' tk, (∀ c o, c ≠ z → c ≠ i1 → c ≠ i2 → s.heap.get? c = some o → h'.get? c = some o) → Q none { s with heap := h', toks := tk }) : wpAny (model prog w) A (pyNext (.ref z)) Q E s := by
  have ty : s.TypeIs (.ref z) "zip" := ⟨_, hz, rfl⟩
  unfold pyNext
  refine wpAny_bind (wpAny_attempt (wpAny_callSpecial?_slot (name := Str.ofString "__next__") ty F.slot_zip_next (wpAny_call_entry F.slot_zip_next ty F.entry_zip_next
    (held_end S D1 D2 hz hT hTI st1 st2 l1 l2 hend fun h' tk e hk he => ?_) (F.args_zip_next_1 _))))
  obtain ⟨o, ho, hc⟩ := he
  refine wpAny_bind (wpAny_isInstance (T := "StopIteration") (b := true) ⟨o, ho, hc⟩ isSubtype_stop ?_)
  exact wpAny_pure (hQ _ _ hk)
end
end Dl
set_option Elab.async false
set_option linter.all false
set_option maxRecDepth 100000
namespace Dl
open PySem PySem.Spec PyProof.Rows L2

/-! ### list(zip(a, b)) -/
theorem zip_no_len : typeLookup (.type "zip") "__len__" = pure none := am_miss_of_fast (by decide +kernel)
theorem zip_no_hint : typeLookup (.type "zip") "__length_hint__" = pure none := am_miss_of_fast (by decide +kernel)
section
variable {prog : Program} {w : World} {A : Around} {E : Value → Shared → Prop} {s : Shared} {r : Addr} {Q : Bool → Shared → Prop}
theorem hint_zip (hT : s.TypeIs (.ref r) "zip") (h : Q true s) : wpAny (model prog w) A (Builtin.List.listLengthHint (.ref r)) Q E s := by
  unfold Builtin.List.listLengthHint
  refine wpAny_bind (wpAny_specialOf hT zip_no_len ?_)
  simp only [Option.isSome_none, Bool.false_eq_true, if_false]
  exact wpAny_bind (wpAny_specialOf hT zip_no_hint (wpAny_pure h))
end
end Dl
set_option Elab.async false
set_option linter.all false
set_option maxRecDepth 100000
namespace Dl
open PySem PySem.Spec PyProof.Rows L2

/-! ### list.extend over a zip -/
structure LZ (t1 t2 : Bool) (a b z TI TO i1 i2 S : Addr) (its1 its2 : List Value) (N0 : Nat) (h0 : Heap) (h : Heap) (i : Nat) (Ts : List Addr) : Prop where
  z0 : i = 0 → IsZip h z TI TO .none ∧ ∃ x y, IsTupOf2 h TO x y
  zh : 0 < i → ∃ T f oT, IsZipHeld h z TI TO T f ∧ h.get? T = some oT ∧ N0 ≤ T
  ti : IsTupOf2 h TI (.ref i1) (.ref i2)
  p1 : IterAt t1 h i1 a i ∧ PlAt t1 h a its1.toArray
  p2 : IterAt t2 h i2 b i ∧ PlAt t2 h b its2.toArray
  ls : ∃ c, h.get? S = some { cls := .type "list", dict := none, data := .seq (Ts.map Value.ref).toArray c, slots := #[] }
  len : Ts.length = i
  ps : ∀ (j : Nat) (T : Addr), Ts[j]? = some T → N0 ≤ T ∧ T < h.objs.size ∧ ∃ x y, its1[j]? = some x ∧ its2[j]? = some y ∧ IsTupOf2 h T x y
  nd : Ts.Nodup
  kp : ∀ q o, q ≠ S → q ≠ z → q ≠ TO → q ≠ i1 → q ≠ i2 → h0.get? q = some o → h.get? q = some o
  sz : N0 ≤ h.objs.size
theorem PlAt.at {t : Bool} {h h' : Heap} {a : Addr} {its : Array Value} (x : PlAt t h a its) (kp : ∀ o, h.get? a = some o → h'.get? a = some o) : PlAt t h' a its := by
  cases t
  · exact (show h.IsList a its from x).at kp
  · exact (show h.IsTuple a its from x).at kp
section
variable {prog : Program} {w : World} {A : Around} {E : Value → Shared → Prop} {t1 t2 : Bool} {a b z TI TO i1 i2 S : Addr} {its1 its2 : List Value} {N0 : Nat} {h0 : Heap} (SP : ZipSep2 z TI TO i1 i2 [i1, a] [i2, b]) (hai : a ≠ i1) (hbi : b ≠ i2)
  (lS : S < N0) (lz : z < N0) (lTI : TI < N0) (lTO : TO < N0) (l1 : i1 < N0) (l2 : i2 < N0) (la : a < N0) (lb : b < N0) (hSz : S ≠ z) (hST : S ≠ TI) (hSO : S ≠ TO) (hS1 : S ≠ i1) (hS2 : S ≠ i2) (hSa : S ≠ a) (hSb : S ≠ b)
include SP hai hbi lS lz lTI lTO l1 l2 la lb
theorem lz_next {s : Shared} {i : Nat} {Ts : List Addr} {Q : Option Value → Shared → Prop} (hh : A.in1.handled = none) (L : LZ t1 t2 a b z TI TO i1 i2 S its1 its2 N0 h0 s.heap i Ts) (hi : i < min its1.length its2.length)
    (hQ : ∀ x y h' tk, its1[i]? = some x → its2[i]? = some y → (∃ T f oT, IsZipHeld h' z TI TO T f ∧ h'.get? T = some oT ∧ N0 ≤ T) → IterAt t1 h' i1 a (i + 1) ∧ PlAt t1 h' a its1.toArray → IterAt t2 h' i2 b (i + 1) ∧ PlAt t2 h' b its2.toArray →
      IsTupOf2 h' s.heap.objs.size x y → h'.objs.size = s.heap.objs.size + 1 → (∀ q o, q ≠ z → q ≠ TO → q ≠ i1 → q ≠ i2 → s.heap.get? q = some o → h'.get? q = some o) → Q (some (.ref s.heap.objs.size)) { s with heap := h', toks := tk }) :
    wpAny (model prog w) A (pyNext (.ref z)) Q E s := by
  have n1 : i < its1.toArray.size := by rw [List.size_toArray]; omega
  have n2 : i < its2.toArray.size := by rw [List.size_toArray]; omega
  have far : ∀ {T : Addr}, N0 ≤ T → T ≠ z ∧ T ≠ TO ∧ T ≠ i1 ∧ T ≠ i2 := fun hT => ⟨Nat.ne_of_gt (Nat.lt_of_lt_of_le lz hT), Nat.ne_of_gt (Nat.lt_of_lt_of_le lTO hT), Nat.ne_of_gt (Nat.lt_of_lt_of_le l1 hT), Nat.ne_of_gt (Nat.lt_of_lt_of_le l2 hT)⟩
  by_cases h : i = 0
  · obtain ⟨hz, x0, y0, hTO⟩ := L.z0 h
    refine wpAny_pyNext_zipD2_item SP (drawsX hh t1 i1 a hai its1.toArray) (drawsX hh t2 i2 b hbi its2.toArray) hz L.ti hTO L.p1 L.p2 n1 n2 fun x y h' tk e1 e2 z' TO' q1 q2 hT hsz hk => ?_
    exact hQ x y h' tk (by simpa using e1) (by simpa using e2) ⟨_, false, _, z', hT, L.sz⟩ q1 q2 hT hsz hk
  · obtain ⟨T, f, oT, hz, hT, hN⟩ := L.zh (Nat.pos_of_ne_zero h)
    obtain ⟨f1, f2, f3, f4⟩ := far hN
    refine held_next SP (drawsX hh t1 i1 a hai its1.toArray) (drawsX hh t2 i2 b hbi its2.toArray) hz hT L.ti L.p1 L.p2 n1 n2 fun x y h' tk e1 e2 z' q1 q2 hT' hsz hk => ?_
    exact hQ x y h' tk (by simpa using e1) (by simpa using e2) ⟨T, true, oT, z', hk _ _ f1 f3 f4 hT, hN⟩ q1 q2 hT' hsz fun q o a1 _ a3 a4 e => hk q o a1 a3 a4 e
theorem lz_stop {s : Shared} {i : Nat} {Ts : List Addr} {Q : Option Value → Shared → Prop} (hh : A.in1.handled = none) (L : LZ t1 t2 a b z TI TO i1 i2 S its1 its2 N0 h0 s.heap i Ts) (hi : i = min its1.length its2.length)
    (hQ : ∀ h' tk, (∀ q o, q ≠ z → q ≠ TO → q ≠ i1 → q ≠ i2 → s.heap.get? q = some o → h'.get? q = some o) → Q none { s with heap := h', toks := tk }) : wpAny (model prog w) A (pyNext (.ref z)) Q E s := by
  have m1 : i ≤ its1.toArray.size := by rw [List.size_toArray]; omega
  have m2 : i ≤ its2.toArray.size := by rw [List.size_toArray]; omega
  have m3 : i = its1.toArray.size ∨ i = its2.toArray.size := by rw [List.size_toArray, List.size_toArray]; omega
  by_cases h : i = 0
  · obtain ⟨hz, x0, y0, hTO⟩ := L.z0 h
    exact wpAny_pyNext_zipD2_end SP (drawsX hh t1 i1 a hai its1.toArray) (drawsX hh t2 i2 b hbi its2.toArray) hz L.ti hTO L.p1 L.p2 m1 m2 m3 hQ
  · obtain ⟨T, f, oT, hz, hT, hN⟩ := L.zh (Nat.pos_of_ne_zero h)
    exact held_stop SP (drawsX hh t1 i1 a hai its1.toArray) (drawsX hh t2 i2 b hbi its2.toArray) hz hT L.ti L.p1 L.p2 m1 m2 m3 fun h' tk hk => hQ h' tk fun q o a1 _ a3 a4 e => hk q o a1 a3 a4 e
include hSz hST hSO hS1 hS2 hSa hSb
theorem lz_loop {R : Result → Shared → Prop} (hh : A.handled = none) (res : Value) (hn : min its1.length its2.length ≤ sizeLine) (s0 : Shared)
    (hR : ∀ (h' : Heap) (tk : Nat) (Ts : List Addr) (c : Nat), Ts.length = min its1.length its2.length → Ts.Nodup → (∀ (j : Nat) (T : Addr), Ts[j]? = some T → N0 ≤ T ∧ T < h'.objs.size ∧ ∃ x y, its1[j]? = some x ∧ its2[j]? = some y ∧ IsTupOf2 h' T x y) →
      h'.get? S = some { cls := .type "list", dict := none, data := .seq (Ts.map Value.ref).toArray c, slots := #[] } → (∀ q o, q ≠ S → q ≠ z → q ≠ TO → q ≠ i1 → q ≠ i2 → h0.get? q = some o → h'.get? q = some o) → R (.ok (.ret res)) { s0 with heap := h', toks := tk }) :
    ∀ (k i : Nat) (h : Heap) (tk : Nat) (Ts : List Addr), min its1.length its2.length - i = k → i ≤ min its1.length its2.length → LZ t1 t2 a b z TI TO i1 i2 S its1 its2 N0 h0 h i Ts →
    codeAny (model prog w) A (.builtin "list.extend.loop" ⟨[.ref S, .ref z, res], []⟩) R { s0 with heap := h, toks := tk } := by
  intro k
  induction k with
  | zero =>
    intro i h tk Ts hk hi L
    obtain ⟨c, hls⟩ := L.ls
    have hin : i = min its1.length its2.length := by omega
    refine codeAny_builtin PySem.F.entry_extend_loop ?_
    rw [Around.under_plainId PySem.F.plain_extend_loop _]
    show wpAny _ A.in1 (pyNext (.ref z) >>= _) _ _ _
    refine wpAny_bind (lz_stop SP hai hbi lS lz lTI lTO l1 l2 la lb (A := A.in1) (s := { s0 with heap := h, toks := tk }) hh L hin fun h' tk' kp => ?_)
    have far : ∀ {T : Addr}, N0 ≤ T → T ≠ z ∧ T ≠ TO ∧ T ≠ i1 ∧ T ≠ i2 := fun hT => ⟨Nat.ne_of_gt (Nat.lt_of_lt_of_le lz hT), Nat.ne_of_gt (Nat.lt_of_lt_of_le lTO hT), Nat.ne_of_gt (Nat.lt_of_lt_of_le l1 hT), Nat.ne_of_gt (Nat.lt_of_lt_of_le l2 hT)⟩
    refine wpAny_pure (hR h' tk' Ts c (by rw [L.len, hin]) L.nd (fun j T e => ?_) (kp _ _ hSz hSO hS1 hS2 hls) fun q o e1 e2 e3 e4 e5 e => kp q o e2 e3 e4 e5 (L.kp q o e1 e2 e3 e4 e5 e))
    obtain ⟨g1, g2, x, y, g3, g4, g5⟩ := L.ps j T e
    obtain ⟨f1, f2, f3, f4⟩ := far g1
    have g6 := kp _ _ f1 f2 f3 f4 g5
    exact ⟨g1, Heap.lt_size g6, x, y, g3, g4, g6⟩
  | succ k ih =>
    intro i h tk Ts hk hi L
    obtain ⟨c, hls⟩ := L.ls
    have hlt : i < min its1.length its2.length := by omega
    refine codeAny_builtin PySem.F.entry_extend_loop ?_
    rw [Around.under_plainId PySem.F.plain_extend_loop _]
    show wpAny _ A.in1 (pyNext (.ref z) >>= _) _ _ _
    refine wpAny_bind (lz_next SP hai hbi lS lz lTI lTO l1 l2 la lb (A := A.in1) (s := { s0 with heap := h, toks := tk }) hh L hlt fun x y h' tk' e1 e2 zh q1 q2 hT hsz kp => ?_)
    have hT : IsTupOf2 h' h.objs.size x y := hT
    have hsz : h'.objs.size = h.objs.size + 1 := hsz
    have kp : ∀ q o, q ≠ z → q ≠ TO → q ≠ i1 → q ≠ i2 → h.get? q = some o → h'.get? q = some o := kp
    have ls' := kp _ _ hSz hSO hS1 hS2 hls
    have far : ∀ {T : Addr}, N0 ≤ T → T ≠ z ∧ T ≠ TO ∧ T ≠ i1 ∧ T ≠ i2 ∧ T ≠ S := fun hT => ⟨Nat.ne_of_gt (Nat.lt_of_lt_of_le lz hT), Nat.ne_of_gt (Nat.lt_of_lt_of_le lTO hT), Nat.ne_of_gt (Nat.lt_of_lt_of_le l1 hT), Nat.ne_of_gt (Nat.lt_of_lt_of_le l2 hT), Nat.ne_of_gt (Nat.lt_of_lt_of_le lS hT)⟩
    show wpAny _ A.in1 (updateSeq S (·.push (.ref h.objs.size)) >>= _) _ _ _
    refine wpAny_bind ?_
    have oth : ∀ {f : Obj → Obj} {q : Addr} {o : Obj}, q ≠ S → h'.get? q = some o → (h'.update S f).get? q = some o := fun hq e => (Heap.get?_update_other _ _ (Ne.symm hq)).trans e
    refine wpAny_updateSeq ls' rfl (wpAny_pure ⟨plainId_quiet PySem.F.plain_extend_loop _, ih (i + 1) _ tk' (Ts ++ [h.objs.size]) (by omega) hlt ⟨fun z => absurd z (Nat.succ_ne_zero i), fun _ => ?_, oth (Ne.symm hST) (kp _ _ SP.TIz SP.TITO SP.TIi1 SP.TIi2 L.ti), ⟨q1.1.at fun o e => oth (Ne.symm hS1) e, q1.2.at fun o e => oth (Ne.symm hSa) e⟩, ⟨q2.1.at fun o e => oth (Ne.symm hS2) e, q2.2.at fun o e => oth (Ne.symm hSb) e⟩, ?_, by simp [L.len], fun j T e => ?_, ?_, fun q o g1 g2 g3 g4 g5 e => oth g1 (kp q o g2 g3 g4 g5 (L.kp q o g1 g2 g3 g4 g5 e)), ?_⟩⟩) ?_ ?_
    · obtain ⟨T, f, oT, u1, u2, u3⟩ := zh
      exact ⟨T, f, oT, oth (Ne.symm hSz) u1, oth (far u3).2.2.2.2 u2, u3⟩
    · have e : ((Ts ++ [h.objs.size]).map Value.ref).toArray = (Ts.map Value.ref).toArray.push (.ref h.objs.size) := by simp
      rw [e]
      exact ⟨_, Heap.get?_update_self _ ls' rfl⟩
    · have hup : ∀ f : Obj → Obj, (h'.update S f).objs.size = h.objs.size + 1 := fun f => by simp [hsz]
      rcases Nat.lt_or_ge j Ts.length with hj | hj
      · rw [List.getElem?_append_left hj] at e
        obtain ⟨g1, g2, x', y', g3, g4, g5⟩ := L.ps j T e
        obtain ⟨f1, f2, f3, f4, f5⟩ := far g1
        exact ⟨g1, Nat.lt_of_lt_of_eq (Nat.lt_succ_of_lt g2) (hup _).symm, x', y', g3, g4, oth f5 (kp _ _ f1 f2 f3 f4 g5)⟩
      · rw [List.getElem?_append_right hj] at e
        have hj0 : j = Ts.length := by
          rcases Nat.eq_zero_or_pos (j - Ts.length) with h0 | h0
          · omega
          · rw [List.getElem?_eq_none (by simp; omega)] at e; cases e
        subst hj0
        rw [Nat.sub_self] at e
        have e' : h.objs.size = T := by simpa using e
        subst e'
        rw [L.len]
        exact ⟨L.sz, Nat.lt_of_lt_of_eq (Nat.lt_succ_self _) (hup _).symm, x, y, e1, e2, oth (far L.sz).2.2.2.2 hT⟩
    · refine List.nodup_append.mpr ⟨L.nd, by simp, fun p hp q hq => ?_⟩
      obtain ⟨j, hj⟩ := List.getElem?_of_mem hp
      have := (L.ps j p hj).2.1
      have hq' : q = h.objs.size := by simpa using hq
      exact Nat.ne_of_lt (Nat.lt_of_lt_of_eq this hq'.symm)
    · have hup : ∀ f : Obj → Obj, (h'.update S f).objs.size = h.objs.size + 1 := fun f => by simp [hsz]
      exact Nat.le_trans (Nat.le_succ_of_le L.sz) (Nat.le_of_eq (hup _).symm)
    · have e : (Ts.map Value.ref).toArray.size = i := by simp [L.len]
      rw [e]; first | omega | (show i + 1 ≤ sizeLine + 1; omega)
    · have e : ((Ts.map Value.ref).toArray.push (.ref h.objs.size)).size = i + 1 := by simp [L.len]
      rw [e]; first | omega | (show i + 1 ≤ sizeLine + 1; omega)
end
end Dl
set_option Elab.async false
set_option linter.all false
set_option maxRecDepth 100000
namespace Dl
open PySem PySem.Spec PyProof.Rows L2

theorem lz_ar {N S a b : Nat} (la : a < N) (lb : b < N) (h : N + 5 ≤ S) : N + 4 < S + 1 ∧ N + 2 < S + 1 ∧ N + 3 < S + 1 ∧ N < S + 1 ∧ N + 1 < S + 1 ∧ a < S + 1 ∧ b < S + 1 ∧ S ≠ N + 4 ∧ S ≠ N + 2 ∧ S ≠ N + 3 ∧ S ≠ N ∧ S ≠ N + 1 ∧ S ≠ a ∧ S ≠ b := by omega
/-! ### the call list(z) of a fresh zip z -/
structure ZCells (t1 t2 : Bool) (a b N : Addr) (its1 its2 : List Value) (h : Heap) : Prop where
  z : IsZip h (N + 4) (N + 2) (N + 3) .none
  ti : IsTupOf2 h (N + 2) (.ref N) (.ref (N + 1))
  to : ∃ x y, IsTupOf2 h (N + 3) x y
  p1 : IterAt t1 h N a 0 ∧ PlAt t1 h a its1.toArray
  p2 : IterAt t2 h (N + 1) b 0 ∧ PlAt t2 h b its2.toArray
theorem ZCells.at {t1 t2 : Bool} {a b N : Addr} {its1 its2 : List Value} {h h' : Heap} (x : ZCells t1 t2 a b N its1 its2 h) (la : a < N) (lb : b < N) (kp : ∀ q o, q < N + 5 → h.get? q = some o → h'.get? q = some o) : ZCells t1 t2 a b N its1 its2 h' := by
  obtain ⟨z, ti, ⟨u, v, to⟩, p1, p2⟩ := x
  have l : ∀ {q : Nat}, q < N → q < N + 5 := fun h => Nat.lt_of_lt_of_le h (Nat.le_add_right _ _)
  exact ⟨kp _ _ (Nat.lt_succ_self (N + 4)) z, kp _ _ (Nat.add_lt_add_left (by decide) N) ti, ⟨u, v, kp _ _ (Nat.add_lt_add_left (by decide) N) to⟩, ⟨p1.1.at fun o e => kp _ _ (Nat.lt_add_of_pos_right (by decide)) e, p1.2.at fun o e => kp _ _ (l la) e⟩,
    ⟨p2.1.at fun o e => kp _ _ (Nat.add_lt_add_left (by decide) N) e, p2.2.at fun o e => kp _ _ (l lb) e⟩⟩
section
variable {prog : Program} {w : World} {A : Around} {E : Value → Shared → Prop} {t1 t2 : Bool} {a b N : Addr} {its1 its2 : List Value}
theorem lz_start {h : Heap} {S : Addr} {c : Nat} (x : ZCells t1 t2 a b N its1 its2 h) (hS : h.get? S = some { cls := .type "list", data := .seq #[] c }) : LZ t1 t2 a b (N + 4) (N + 2) (N + 3) N (N + 1) S its1 its2 (S + 1) h h 0 [] :=
  ⟨fun _ => ⟨x.z, x.to⟩, fun z => absurd z (Nat.lt_irrefl 0), x.ti, x.p1, x.p2, ⟨c, hS⟩, rfl, fun j T e => by simp at e, List.nodup_nil, fun q o _ _ _ _ _ e => e, Nat.succ_le_of_lt (Heap.lt_size hS)⟩
theorem lz_run {R : Result → Shared → Prop} (hh : A.handled = none) (res : Value) (hn : min its1.length its2.length ≤ sizeLine) (la : a < N) (lb : b < N) {S : Addr} (lS : N + 5 ≤ S) {h0 : Heap} {tk c : Nat} (s0 : Shared) (x : ZCells t1 t2 a b N its1 its2 h0)
    (hS : h0.get? S = some { cls := .type "list", data := .seq #[] c })
    (hR : ∀ (h' : Heap) (tk : Nat) (Ts : List Addr) (c : Nat), Ts.length = min its1.length its2.length → Ts.Nodup → (∀ (j : Nat) (T : Addr), Ts[j]? = some T → S + 1 ≤ T ∧ T < h'.objs.size ∧ ∃ x y, its1[j]? = some x ∧ its2[j]? = some y ∧ IsTupOf2 h' T x y) →
      h'.get? S = some { cls := .type "list", dict := none, data := .seq (Ts.map Value.ref).toArray c, slots := #[] } → (∀ q o, q ≠ S → q ≠ N + 4 → q ≠ N + 3 → q ≠ N → q ≠ N + 1 → h0.get? q = some o → h'.get? q = some o) → R (.ok (.ret res)) { s0 with heap := h', toks := tk }) :
    codeAny (model prog w) A (.builtin "list.extend.loop" ⟨[.ref S, .ref (N + 4), res], []⟩) R { s0 with heap := h0, toks := tk } := by
  obtain ⟨g1, g2, g3, g4, g5, g6, g7, n1, n2, n3, n4, n5, n6, n7⟩ := lz_ar la lb lS
  exact lz_loop (zip_sep2 (N := N) (fp1 := [a]) (fp2 := [b]) (by simpa using la) (by simpa using lb)) (Nat.ne_of_lt la) (Nat.ne_of_lt (Nat.lt_succ_of_lt lb))
    (Nat.lt_succ_self S) g1 g2 g3 g4 g5 g6 g7 n1 n2 n3 n4 n5 n6 n7
    hh res hn s0 hR _ 0 h0 tk [] rfl (Nat.zero_le _) (lz_start x hS)
end
end Dl
set_option Elab.async false
set_option linter.all false
set_option maxRecDepth 100000
namespace Dl
open PySem PySem.Spec PyProof.Rows L2

/-! ### the call list(z) of a fresh zip z, from the call on -/
abbrev ZOut (N S : Addr) (its1 its2 : List Value) (h0 h' : Heap) (Ts : List Addr) (c : Nat) : Prop :=
  Ts.length = min its1.length its2.length ∧ Ts.Nodup ∧ (∀ (j : Nat) (T : Addr), Ts[j]? = some T → S + 1 ≤ T ∧ T < h'.objs.size ∧ ∃ x y, its1[j]? = some x ∧ its2[j]? = some y ∧ IsTupOf2 h' T x y) ∧
  h'.get? S = some { cls := .type "list", dict := none, data := .seq (Ts.map Value.ref).toArray c, slots := #[] } ∧ ∀ q o, q ≠ S → q ≠ N + 4 → q ≠ N + 3 → q ≠ N → q ≠ N + 1 → h0.get? q = some o → h'.get? q = some o
section
variable {prog : Program} {w : World} {A : Around} {E : Value → Shared → Prop} {s : Shared} {t1 t2 : Bool} {a b N : Addr} {its1 its2 : List Value}
theorem lz_extend {R : Result → Shared → Prop} (hh : A.handled = none) (res : Value) (hn : min its1.length its2.length ≤ sizeLine) (la : a < N) (lb : b < N) {S : Addr} (lS : N + 5 ≤ S) {c₀ : Nat} (x : ZCells t1 t2 a b N its1 its2 s.heap)
    (hS : s.heap.get? S = some { cls := .type "list", data := .seq #[] c₀ }) (hR : ∀ h' tk Ts c, ZOut N S its1 its2 s.heap h' Ts c → R (.ok (.ret res)) { s with heap := h', toks := tk }) :
    wpAny (model prog w) A.in1 (Builtin.List.listExtendWith (.ref S) (.ref (N + 4)) res)
      (fun fin s' => match fin with | .done f => R (.ok f) s' | .again c' => c'.quiet = true ∧ codeAny (model prog w) A c' R s') (fun e s' => R (.error e) s') s := by
  obtain ⟨g1, g2, g3, g4, g5, g6, g7, n1, n2, n3, n4, n5, n6, n7⟩ := lz_ar la lb lS
  have key : ∀ (h : Heap) (c₁ tk : Nat), (∀ q o, q ≠ S → s.heap.get? q = some o → h.get? q = some o) → h.get? S = some { cls := .type "list", data := .seq #[] c₁ } →
      codeAny (model prog w) A (.builtin "list.extend.loop" ⟨[.ref S, .ref (N + 4), res], []⟩) R { s with heap := h, toks := tk } := by
    intro h c₁ tk hk hS₁
    refine lz_run hh res hn la lb lS s (x.at la lb fun q o hq e => hk q o (Nat.ne_of_lt (Nat.lt_of_lt_of_le hq lS)) e) hS₁ fun h' tk' Ts c o1 o2 o3 o4 o5 => ?_
    exact hR h' tk' Ts c ⟨o1, o2, o3, o4, fun q o e1 e2 e3 e4 e5 e => o5 q o e1 e2 e3 e4 e5 (hk q o e1 e)⟩
  have hT : s.TypeIs (.ref (N + 4)) "zip" := ⟨_, x.z, rfl⟩
  unfold Builtin.List.listExtendWith
  refine wpAny_bind (wpAny_typeOf (T := "zip") hT ?_)
  have h1 : Builtin.List.listSameRef (.ref S) (.ref (N + 4)) = false := by simp [Builtin.List.listSameRef, n1]
  have z1 : (Value.type "zip" == Value.type "list") = false := by decide
  have z2 : (Value.type "zip" == Value.type "tuple") = false := by decide
  simp only [h1, z1, z2, Bool.or_false, Bool.false_eq_true, if_false]
  refine wpAny_bind (wpAny_pyIter_zip x.z ?_)
  refine wpAny_bind (wpAny_holding (hint_zip hT ?_))
  refine wpAny_ite_split (fun _ => ?_) (fun _ => wpAny_pure ⟨plainId_quiet PySem.F.plain_extend_loop _, key _ c₀ _ (fun b o _ e => e) hS⟩)
  refine wpAny_bind (wpAny_rule ?_)
  refine wpAny_bind ?_
  show wpAny _ _ (updateSeq S (·.push .none) >>= fun _ => updateSeq S (·.pop)) _ _ _
  refine wpAny_bind (wpAny_updateSeq hS rfl ?_)
  have hS₂ := Heap.get?_update_self (Obj.mapSeq (·.push Value.none)) hS rfl
  refine wpAny_updateSeq (hz := by seq_fits) hS₂ rfl ?_
  have hS₃ := Heap.get?_update_self (Obj.mapSeq (·.pop)) hS₂ rfl
  refine wpAny_pure ⟨plainId_quiet PySem.F.plain_extend_loop _, key _ _ _ (fun b o hb e => ?_) hS₃⟩
  exact (Heap.get?_update_other _ _ (Ne.symm hb)).trans ((Heap.get?_update_other _ _ (Ne.symm hb)).trans e)
theorem lz_init {R : Result → Shared → Prop} (hh : A.handled = none) (hn : min its1.length its2.length ≤ sizeLine) (la : a < N) (lb : b < N) {S : Addr} (lS : N + 5 ≤ S) (x : ZCells t1 t2 a b N its1 its2 s.heap)
    (hS : s.heap.get? S = some { cls := .type "list", data := .seq #[] }) (hR : ∀ h' tk Ts c, ZOut N S its1 its2 s.heap h' Ts c → R (.ok (.ret .none)) { s with heap := h', toks := tk }) :
    wpAny (model prog w) A.in1 (Builtin.«list.__init__» ⟨[.ref S, .ref (N + 4)], []⟩)
      (fun fin s' => match fin with | .done f => R (.ok f) s' | .again c' => c'.quiet = true ∧ codeAny (model prog w) A c' R s') (fun e s' => R (.error e) s') s := by
  show wpAny _ _ (do let old ← Builtin.List.listItems (.ref S); Builtin.List.listUpdate (.ref S) (fun _ => #[]); letGo old.toList.reverse; Builtin.List.listExtendWith (.ref S) (.ref (N + 4)) .none) _ _ s
  refine wpAny_bind ?_
  unfold Builtin.List.listItems
  refine wpAny_bind (wpAny_seqItems hS rfl (wpAny_pure ?_))
  show wpAny _ _ (updateSeq S (fun _ => #[]) >>= fun _ => letGo (#[] : Array Value).toList.reverse >>= fun _ => Builtin.List.listExtendWith (.ref S) (.ref (N + 4)) .none) _ _ s
  refine wpAny_bind (wpAny_updateSeq hS rfl ?_)
  have hS₂ := Heap.get?_update_self (Obj.mapSeq (fun _ => (#[] : Array Value))) hS rfl
  have oth : ∀ b o, b ≠ S → s.heap.get? b = some o → (s.heap.update S (Obj.mapSeq (fun _ => (#[] : Array Value)))).get? b = some o :=
    fun b o hb e => (Heap.get?_update_other _ _ (Ne.symm hb)).trans e
  refine wpAny_bind (wpAny_letGo ?_)
  refine lz_extend hh .none hn la lb lS (x.at la lb fun q o hq e => oth q o (Nat.ne_of_lt (Nat.lt_of_lt_of_le hq lS)) e) hS₂ fun h' tk Ts c o => ?_
  exact hR h' tk Ts c ⟨o.1, o.2.1, o.2.2.1, o.2.2.2.1, fun q u e1 e2 e3 e4 e5 e => o.2.2.2.2 q u e1 e2 e3 e4 e5 (oth q u e1 e)⟩
theorem lz_call {Q : Value → Shared → Prop} (hh : A.handled = none) (hn : min its1.length its2.length ≤ sizeLine) (la : a < N) (lb : b < N) (lS : N + 5 ≤ s.heap.objs.size) (x : ZCells t1 t2 a b N its1 its2 s.heap)
    (hQ : ∀ h' tk Ts c, ZOut N s.heap.objs.size its1 its2 s.heap h' Ts c → Q (.ref s.heap.objs.size) { s with heap := h', toks := tk }) :
    wpAny (model prog w) A (call (.type "list") [.ref (N + 4)]) Q E s := by
  refine callType_codes (Q₁ := fun obj s₁ => obj = .ref s.heap.objs.size ∧ s₁ = { s with heap := s.heap.push { cls := .type "list", data := .seq #[] } }) PySem.F.called_list (PySem.F.typeCall_list_1 _) PySem.F.entry_list_init
    (code_list_new _ ⟨rfl, rfl⟩) fun obj s₁ h₁ => ?_
  obtain ⟨rfl, rfl⟩ := h₁
  have hS : (s.heap.push { cls := .type "list", data := .seq #[] }).get? s.heap.objs.size = some { cls := .type "list", data := .seq #[] } := Heap.get?_push_size _ rfl
  refine ⟨⟨_, hS, rfl⟩, PySem.F.args_list_init_2 _ _, lz_init (A := A.in1) hh hn la lb lS (x.at la lb fun q o _ e => Heap.get?_push_of_some _ e) hS fun h' tk Ts c o => ?_⟩
  exact ⟨rfl, hQ h' tk Ts c ⟨o.1, o.2.1, o.2.2.1, o.2.2.2.1, fun q u e1 e2 e3 e4 e5 e => o.2.2.2.2 q u e1 e2 e3 e4 e5 (Heap.get?_push_of_some _ e)⟩⟩
end
end Dl
set_option Elab.async false
set_option linter.all false
set_option maxRecDepth 100000
namespace Dl
open PySem PySem.Spec PyProof.Rows L2

/-! ### several new cells of any kind laid at once -/
def layH (H : Hp) : List (Addr × HO) → Hp
  | [] => H
  | (a, o) :: r => upd (layH H r) a o
theorem layH_cases (H : Hp) : ∀ (cs : List (Addr × HO)) (b : Addr), ((∀ p ∈ cs, p.1 ≠ b) ∧ layH H cs b = H b) ∨ ∃ o, (b, o) ∈ cs ∧ layH H cs b = some o
  | [], b => .inl ⟨fun p hp => (by cases hp), rfl⟩
  | (a, φ) :: r, b => by
    by_cases e : b = a
    · subst e
      exact .inr ⟨φ, List.mem_cons_self .., by rw [layH, upd_same]⟩
    · rw [layH, upd_ne e]
      rcases layH_cases H r b with ⟨h1, h2⟩ | ⟨ψ, h1, h2⟩
      · exact .inl ⟨fun p hp => by
          rcases List.mem_cons.mp hp with rfl | hp
          · exact fun z => e z.symm
          · exact h1 p hp, h2⟩
      · exact .inr ⟨ψ, List.mem_cons_of_mem _ h1, h2⟩
theorem layH_none {H : Hp} {cs : List (Addr × HO)} {b : Addr} (h : H b = none) (n : ∀ p ∈ cs, p.1 ≠ b) : layH H cs b = none := by
  rcases layH_cases H cs b with ⟨_, h2⟩ | ⟨o, h1, _⟩
  · rw [h2, h]
  · exact absurd rfl (n _ h1)
section
variable {X : Cx} {pins : List (Addr × Obj)} {σ : L2.St} {H : Hp} {s : Shared}
theorem inv_layH {h' : Heap} {t' : Nat} {cs : List (Addr × HO)} (I : Inv X pins σ H s) (k : ∀ b u, s.heap.get? b = some u → h'.get? b = some u) (hp : ∀ p ∈ cs, s.heap.objs.size ≤ p.1)
    (ok : ∀ p ∈ cs, ObjOk X.prog X.w (layH H cs) h' p.1 p.2) : Inv X pins σ (layH H cs) { s with heap := h', toks := t' } := by
  have old : ∀ b o, H b = some o → layH H cs b = some o := fun b o e => by
    rcases layH_cases H cs b with ⟨_, h2⟩ | ⟨φ, h1, _⟩
    · rw [h2, e]
    · have := I.hok.fresh (hp _ h1)
      rw [this] at e; cases e
  refine I.un ⟨fun b u q _ _ _ => k b u q, fun b u q _ _ _ => ⟨u.slots, k b u q⟩, fun b u q n _ => ?_, fun b u q _ => ⟨u, k b u q⟩, fun b xs q => old _ _ q, fun b u xs q => old _ _ q, fun b ps q => ⟨#[], by rw [old _ _ q]; simp⟩⟩ fun b u e => ?_
  · rcases layH_cases H cs b with ⟨_, h2⟩ | ⟨φ, h1, _⟩
    · rw [h2, n]
    · exact absurd (Nat.lt_of_lt_of_le (Heap.lt_size q) (hp _ h1)) (Nat.lt_irrefl _)
  · rcases layH_cases H cs b with ⟨_, h2⟩ | ⟨φ, h1, h2⟩
    · rw [h2] at e
      exact (I.hok b u e).stay (fun c v _ q => k c v q) (fun c q => old _ _ q) fun c xs q => old _ _ q
    · rw [h2] at e
      cases e
      exact ok _ h1
end
/-- many new tuples -/
def tupsOf (cs : List (Addr × List V)) : List (Addr × HO) := cs.map fun p => (p.1, .tup p.2)
inductive DpRows (K : PySem.W.Frag) (F : Hp) : List (Addr × List V) → List (List D) → Prop
  | nil : DpRows K F [] []
  | cons {p : Addr × List V} {ds : List D} {cs : List (Addr × List V)} {dss : List (List D)} : DpAll K F p.2 ds → DpRows K F cs dss → DpRows K F (p :: cs) (ds :: dss)
theorem newTups {K : PySem.W.Frag} {R : Prop} : ∀ (cs : List (Addr × List V)) (dss : List (List D)) {F H : Hp}, Same F H → DpRows K F cs dss → (cs.map (·.1)).Nodup → (∀ p ∈ cs, H p.1 = none) →
    (∀ F', DpAll K F' (cs.map fun p => .ref p.1) (dss.map .tuple) → Same F' (layH H (tupsOf cs)) → Stp Non F H F' (layH H (tupsOf cs)) → R) → R
  | _, _, F, H, fh, .nil, _, _, k => k F .nil fh Stp.refl
  | (a, vs) :: cs, ds :: dss, F, H, fh, .cons h r, nd, hn, k => by
    rw [List.map_cons, List.nodup_cons] at nd
    refine newTups cs dss fh r nd.2 (fun p hp => hn p (List.mem_cons_of_mem _ hp)) fun F' h1 h2 h3 => ?_
    have na : layH H (tupsOf cs) a = none := layH_none (hn _ (List.mem_cons_self ..)) fun p hp e => by
      obtain ⟨q, hq, rfl⟩ := List.mem_map.mp hp
      exact nd.1 (List.mem_map.mpr ⟨q, hq, e⟩)
    refine newTup (Q := fun v H' => v = .ref a ∧ H' = layH H (tupsOf ((a, vs) :: cs)) → R) h2 (dpMonos h3.fs _ _ h) (fun v F2 H2 g1 g2 g3 ⟨e1, e2⟩ => ?_) a na ⟨rfl, rfl⟩
    subst e1
    subst e2
    exact k F2 (.cons g1 (dpMonos g3.fs _ _ h1)) g2 (h3.andN g3)
end Dl
set_option Elab.async false
set_option linter.all false
set_option maxRecDepth 100000
namespace Dl
open PySem PySem.Spec PyProof.Rows L2

/-! ### list(zip(a, b)) -/
def pairC : List Addr → List V → List V → List (Addr × List V)
  | T :: Ts, x :: xs, y :: ys => (T, [x, y]) :: pairC Ts xs ys
  | _, _, _ => []
def pairD : List D → List D → List (List D)
  | x :: xs, y :: ys => [x, y] :: pairD xs ys
  | _, _ => []
theorem pairD_zip : ∀ (xs ys : List D), (pairD xs ys).map .tuple = zipL xs ys
  | [], _ => by simp [pairD, zipL]
  | _ :: _, [] => by simp [pairD, zipL]
  | x :: xs, y :: ys => by simp [pairD, zipL, pairD_zip xs ys]
theorem pairC_fst : ∀ (Ts : List Addr) (xs ys : List V), Ts.length = min xs.length ys.length → (pairC Ts xs ys).map (·.1) = Ts
  | [], _, _, _ => by simp [pairC]
  | T :: Ts, [], ys, h => by simp at h
  | T :: Ts, x :: xs, [], h => by simp at h
  | T :: Ts, x :: xs, y :: ys, h => by
    have h' : Ts.length = min xs.length ys.length := by simp only [List.length_cons] at h; omega
    simp [pairC, pairC_fst Ts xs ys h']
theorem pairC_mem : ∀ {Ts : List Addr} {xs ys : List V} {p : Addr × List V}, p ∈ pairC Ts xs ys → ∃ (j : Nat) (x y : V), Ts[j]? = some p.1 ∧ xs[j]? = some x ∧ ys[j]? = some y ∧ p.2 = [x, y]
  | [], _, _, _, h => by simp [pairC] at h
  | T :: Ts, [], ys, _, h => by simp [pairC] at h
  | T :: Ts, x :: xs, [], _, h => by simp [pairC] at h
  | T :: Ts, x :: xs, y :: ys, p, h => by
    rw [pairC] at h
    rcases List.mem_cons.mp h with rfl | h
    · exact ⟨0, x, y, rfl, rfl, rfl, rfl⟩
    · obtain ⟨j, u, v, a, b, c, d⟩ := pairC_mem h
      exact ⟨j + 1, u, v, a, b, c, d⟩
theorem pairRows {K : PySem.W.Frag} {F : Hp} : ∀ {Ts : List Addr} {xs ys : List V} {ds es : List D}, Ts.length = min xs.length ys.length → DpAll K F xs ds → DpAll K F ys es → DpRows K F (pairC Ts xs ys) (pairD ds es)
  | [], _, _, _, _, h, .nil, _ => by simp [pairC, pairD]; exact .nil
  | [], _, _, _, _, h, .cons a b, .nil => by simp [pairC, pairD]; exact .nil
  | [], _, _, _, _, h, .cons a b, .cons c d => by simp at h
  | T :: Ts, _, _, _, _, h, .nil, _ => by simp at h
  | T :: Ts, _, _, _, _, h, .cons a b, .nil => by simp at h
  | T :: Ts, x :: xs, y :: ys, _, _, h, .cons a b, .cons c d => by
    have h' : Ts.length = min xs.length ys.length := by simp only [List.length_cons] at h; omega
    rw [pairC, pairD]
    exact .cons (.cons a (.cons c .nil)) (pairRows h' b d)
theorem relRefs : ∀ (Ts : List Addr), Vals (Ts.map V.ref) (Ts.map Value.ref)
  | [] => .nil
  | T :: Ts => .cons rfl (relRefs Ts)
theorem invSqZ {X : Cx} {pins : List (Addr × Obj)} {σ : L2.St} {H : Hp} {s : Shared} (I : Inv X pins σ H s) {t : Bool} {a : Addr} {xs : List V} (h : Sq t X.K H a xs) : ∃ its : List Value, Vals xs its ∧ PlAt t s.heap a its.toArray ∧ a < s.heap.objs.size ∧ xs.length ≤ sizeLine := by
  cases t
  · obtain ⟨its, r, p, z⟩ := I.list (show SqL X.K H a xs from h)
    exact ⟨its, r, p.isList, p.lt, z⟩
  · obtain ⟨its, r, p, z⟩ := I.tuple (show SqT X.K H a xs from h)
    have p' := p
    obtain ⟨o, ho, _⟩ := p'
    exact ⟨its, r, p, Heap.lt_size ho, z⟩
def tLZ (K : PySem.W.Frag) (ta : TA) : TE := fun σ H Q => ta σ H fun vs H1 => ∃ (t1 t2 : Bool) (a b : Addr) (xs ys : List V), vs = [.ref a, .ref b] ∧ Sq t1 K H1 a xs ∧ Sq t2 K H1 b ys ∧
  ∀ (S : Addr) (Ts : List Addr), Ts.length = min xs.length ys.length → Ts.Nodup → (∀ T ∈ Ts, S ≠ T ∧ H1 T = none) → H1 S = none → Q (.ref S) (upd (layH H1 (tupsOf (pairC Ts xs ys))) S (.lst (Ts.map V.ref)))
theorem pe_listZip {X : Cx} {e e2 : Expr} {ta : TA} {p pos p2 pos2 : Pos} (hc : X.calm = true) (hgl : Gl X "list") (hml : X.mg "list" = none) (hg : Gl X "zip") (hm : X.mg "zip" = none) (ha : PA X [e, e2] ta)
    (hs : starEach [e, e2] X.env = (false, eval e X.env) :: starEach [e2] X.env := by rfl) (hpl : (backTo pos2 (starEach [e2] X.env)).any (·.1) = false := by rfl) :
    PE X (.Call (.Name "list" p) [.Call (.Name "zip" p2) [e, e2] [] pos2] [] pos) (tLZ X.K ta) := by
  refine ⟨fun pins s σ H Q I h => ?_⟩
  have hh : X.A.handled = none := I.ok.hd hc
  refine Call_ (ld_blt I hgl hml PyProof.Rows.boot_list (PyProof.Rows.callWith_type1 ?_))
  show wpAny _ _ (spliced [(false, eval (.Call (.Name "zip" p2) [e, e2] [] pos2) X.env)]) _ _ s
  refine Calls.spliced_cons ?_
  refine Call_ (ld_blt I hg hm PyProof.Rows.boot_zip (PyProof.Rows.callWith_type1 (thn (ha.run pos2 pins s σ H _ I h) fun us s1 ⟨vs, H1, I1, r1, q1⟩ => ?_) hs hpl))
  obtain ⟨t1, t2, a, b, xs, ys, ex, hqx, hqy, q⟩ := q1
  subst ex
  cases r1 with
  | cons r rr =>
    cases rr with
    | cons r' rr =>
      cases rr
      cases r
      cases r'
      obtain ⟨its, rv, p1, la, zx⟩ := invSqZ I1 hqx
      obtain ⟨its2, rv2, p2, lb, zy⟩ := invSqZ I1 hqy
      have e1 := rv.length
      have e2 := rv2.length
      refine zip_begins2 (beginsX t1 a its.toArray) (beginsX t2 b its2.toArray) p1 p2 fun h' hz hTI hTO h1 h2 hsz hk => ?_
      refine Calls.spliced_nil ?_
      refine lz_call (s := { s1 with heap := h' }) hh (by rw [← e1, ← e2]; omega) la lb (Nat.le_of_eq hsz.symm) ⟨hz, hTI, ⟨_, _, hTO⟩, ⟨IterAt.new h1, p1.at fun o e => hk _ _ e⟩, ⟨IterAt.new h2, p2.at fun o e => hk _ _ e⟩⟩ fun h'' tk Ts c o => ?_
      obtain ⟨o1, o2, o3, o4, o5⟩ := o
      rw [← e1, ← e2] at o1
      have hS : s1.heap.objs.size ≤ h'.objs.size := by rw [hsz]; exact Nat.le_add_right _ _
      have big : ∀ T ∈ Ts, h'.objs.size + 1 ≤ T := fun T hT => by
        obtain ⟨j, hj⟩ := List.getElem?_of_mem hT
        exact (o3 j T hj).1
      have keep : ∀ q u, s1.heap.get? q = some u → h''.get? q = some u := fun q u e => by
        have l := Heap.lt_size e
        exact o5 q u (Nat.ne_of_lt (Nat.lt_of_lt_of_le l hS)) (Nat.ne_of_lt (Nat.lt_of_lt_of_le l (Nat.le_add_right _ _))) (Nat.ne_of_lt (Nat.lt_of_lt_of_le l (Nat.le_add_right _ _))) (Nat.ne_of_lt l) (Nat.ne_of_lt (Nat.lt_succ_of_lt l)) (hk q u e)
      refine ⟨.ref h'.objs.size, _, inv_layH (s := s1) (t' := tk) (cs := (h'.objs.size, .lst (Ts.map V.ref)) :: tupsOf (pairC Ts xs ys)) I1 keep (fun p hp => ?_) (fun p hp => ?_), rfl, q _ Ts o1 o2 (fun T hT => ⟨Nat.ne_of_lt (big T hT), I1.hok.fresh (Nat.le_trans hS (Nat.le_of_succ_le (big T hT)))⟩) (I1.hok.fresh hS)⟩
      · rcases List.mem_cons.mp hp with rfl | hp
        · exact hS
        · obtain ⟨r, hr, rfl⟩ := List.mem_map.mp hp
          obtain ⟨j, x, y, g1, _⟩ := pairC_mem hr
          exact Nat.le_trans hS (Nat.le_of_succ_le (o3 j _ g1).1)
      · rcases List.mem_cons.mp hp with rfl | hp
        · exact ⟨by rw [List.length_map, o1]; omega, _, _, relRefs Ts, o4⟩
        · obtain ⟨r, hr, rfl⟩ := List.mem_map.mp hp
          obtain ⟨j, x, y, g1, g2, g3, g4⟩ := pairC_mem hr
          obtain ⟨_, _, u, v, k1, k2, k3⟩ := o3 j _ g1
          obtain ⟨u', k1', ru⟩ := rv.get g2
          obtain ⟨v', k2', rv'⟩ := rv2.get g3
          rw [k1] at k1'; cases k1'
          rw [k2] at k2'; cases k2'
          show ObjOk _ _ _ _ r.1 (.tup r.2)
          rw [g4]
          exact ⟨by rw [sizeLine_eq]; simp, [u, v], .cons ru (.cons rv' .nil), ⟨_, k3, rfl, _, rfl⟩⟩
/-- list(zip(a, b)) as a list of the frame's own -/
def vZip (f : Fa) : Fv := fun g => (iZipU f g).map fun p => (.own none p.1, p.2)
theorem dv_listZip {X : Cx} {a b : Expr} {p pos p2 pos2 : Pos} {f : Fa} (hc : X.calm = true) (hgl : Gl X "list") (hml : X.mg "list" = none) (hg : Gl X "zip") (hm : X.mg "zip" = none) (ha : DA X [a, b] f)
    (hs : starEach [a, b] X.env = (false, eval a X.env) :: starEach [b] X.env := by rfl) (hpl : (backTo pos2 (starEach [b] X.env)).any (·.1) = false := by rfl) :
    DV X (.Call (.Name "list" p) [.Call (.Name "zip" p2) [a, b] [] pos2] [] pos) (vZip f) := peMono (pe_listZip hc hgl hml hg hm ha hs hpl) fun s H Q ⟨F, g, x, g', r, e, k⟩ => by
  unfold vZip iZipU at e
  split at e
  · rename_i d1 d2 g1 q
    cases q1 : seqD d1 with
    | none => rw [q1] at e; cases e
    | some xs =>
      rw [q1] at e
      cases q2 : seqD d2 with
      | none =>
        have e : Option.map _ ((seqD d2).map _) = some (x, g') := e
        rw [q2] at e; cases e
      | some ys =>
        have e : Option.map _ ((seqD d2).map _) = some (x, g') := e
        rw [q2] at e; cases e
        refine ⟨F, g, _, _, r, q, fun vs F1 H1 p1 r1 t1 m1 => ?_⟩
        obtain ⟨v, w, rfl, h1, h2⟩ := dpTwo p1
        obtain ⟨ta, pa, us, rfl, sa, da⟩ := sqOf h1 r1.fh q1
        obtain ⟨tb, pb, ws, rfl, sb, db⟩ := sqOf h2 r1.fh q2
        refine ⟨ta, tb, pa, pb, us, ws, rfl, sa _ r1.fh, sb _ r1.fh, fun S Ts hl nd hT hS => ?_⟩
        have fst := pairC_fst Ts us ws hl
        refine newTups (K := X.K) (pairC Ts us ws) (pairD xs ys) r1.fh (pairRows hl da db) (by rw [fst]; exact nd) (fun p hp => ?_) fun F2 g1 g2 g3 => ?_
        · exact (hT p.1 (by rw [← fst]; exact List.mem_map.mpr ⟨p, hp, rfl⟩)).2
        · rw [pairD_zip] at g1
          have e3 : (pairC Ts us ws).map (fun p => V.ref p.1) = Ts.map V.ref := by rw [← fst, List.map_map]; rw [fst]; rfl
          rw [e3] at g1
          refine newLst (r1.stepN g3 g2) g1 (t1.andN g3) m1 k S (layH_none hS fun p hp e => ?_)
          obtain ⟨q, hq, rfl⟩ := List.mem_map.mp hp
          exact (hT q.1 (by rw [← fst]; exact List.mem_map.mpr ⟨q, hq, rfl⟩)).1 e.symm
  · cases e
end Dl
set_option Elab.async false
set_option linter.all false
set_option maxRecDepth 100000
namespace Dl
open PySem PySem.Spec PyProof.Rows L2

/-! ### the next pair of a zip, whatever became of the pair ahead of it -/
abbrev ZAny (h : Heap) (z TI TO : Addr) (u : Value) (f : Bool) : Prop :=
  h.get? z = some { cls := .type "zip", dict := none, data := .fields #[u, .bool f, .bool false, .ref TI, .ref TO], slots := #[] }
/-- a zip's word for the pair that it handed out -/
def ZWord (u : Value) : Prop := u = .none ∨ ∃ T : Addr, u = rawInt T
section
variable {prog : Program} {w : World} {A : Around} {E : Value → Shared → Prop} {s : Shared} {z TI TO i1 i2 : Addr} {fp1 fp2 : List Addr} {n1 n2 i : Nat} {P1 P2 : Nat → Value → Prop} {St1 St2 : Nat → Heap → Prop} {u a1 a2 : Value} {f : Bool}
theorem gone_load {T : Addr} {Q : Option Obj → Shared → Prop} (hT : s.heap.get? T = none) (k : Q none s) : wpAny (model prog w) A (loadIfAlive T) Q E s := by
  have q : Q (s.heap.get? T) s := by rw [hT]; exact k
  exact fun _ _ _ => q
/-- whether a zip's own pair is free: yes, or no with its mark set -/
theorem word_free {Q : Bool → Shared → Prop} (hz : ZAny s.heap z TI TO u f) (hu : ZWord u) (k1 : Q true s) (k2 : ∀ (T : Addr) oT, u = rawInt T → s.heap.get? T = some oT → wpAny (model prog w) A (Builtin.SmallTypes.ownedTupleIsFree (.ref z)) Q E s) :
    wpAny (model prog w) A (Builtin.SmallTypes.ownedTupleIsFree (.ref z)) Q E s := by
  rcases hu with e | ⟨T, e⟩
  · unfold Builtin.SmallTypes.ownedTupleIsFree
    refine wpAny_bind (wpAny_field (x := u) hz rfl rfl ?_)
    subst e
    exact wpAny_pure k1
  · cases q : s.heap.get? T with
    | some oT => exact k2 T oT e q
    | none =>
      unfold Builtin.SmallTypes.ownedTupleIsFree
      refine wpAny_bind (wpAny_field (x := u) hz rfl rfl ?_)
      subst e
      show wpAny _ _ (loadIfAlive ((T : Int).toNat) >>= _) _ _ _
      rw [Int.toNat_natCast]
      exact wpAny_bind (gone_load q (wpAny_pure k1))
/-- the pair is free: the zip's own one is filled anew -/
theorem freed_item {Q : Value → Shared → Prop} (S : ZipSep2 z TI TO i1 i2 fp1 fp2) (D1 : Draws prog w A i1 fp1 n1 P1 St1) (D2 : Draws prog w A i2 fp2 n2 P2 St2) (hz : ZAny s.heap z TI TO u f)
    (hF : ∀ Q' : Bool → Shared → Prop, Q' true s → wpAny (model prog w) A (Builtin.SmallTypes.ownedTupleIsFree (.ref z)) Q' E s) (hTI : IsTupOf2 s.heap TI (.ref i1) (.ref i2)) (hTO : IsTupOf2 s.heap TO a1 a2)
    (st1 : St1 i s.heap) (st2 : St2 i s.heap) (l1 : i < n1) (l2 : i < n2)
    (hQ : ∀ x y h' tk, P1 i x → P2 i y → ZAny h' z TI TO (rawInt s.heap.objs.size) false → IsTupOf2 h' TO x y → St1 (i + 1) h' → St2 (i + 1) h' → IsTupOf2 h' s.heap.objs.size x y → h'.objs.size = s.heap.objs.size + 1 →
      (∀ c o, c ≠ z → c ≠ TO → c ≠ i1 → c ≠ i2 → s.heap.get? c = some o → h'.get? c = some o) → Q (.ref s.heap.objs.size) { s with heap := h', toks := tk }) :
    wpAny (model prog w) A (Builtin.«zip.__next__» ⟨[.ref z], []⟩) (fun fin s' => ∃ v, fin = .done (.ret v) ∧ Q v s') E s := by
  obtain ⟨m0, gg, dd, t0, os⟩ := s
  show wpAny _ _ (field (Value.ref z) 2 >>= _) _ _ _
  refine wpAny_bind (wpAny_field (x := .bool false) hz rfl rfl ?_)
  show wpAny _ _ (field (Value.ref z) 3 >>= _) _ _ _
  refine wpAny_bind (wpAny_field (x := .ref TI) hz rfl rfl (wpAny_bind (wpAny_seqItems hTI rfl ?_)))
  show wpAny _ _ (Builtin.SmallTypes.ownedTupleIsFree (Value.ref z) >>= _) _ _ _
  refine wpAny_bind (hF _ ?_)
  rw [if_pos rfl]
  refine wpAny_bind (wpAny_rule (wpAny_bind (wpAny_field (x := .ref TO) hz rfl rfl (wpAny_bind (wpAny_setField_rec hz (by simp) fun m1 y1 k1 => ?_)))))
  replace y1 : ZAny m1 z TI TO .ellipsis f := y1
  replace k1 : Heap.SameBut z m0 m1 := k1
  simp only [List.zipIdx_cons, List.zipIdx_nil, List.forIn_cons, List.forIn_nil]
  refine wpAny_bind (wpAny_bind (wpAny_bind (wpAny_onRaise ?_)))
  show wpAny _ _ (Builtin.SmallTypes.nextOf (Value.ref i1) >>= _) _ _ ⟨m1, gg, dd, t0, os⟩
  refine wpAny_bind (D1.item i _ _ _ l1 (D1.over st1 k1 S.zf1) fun x m2 t2 px sx k2 => wpAny_pure ?_)
  replace k2 : Heap.SameBut i1 m1 m2 := k2
  have U1 : IsTupOf2 m2 TO a1 a2 := k2.extBut _ _ S.Ti1 (k1.extBut _ _ S.TOz hTO)
  refine wpAny_bind (wpAny_seqItems (s := ⟨m2, gg, dd, t2, os⟩) U1 rfl (wpAny_bind (updateSeq_IsTupOf2 (s := ⟨m2, gg, dd, t2, os⟩) U1 fun m3 U2 k3 => ?_)))
  replace U2 : IsTupOf2 m3 TO x a2 := U2
  replace k3 : Heap.SameBut TO m2 m3 := k3
  refine wpAny_bind (wpAny_letGo (wpAny_pure (wpAny_bind (wpAny_bind (wpAny_onRaise ?_)))))
  show wpAny _ _ (Builtin.SmallTypes.nextOf (Value.ref i2) >>= _) _ _ ⟨m3, gg, dd, t2, os⟩
  refine wpAny_bind (D2.item i _ _ _ l2 (D2.over (D2.over (D2.over st2 k1 S.zf2) k2 S.sep1_2) k3 S.Tf2) fun y m4 t4 py sy k4 => wpAny_pure ?_)
  replace k4 : Heap.SameBut i2 m3 m4 := k4
  have U3 : IsTupOf2 m4 TO x a2 := k4.extBut _ _ S.Ti2 U2
  refine wpAny_bind (wpAny_seqItems (s := ⟨m4, gg, dd, t4, os⟩) U3 rfl (wpAny_bind (updateSeq_IsTupOf2 (s := ⟨m4, gg, dd, t4, os⟩) U3 fun m5 U4 k5 => ?_)))
  replace U4 : IsTupOf2 m5 TO x y := U4
  replace k5 : Heap.SameBut TO m4 m5 := k5
  refine wpAny_bind (wpAny_letGo (wpAny_pure (wpAny_pure ?_)))
  refine wpAny_bind (wpAny_seqItems (s := ⟨m5, gg, dd, t4, os⟩) U4 rfl (wpAny_bind (wpAny_newTuple ?_)))
  have sz : m5.objs.size = m0.objs.size := by rw [k5.1, k4.1, k3.1, k2.1, k1.1]
  have y5 : ZAny m5 z TI TO .ellipsis f := k5.extBut _ _ S.TOz.symm (k4.extBut _ _ S.zi2 (k3.extBut _ _ S.TOz.symm (k2.extBut _ _ S.zi1 y1)))
  have kk : ∀ c o, c ≠ z → c ≠ TO → c ≠ i1 → c ≠ i2 → m0.get? c = some o → m5.get? c = some o := fun c o e1 e2 e3 e4 e =>
    k5.extBut _ _ e2 (k4.extBut _ _ e4 (k3.extBut _ _ e2 (k2.extBut _ _ e3 (k1.extBut _ _ e1 e))))
  have j1 : St1 (i + 1) m5 := D1.over (D1.over (D1.over sx k3 S.Tf1) k4 S.sep2_1) k5 S.Tf1
  have j2 : St2 (i + 1) m5 := D2.over sy k5 S.Tf2
  have zl : z < m5.objs.size := Heap.lt_size y5
  show wpAny _ _ (Builtin.SmallTypes.ownedTupleHandOut (Value.ref z) (.ref m5.objs.size) >>= _) _ _ ⟨m5.push { cls := .type "tuple", data := .seq #[x, y] }, gg, dd, t4, os⟩
  unfold Builtin.SmallTypes.ownedTupleHandOut
  have y6 : ZAny (m5.push { cls := .type "tuple", data := .seq #[x, y] }) z TI TO .ellipsis f := Heap.get?_push_of_some _ y5
  refine wpAny_bind (wpAny_bind (wpAny_setField_rec y6 (by simp) fun m7 y7 k7 => ?_))
  replace y7 : ZAny m7 z TI TO (rawInt m5.objs.size) f := y7
  replace k7 : Heap.SameBut z (m5.push { cls := .type "tuple", data := .seq #[x, y] }) m7 := k7
  refine wpAny_setField_rec y7 (by simp) fun m8 y8 k8 => ?_
  replace y8 : ZAny m8 z TI TO (rawInt m5.objs.size) false := y8
  replace k8 : Heap.SameBut z m7 m8 := k8
  have up : ∀ c o, c ≠ z → m5.get? c = some o → m8.get? c = some o := fun c o e1 e => k8.extBut _ _ e1 (k7.extBut _ _ e1 (Heap.get?_push_of_some _ e))
  have T8 : IsTupOf2 m8 m5.objs.size x y := k8.extBut _ _ (Nat.ne_of_gt zl) (k7.extBut _ _ (Nat.ne_of_gt zl) (Heap.get?_push_size _ rfl))
  have z8 : m8.objs.size = m5.objs.size + 1 := by rw [k8.1, k7.1, Heap.size_push]
  rw [sz] at y8 T8 z8
  refine wpAny_pure ⟨_, rfl, ?_⟩
  show Q (.ref m5.objs.size) ⟨m8, gg, dd, t4, os⟩
  rw [sz]
  exact hQ x y m8 t4 px py y8 (up _ _ S.TOz U4) (D1.frame _ _ _ j1 fun b hb o e => up b o (fun q => S.zf1 (q ▸ hb)) e) (D2.frame _ _ _ j2 fun b hb o e => up b o (fun q => S.zf2 (q ▸ hb)) e) T8 z8 fun c o e1 e2 e3 e4 e => up c o e1 (kk c o e1 e2 e3 e4 e)
theorem any_item {Q : Value → Shared → Prop} (S : ZipSep2 z TI TO i1 i2 fp1 fp2) (D1 : Draws prog w A i1 fp1 n1 P1 St1) (D2 : Draws prog w A i2 fp2 n2 P2 St2) (hz : ZAny s.heap z TI TO u f) (hu : ZWord u)
    (hTI : IsTupOf2 s.heap TI (.ref i1) (.ref i2)) (hTO : IsTupOf2 s.heap TO a1 a2) (st1 : St1 i s.heap) (st2 : St2 i s.heap) (l1 : i < n1) (l2 : i < n2)
    (hQ : ∀ x y h' tk u' f', P1 i x → P2 i y → ZAny h' z TI TO u' f' → ZWord u' → (∃ b1 b2, IsTupOf2 h' TO b1 b2) → St1 (i + 1) h' → St2 (i + 1) h' → IsTupOf2 h' s.heap.objs.size x y → h'.objs.size = s.heap.objs.size + 1 →
      (∀ c o, c ≠ z → c ≠ TO → c ≠ i1 → c ≠ i2 → s.heap.get? c = some o → h'.get? c = some o) → Q (.ref s.heap.objs.size) { s with heap := h', toks := tk }) :
    wpAny (model prog w) A (Builtin.«zip.__next__» ⟨[.ref z], []⟩) (fun fin s' => ∃ v, fin = .done (.ret v) ∧ Q v s') E s := by
  by_cases c : ∃ (T : Addr) (oT : Obj), u = rawInt T ∧ s.heap.get? T = some oT
  · obtain ⟨T, oT, e, hT⟩ := c
    subst e
    exact held_item S D1 D2 hz hT hTI st1 st2 l1 l2 fun x y h' tk px py z' q1 q2 hp sz kp => hQ x y h' tk _ true px py z' (.inr ⟨T, rfl⟩) ⟨a1, a2, kp _ _ S.TOz S.Ti1 S.Ti2 hTO⟩ q1 q2 hp sz fun c o e1 _ e3 e4 e => kp c o e1 e3 e4 e
  · refine freed_item S D1 D2 hz (fun Q' k => word_free hz hu k fun T oT e hT => absurd ⟨T, oT, e, hT⟩ c) hTI hTO st1 st2 l1 l2 fun x y h' tk px py z' o' q1 q2 hp sz kp => ?_
    exact hQ x y h' tk _ false px py z' (.inr ⟨_, rfl⟩) ⟨x, y, o'⟩ q1 q2 hp sz kp
/-- the pair is free: no more -/
theorem freed_end {Q : Fin → Shared → Prop} (S : ZipSep2 z TI TO i1 i2 fp1 fp2) (D1 : Draws prog w A i1 fp1 n1 P1 St1) (D2 : Draws prog w A i2 fp2 n2 P2 St2) (hz : ZAny s.heap z TI TO u f)
    (hF : ∀ Q' : Bool → Shared → Prop, Q' true s → wpAny (model prog w) A (Builtin.SmallTypes.ownedTupleIsFree (.ref z)) Q' E s) (hTI : IsTupOf2 s.heap TI (.ref i1) (.ref i2)) (hTO : IsTupOf2 s.heap TO a1 a2)
    (st1 : St1 i s.heap) (st2 : St2 i s.heap) (l1 : i ≤ n1) (l2 : i ≤ n2) (hend : i = n1 ∨ i = n2)
    (hE : ∀ h' tk e, (∀ c o, c ≠ z → c ≠ TO → c ≠ i1 → c ≠ i2 → s.heap.get? c = some o → h'.get? c = some o) → (∃ o, h'.get? e = some o ∧ o.cls = .type "StopIteration") → E (.ref e) { s with heap := h', toks := tk }) :
    wpAny (model prog w) A (Builtin.«zip.__next__» ⟨[.ref z], []⟩) Q E s := by
  obtain ⟨m0, gg, dd, t0, os⟩ := s
  show wpAny _ _ (field (Value.ref z) 2 >>= _) _ _ _
  refine wpAny_bind (wpAny_field (x := .bool false) hz rfl rfl ?_)
  show wpAny _ _ (field (Value.ref z) 3 >>= _) _ _ _
  refine wpAny_bind (wpAny_field (x := .ref TI) hz rfl rfl (wpAny_bind (wpAny_seqItems hTI rfl ?_)))
  show wpAny _ _ (Builtin.SmallTypes.ownedTupleIsFree (Value.ref z) >>= _) _ _ _
  refine wpAny_bind (hF _ ?_)
  rw [if_pos rfl]
  refine wpAny_bind (wpAny_rule (wpAny_bind (wpAny_field (x := .ref TO) hz rfl rfl (wpAny_bind (wpAny_setField_rec hz (by simp) fun m1 y1 k1 => ?_)))))
  replace y1 : ZAny m1 z TI TO .ellipsis f := y1
  replace k1 : Heap.SameBut z m0 m1 := k1
  simp only [List.zipIdx_cons, List.zipIdx_nil, List.forIn_cons, List.forIn_nil]
  refine wpAny_bind (wpAny_bind (wpAny_bind (wpAny_onRaise ?_)))
  show wpAny _ _ (Builtin.SmallTypes.nextOf (Value.ref i1) >>= _) _ _ ⟨m1, gg, dd, t0, os⟩
  by_cases c1 : i = n1
  · refine wpAny_bind (D1.done ⟨m1, gg, dd, t0, os⟩ _ _ (by rw [← c1]; exact D1.over st1 k1 S.zf1) fun m2 e k2 he => ?_)
    replace k2 : Heap.ExtBut i1 m1 m2 := k2
    obtain ⟨oe, ge, ce⟩ := he
    replace ge : m2.get? e = some oe := ge
    have y2 : ZAny m2 z TI TO .ellipsis f := k2 _ _ S.zi1 y1
    have ne : e ≠ z := fun q => by subst q; rw [y2] at ge; cases ge; simp at ce
    refine wpAny_setField_rec (s := ⟨m2, gg, dd, t0, os⟩) y2 (by simp) fun m3 _ k3 => ?_
    replace k3 : Heap.SameBut z m2 m3 := k3
    exact hE m3 t0 e (fun c o e1 e2 e3 e4 q => k3.extBut _ _ e1 (k2 _ _ e3 (k1.extBut _ _ e1 q))) ⟨oe, k3.extBut _ _ ne ge, ce⟩
  · have c2 : i = n2 := hend.resolve_left c1
    refine wpAny_bind (D1.item i _ _ _ (by omega) (D1.over st1 k1 S.zf1) fun x m2 t2 px sx k2 => wpAny_pure ?_)
    replace k2 : Heap.SameBut i1 m1 m2 := k2
    have U1 : IsTupOf2 m2 TO a1 a2 := k2.extBut _ _ S.Ti1 (k1.extBut _ _ S.TOz hTO)
    refine wpAny_bind (wpAny_seqItems (s := ⟨m2, gg, dd, t2, os⟩) U1 rfl (wpAny_bind (updateSeq_IsTupOf2 (s := ⟨m2, gg, dd, t2, os⟩) U1 fun m3 U2 k3 => ?_)))
    replace k3 : Heap.SameBut TO m2 m3 := k3
    refine wpAny_bind (wpAny_letGo (wpAny_pure (wpAny_bind (wpAny_bind (wpAny_onRaise ?_)))))
    show wpAny _ _ (Builtin.SmallTypes.nextOf (Value.ref i2) >>= _) _ _ ⟨m3, gg, dd, t2, os⟩
    refine wpAny_bind (D2.done ⟨m3, gg, dd, t2, os⟩ _ _ (by rw [← c2]; exact D2.over (D2.over (D2.over st2 k1 S.zf2) k2 S.sep1_2) k3 S.Tf2) fun m4 e k4 he => ?_)
    replace k4 : Heap.ExtBut i2 m3 m4 := k4
    obtain ⟨oe, ge, ce⟩ := he
    replace ge : m4.get? e = some oe := ge
    have y4 : ZAny m4 z TI TO .ellipsis f := k4 _ _ S.zi2 (k3.extBut _ _ S.TOz.symm (k2.extBut _ _ S.zi1 y1))
    have ne : e ≠ z := fun q => by subst q; rw [y4] at ge; cases ge; simp at ce
    refine wpAny_setField_rec (s := ⟨m4, gg, dd, t2, os⟩) y4 (by simp) fun m5 _ k5 => ?_
    replace k5 : Heap.SameBut z m4 m5 := k5
    exact hE m5 t2 e (fun c o e1 e2 e3 e4 q => k5.extBut _ _ e1 (k4 _ _ e4 (k3.extBut _ _ e2 (k2.extBut _ _ e3 (k1.extBut _ _ e1 q))))) ⟨oe, k5.extBut _ _ ne ge, ce⟩
theorem any_end {Q : Fin → Shared → Prop} (S : ZipSep2 z TI TO i1 i2 fp1 fp2) (D1 : Draws prog w A i1 fp1 n1 P1 St1) (D2 : Draws prog w A i2 fp2 n2 P2 St2) (hz : ZAny s.heap z TI TO u f) (hu : ZWord u)
    (hTI : IsTupOf2 s.heap TI (.ref i1) (.ref i2)) (hTO : IsTupOf2 s.heap TO a1 a2) (st1 : St1 i s.heap) (st2 : St2 i s.heap) (l1 : i ≤ n1) (l2 : i ≤ n2) (hend : i = n1 ∨ i = n2)
    (hE : ∀ h' tk e, (∀ c o, c ≠ z → c ≠ TO → c ≠ i1 → c ≠ i2 → s.heap.get? c = some o → h'.get? c = some o) → (∃ o, h'.get? e = some o ∧ o.cls = .type "StopIteration") → E (.ref e) { s with heap := h', toks := tk }) :
    wpAny (model prog w) A (Builtin.«zip.__next__» ⟨[.ref z], []⟩) Q E s := by
  by_cases c : ∃ (T : Addr) (oT : Obj), u = rawInt T ∧ s.heap.get? T = some oT
  · obtain ⟨T, oT, e, hT⟩ := c
    subst e
    exact held_end S D1 D2 hz hT hTI st1 st2 l1 l2 hend fun h' tk e kp he => hE h' tk e (fun c o e1 _ e3 e4 q => kp c o e1 e3 e4 q) he
  · exact freed_end S D1 D2 hz (fun Q' k => word_free hz hu k fun T oT e hT => absurd ⟨T, oT, e, hT⟩ c) hTI hTO st1 st2 l1 l2 hend hE
/-- the step as enumerate takes it -/
theorem any_nextOf {Q : Value → Shared → Prop} (S : ZipSep2 z TI TO i1 i2 fp1 fp2) (D1 : Draws prog w A.in1 i1 fp1 n1 P1 St1) (D2 : Draws prog w A.in1 i2 fp2 n2 P2 St2) (hz : ZAny s.heap z TI TO u f) (hu : ZWord u)
    (hTI : IsTupOf2 s.heap TI (.ref i1) (.ref i2)) (hTO : IsTupOf2 s.heap TO a1 a2) (st1 : St1 i s.heap) (st2 : St2 i s.heap) (l1 : i < n1) (l2 : i < n2)
    (hQ : ∀ x y h' tk u' f', P1 i x → P2 i y → ZAny h' z TI TO u' f' → ZWord u' → (∃ b1 b2, IsTupOf2 h' TO b1 b2) → St1 (i + 1) h' → St2 (i + 1) h' → IsTupOf2 h' s.heap.objs.size x y → h'.objs.size = s.heap.objs.size + 1 →
      (∀ c o, c ≠ z → c ≠ TO → c ≠ i1 → c ≠ i2 → s.heap.get? c = some o → h'.get? c = some o) → Q (.ref s.heap.objs.size) { s with heap := h', toks := tk }) :
    wpAny (model prog w) A (Builtin.SmallTypes.nextOf (.ref z)) Q E s := by
  have ty : s.TypeIs (.ref z) "zip" := ⟨_, hz, rfl⟩
  unfold Builtin.SmallTypes.nextOf
  exact wpAny_bind (wpAny_callSpecial?_slot (name := Str.ofString "__next__") ty F.slot_zip_next (wpAny_call_entry F.slot_zip_next ty F.entry_zip_next
    (any_item S D1 D2 hz hu hTI hTO st1 st2 l1 l2 fun x y h' tk u' f' p1 p2 q1 q2 q3 q4 q5 q6 q7 q8 => wpAny_pure ((hQ x y h' tk u' f' p1 p2 q1 q2 q3 q4 q5 q6 q7 q8))) (F.args_zip_next_1 _)))
theorem any_nextEnd {Q : Value → Shared → Prop} (S : ZipSep2 z TI TO i1 i2 fp1 fp2) (D1 : Draws prog w A.in1 i1 fp1 n1 P1 St1) (D2 : Draws prog w A.in1 i2 fp2 n2 P2 St2) (hz : ZAny s.heap z TI TO u f) (hu : ZWord u)
    (hTI : IsTupOf2 s.heap TI (.ref i1) (.ref i2)) (hTO : IsTupOf2 s.heap TO a1 a2) (st1 : St1 i s.heap) (st2 : St2 i s.heap) (l1 : i ≤ n1) (l2 : i ≤ n2) (hend : i = n1 ∨ i = n2)
    (hE : ∀ h' tk e, (∀ c o, c ≠ z → c ≠ TO → c ≠ i1 → c ≠ i2 → s.heap.get? c = some o → h'.get? c = some o) → (∃ o, h'.get? e = some o ∧ o.cls = .type "StopIteration") → E (.ref e) { s with heap := h', toks := tk }) :
    wpAny (model prog w) A (Builtin.SmallTypes.nextOf (.ref z)) Q E s := by
  have ty : s.TypeIs (.ref z) "zip" := ⟨_, hz, rfl⟩
  unfold Builtin.SmallTypes.nextOf
  exact wpAny_bind (wpAny_callSpecial?_slot (name := Str.ofString "__next__") ty F.slot_zip_next (wpAny_call_entry F.slot_zip_next ty F.entry_zip_next
    (any_end S D1 D2 hz hu hTI hTO st1 st2 l1 l2 hend hE) (F.args_zip_next_1 _)))
end
end Dl
set_option Elab.async false
set_option linter.all false
set_option maxRecDepth 100000
namespace Dl
open PySem PySem.Spec PyProof.Rows L2

/-! ### enumerate over an iterator that makes new things -/
section
variable {prog : Program} {w : World} {A : Around} {E : Value → Shared → Prop} {s : Shared}
theorem enum_over {e it : Addr} {c : Int} {old : Value} {Q : Value → Shared → Prop} (R : Value → Heap → Prop) (he : IsEnum s.heap e it c old)
    (hI : ∀ Q' : Value → Shared → Prop, (∀ x h1 tk, R x h1 → IsEnum h1 e it c old → Q' x { s with heap := h1, toks := tk }) → wpAny (model prog w) A (Builtin.SmallTypes.nextOf (.ref it)) Q' E s)
    (hQ : ∀ x h1 h' tk, R x h1 → IsEnumOut h' e it (c + 1) x h1.objs.size → h'.get? h1.objs.size = some { cls := .type "tuple", data := .seq #[.int c tk, x] } → h'.objs.size = h1.objs.size + 1 →
      (∀ b o, b ≠ e → h1.get? b = some o → h'.get? b = some o) → Q (.ref h1.objs.size) { s with heap := h', toks := tk + 1 }) :
    wpAny (model prog w) A (Builtin.«enumerate.__next__» ⟨[.ref e], []⟩) (fun fin s' => ∃ v, fin = .done (.ret v) ∧ Q v s') E s := by
  obtain ⟨m0, gg, dd, t0, os⟩ := s
  show wpAny _ _ (field (Value.ref e) 2 >>= _) _ _ _
  refine wpAny_bind (wpAny_field (x := .ref it) he rfl rfl (wpAny_bind (hI _ fun x m1 tk px y1 => ?_)))
  replace y1 : IsEnum m1 e it c old := y1
  show wpAny _ _ (field (Value.ref e) 3 >>= _) _ _ ⟨m1, gg, dd, tk, os⟩
  refine wpAny_bind (wpAny_field (x := rawInt c) y1 rfl rfl ?_)
  show wpAny _ _ (field (Value.ref e) 4 >>= _) _ _ ⟨m1, gg, dd, tk, os⟩
  refine wpAny_bind (wpAny_field (x := .none) y1 rfl rfl ?_)
  show wpAny _ _ (mkInt c >>= _) _ _ ⟨m1, gg, dd, tk, os⟩
  refine wpAny_bind (wpAny_mkInt ?_)
  show wpAny _ _ (setField (Value.ref e) 3 (rawInt (c + 1)) >>= _) _ _ ⟨m1, gg, dd, tk + 1, os⟩
  refine wpAny_bind (wpAny_setField_rec y1 (by simp) fun m2 y2 k2 => ?_)
  replace k2 : Heap.SameBut e m1 m2 := k2
  replace y2 : IsEnum m2 e it (c + 1) old := y2
  show wpAny _ _ (setField (Value.ref e) 4 .none >>= _) _ _ ⟨m2, gg, dd, tk + 1, os⟩
  refine wpAny_bind (wpAny_setField_rec y2 (by simp) fun m3 y3 k3 => ?_)
  replace k3 : Heap.SameBut e m2 m3 := k3
  replace y3 : IsEnum m3 e it (c + 1) old := y3
  show wpAny _ _ (newTuple [.int c tk, x] >>= _) _ _ ⟨m3, gg, dd, tk + 1, os⟩
  refine wpAny_bind (wpAny_newTuple ?_)
  have y4 : IsEnum (m3.push { cls := .type "tuple", data := .seq #[.int c tk, x] }) e it (c + 1) old := Heap.get?_push_of_some _ y3
  generalize g4 : m3.push { cls := .type "tuple", data := .seq #[.int c tk, x] } = m4 at y4
  have sz : m3.objs.size = m1.objs.size := by rw [k3.1, k2.1]
  have el : e < m1.objs.size := Heap.lt_size y1
  have T4 : m4.get? m1.objs.size = some { cls := .type "tuple", data := .seq #[.int c tk, x] } := by rw [← g4, ← sz]; exact Heap.get?_push_size _ rfl
  have z4 : m4.objs.size = m1.objs.size + 1 := by rw [← g4, Heap.size_push, sz]
  have kk : ∀ b o, b ≠ e → m1.get? b = some o → m4.get? b = some o := fun b o ne q => by
    rw [← g4]; exact Heap.get?_push_of_some _ (k3.extBut b o ne (k2.extBut b o ne q))
  show wpAny _ _ (Builtin.SmallTypes.ownedTupleIsFree (Value.ref e) >>= _) _ _ ⟨m4, gg, dd, tk + 1, os⟩
  rw [sz]
  clear g4 y3 k3 y2 k2 sz m3 m2
  unfold Builtin.SmallTypes.ownedTupleIsFree
  refine wpAny_bind (wpAny_bind (wpAny_field (x := .none) y4 rfl rfl (wpAny_pure ?_)))
  rw [if_pos rfl]
  refine wpAny_bind (wpAny_rule (wpAny_bind (wpAny_field (x := old) y4 rfl rfl (wpAny_bind (wpAny_setField_rec y4 (by simp) fun m5 y5 k5 => ?_)))))
  replace k5 : Heap.SameBut e m4 m5 := k5
  replace y5 : IsEnum m5 e it (c + 1) x := y5
  show wpAny _ _ (Builtin.SmallTypes.ownedTupleHandOut (Value.ref e) (.ref m1.objs.size) >>= _) _ _ ⟨m5, gg, dd, tk + 1, os⟩
  unfold Builtin.SmallTypes.ownedTupleHandOut
  refine wpAny_bind (wpAny_bind (wpAny_setField_rec y5 (by simp) fun m6 y6 k6 => ?_))
  replace k6 : Heap.SameBut e m5 m6 := k6
  replace y6 : IsEnumOut m6 e it (c + 1) x m1.objs.size := y6
  refine wpAny_setField_rec y6 (by simp) fun m7 y7 k7 => ?_
  replace k7 : Heap.SameBut e m6 m7 := k7
  replace y7 : IsEnumOut m7 e it (c + 1) x m1.objs.size := y7
  refine wpAny_bind (wpAny_letGo (wpAny_pure ⟨_, rfl, hQ x m1 m7 tk px y7 ?_ ?_ ?_⟩))
  · exact k7.extBut _ _ (Nat.ne_of_gt el) (k6.extBut _ _ (Nat.ne_of_gt el) (k5.extBut _ _ (Nat.ne_of_gt el) T4))
  · rw [k7.1, k6.1, k5.1, z4]
  · exact fun b o ne q => k7.extBut b o ne (k6.extBut b o ne (k5.extBut b o ne (kk b o ne q)))
theorem enum_pyNext {e it : Addr} {c : Int} {old : Value} {Q : Option Value → Shared → Prop} (R : Value → Heap → Prop) (he : IsEnum s.heap e it c old)
    (hI : ∀ Q' : Value → Shared → Prop, (∀ x h1 tk, R x h1 → IsEnum h1 e it c old → Q' x { s with heap := h1, toks := tk }) → wpAny (model prog w) A.in1 (Builtin.SmallTypes.nextOf (.ref it)) Q' (fun _ _ => False) s)
    (hQ : ∀ x h1 h' tk, R x h1 → IsEnumOut h' e it (c + 1) x h1.objs.size → h'.get? h1.objs.size = some { cls := .type "tuple", data := .seq #[.int c tk, x] } → h'.objs.size = h1.objs.size + 1 →
      (∀ b o, b ≠ e → h1.get? b = some o → h'.get? b = some o) → Q (some (.ref h1.objs.size)) { s with heap := h', toks := tk + 1 }) :
    wpAny (model prog w) A (pyNext (.ref e)) Q E s := by
  have ty : s.TypeIs (.ref e) "enumerate" := ⟨_, he, rfl⟩
  unfold pyNext
  refine wpAny_bind (wpAny_attempt (wpAny_callSpecial?_slot (name := Str.ofString "__next__") ty F.slot_enumerate_next (wpAny_call_entry F.slot_enumerate_next ty F.entry_enumerate_next ?_ (F.args_enumerate_next_1 _))))
  exact enum_over R he (fun Q' k => wpAny_mono (hI Q' k) (fun _ _ q => q) fun _ _ q => q.elim) fun x h1 h' tk a b d g k => wpAny_pure (hQ x h1 h' tk a b d g k)
theorem enum_pyStop {e it : Addr} {c : Int} {old : Value} {Q : Option Value → Shared → Prop} (he : IsEnum s.heap e it c old)
    (hI : ∀ E' : Value → Shared → Prop, (∀ x h' tk, (∃ o, h'.get? x = some o ∧ o.cls = .type "StopIteration") → Q none { s with heap := h', toks := tk } → E' (.ref x) { s with heap := h', toks := tk }) → ∀ Q', wpAny (model prog w) A.in1 (Builtin.SmallTypes.nextOf (.ref it)) Q' E' s) :
    wpAny (model prog w) A (pyNext (.ref e)) Q E s := by
  have ty : s.TypeIs (.ref e) "enumerate" := ⟨_, he, rfl⟩
  unfold pyNext
  refine wpAny_bind (wpAny_attempt (wpAny_callSpecial?_slot (name := Str.ofString "__next__") ty F.slot_enumerate_next (wpAny_call_entry F.slot_enumerate_next ty F.entry_enumerate_next ?_ (F.args_enumerate_next_1 _))))
  show wpAny _ _ (field (Value.ref e) 2 >>= _) _ _ _
  refine wpAny_bind (wpAny_field (x := .ref it) he rfl rfl (wpAny_bind (hI _ (fun x h' tk hx q => ?_) _)))
  obtain ⟨o, ho, hc⟩ := hx
  exact wpAny_bind (wpAny_isInstance (T := "StopIteration") (b := true) ⟨o, ho, hc⟩ isSubtype_stop (wpAny_pure q))
end
end Dl
set_option Elab.async false
set_option linter.all false
set_option maxRecDepth 100000
namespace Dl
open PySem PySem.Spec PyProof.Rows L2

/-! ### enumerate(zip(a, b)) -/
def ItEZ (K : PySem.W.Frag) (t1 t2 : Bool) (a b : Addr) : It :=
  ⟨fun i H => ∃ (xs ys : List V) (x y : V), Sq t1 K H a xs ∧ Sq t2 K H b ys ∧ xs[i]? = some x ∧ ys[i]? = some y,
    fun i H v H' => ∃ T U x y, v = .ref U ∧ H T = none ∧ H U = none ∧ T ≠ U ∧ H' = upd (upd H T (.tup [x, y])) U (.tup [.int (i : Nat), .ref T]) ∧ (∀ xs, Sq t1 K H a xs → xs[i]? = some x) ∧ ∀ ys, Sq t2 K H b ys → ys[i]? = some y,
    fun i H => ∃ xs ys : List V, Sq t1 K H a xs ∧ Sq t2 K H b ys ∧ i = min xs.length ys.length⟩
def EZ (t1 t2 : Bool) (a b e z TI TO i1 i2 : Addr) (i : Nat) (h : Heap) : Prop :=
  (∃ old, IsEnum h e z ((0 : Int) + ((i : Nat) : Int)) old) ∧ (∃ u f, ZAny h z TI TO u f ∧ ZWord u) ∧ IsTupOf2 h TI (.ref i1) (.ref i2) ∧ (∃ x y, IsTupOf2 h TO x y) ∧ IterAt t1 h i1 a i ∧ IterAt t2 h i2 b i
theorem turnEZ {P : Program} {w : World} {K : PySem.W.Frag} {elts : List Expr} {kk : Nat} {tpos : Pos} {t1 t2 : Bool} {a b e z TI TO i1 i2 : Addr} (S : ZipSep2 z TI TO i1 i2 [i1, a] [i2, b]) (hai : a ≠ i1) (hbi : b ≠ i2)
    (ez : e ≠ z) (eTI : e ≠ TI) (eTO : e ≠ TO) (e1 : e ≠ i1) (e2 : e ≠ i2) (ea : e ≠ a) (eb : e ≠ b) :
    Turn P w K (.Tuple elts kk tpos) (ItEZ K t1 t2 a b) [e, z, TI, TO, i1, i2] e (EZ t1 t2 a b e z TI TO i1 i2) where
  mem := by simp
  obj := fun i h st c hc => by
    obtain ⟨⟨old, he⟩, ⟨u, f, hz, _⟩, hTI, ⟨x, y, hTO⟩, h1, h2⟩ := st
    have e' : c = e ∨ c = z ∨ c = TI ∨ c = TO ∨ c = i1 ∨ c = i2 := by simpa using hc
    rcases e' with q | q | q | q | q | q
    · rw [q]; exact ⟨_, he, fun v q => nomatch q⟩
    · rw [q]; exact ⟨_, hz, fun v q => nomatch q⟩
    · rw [q]; exact ⟨_, hTI, fun v q => nomatch q⟩
    · rw [q]; exact ⟨_, hTO, fun v q => nomatch q⟩
    · rw [q]; exact h1.obj
    · rw [q]; exact h2.obj
  keep := fun i h h' st k => by
    obtain ⟨⟨old, he⟩, ⟨u, f, hz, hu⟩, hTI, ⟨x, y, hTO⟩, h1, h2⟩ := st
    exact ⟨⟨old, k e (by simp) _ he⟩, ⟨u, f, k z (by simp) _ hz, hu⟩, k TI (by simp) _ hTI, ⟨x, y, k TO (by simp) _ hTO⟩, h1.at fun o q => k i1 (by simp) o q, h2.at fun o q => k i2 (by simp) o q⟩
  item := by
    intro X hP hw hK hc i pins s σ H E I hf st hg
    subst hP hw hK
    obtain ⟨⟨old, he⟩, ⟨u, f, hz, hu⟩, hTI, ⟨x0, y0, hTO⟩, h1, h2⟩ := st
    obtain ⟨xs, ys, x, y, hqx, hqy, hx, hy⟩ := hg
    obtain ⟨its, rv, p, _⟩ := invSq I hqx
    obtain ⟨its2, rv2, p2, _⟩ := invSq I hqy
    obtain ⟨v1, hu1, ru⟩ := rv.get hx
    obtain ⟨v2, hu2, ru2⟩ := rv2.get hy
    have hzl : z < s.heap.objs.size := Heap.lt_size hz
    have hel : e < s.heap.objs.size := Heap.lt_size he
    have l1 : i < its.toArray.size := by
      have := (List.getElem?_eq_some_iff.mp hu1).1
      simpa using this
    have l2 : i < its2.toArray.size := by
      have := (List.getElem?_eq_some_iff.mp hu2).1
      simpa using this
    have hh : X.A.in1.in1.handled = none := I.ok.hd hc
    refine enum_pyNext (fun q h' => q = .ref s.heap.objs.size ∧ (∃ u f, ZAny h' z TI TO u f ∧ ZWord u) ∧ (∃ b1 b2, IsTupOf2 h' TO b1 b2) ∧ IterAt t1 h' i1 a (i + 1) ∧ IterAt t2 h' i2 b (i + 1) ∧ IsTupOf2 h' s.heap.objs.size v1 v2 ∧ h'.objs.size = s.heap.objs.size + 1 ∧
      ∀ c o, c ≠ z → c ≠ TO → c ≠ i1 → c ≠ i2 → s.heap.get? c = some o → h'.get? c = some o) he (fun Q' k => ?_) fun q m1 m2 tk R ho hT hsz hk => ?_
    · refine any_nextOf S (drawsX hh t1 i1 a hai its.toArray) (drawsX hh t2 i2 b hbi its2.toArray) hz hu hTI hTO ⟨h1, p⟩ ⟨h2, p2⟩ l1 l2 fun w1 w2 h' tk u' f' c1 c2 z' wz TO' n1 n2 hT hsz hk => ?_
      have d1 : w1 = v1 := by
        have : its[i]? = some w1 := by simpa using c1
        rw [hu1] at this; exact (Option.some.inj this).symm
      have d2 : w2 = v2 := by
        have : its2[i]? = some w2 := by simpa using c2
        rw [hu2] at this; exact (Option.some.inj this).symm
      subst d1 d2
      exact k _ h' tk ⟨rfl, ⟨u', f', z', wz⟩, TO', n1.1, n2.1, hT, hsz, hk⟩ (hk e _ ez eTO e1 e2 he)
    · obtain ⟨rfl, ⟨u', f', z', wz⟩, ⟨b1, b2, TO'⟩, n1, n2, hT1, sz1, hk1⟩ := R
      have new : ObjOk X.prog X.w (upd H s.heap.objs.size (.tup [x, y])) m1 s.heap.objs.size (.tup [x, y]) :=
        ⟨by show 2 ≤ sizeLine; decide, [v1, v2], .cons ru (.cons ru2 .nil), ⟨_, hT1, rfl, _, rfl⟩⟩
      have hf1 : ∀ c ∈ [z, TI, TO, i1, i2], FpOk X pins H c := fun c hc => hf c (List.mem_cons_of_mem _ hc)
      have J1 : Inv X pins σ (upd H s.heap.objs.size (.tup [x, y])) { s with heap := m1, toks := tk } :=
        I.turnedNew (t' := tk) (ch := [z, TI, TO, i1, i2]) (fun c o hb q => hk1 c o (fun q' => hb (by simp [q'])) (fun q' => hb (by simp [q'])) (fun q' => hb (by simp [q'])) (fun q' => hb (by simp [q'])) q) hf1 (Nat.le_refl _) new
      refine ⟨_, rfl, wpAny_letOwnedTupleGo_enum (s := { s with heap := m2, toks := tk + 1 }) ho fun m3 en3 sb => ?_⟩
      have lN : ∀ {c : Addr}, c < s.heap.objs.size → c ≠ m1.objs.size ∧ c ≠ s.heap.objs.size := fun h => ⟨Nat.ne_of_lt (by rw [sz1]; exact Nat.lt_succ_of_lt h), Nat.ne_of_lt h⟩
      have keep3 : ∀ c o, c ≠ e → m1.get? c = some o → m3.get? c = some o := fun c o ne q => (sb.2 _ ne).trans (hk c o ne q)
      have eN : m1.objs.size ≠ e := Ne.symm (lN hel).1
      have hT3 : m3.get? m1.objs.size = some { cls := .type "tuple", data := .seq #[.int (0 + (i : Int)) tk, .ref s.heap.objs.size] } := (sb.2 _ eN).trans hT
      have i0 : (0 : Int) + (i : Int) = (i : Int) := by omega
      have new2 : ObjOk X.prog X.w (upd (upd H s.heap.objs.size (.tup [x, y])) m1.objs.size (.tup [.int (i : Nat), .ref s.heap.objs.size])) m3 m1.objs.size (.tup [.int (i : Nat), .ref s.heap.objs.size]) :=
        ⟨by show 2 ≤ sizeLine; decide, [.int (0 + (i : Int)) tk, .ref s.heap.objs.size], .cons ⟨tk, by rw [i0]⟩ (.cons rfl .nil), ⟨_, hT3, rfl, _, rfl⟩⟩
      have J2 := J1.turnedNew (t' := tk + 1) (h' := m3) (ch := [e]) (fun c o hb q => keep3 c o (fun q' => hb (by simp [q'])) q) (fun c hc => by
        rw [List.mem_singleton.mp hc]
        obtain ⟨f0, f1, f2, f3, f4, f5⟩ := hf e (by simp)
        exact ⟨by rw [upd_ne (lN hel).2]; exact f0, f1, f2, f3, f4, f5⟩) (Nat.le_refl _) new2
      refine ⟨.ref m1.objs.size, _, J2, rfl, ⟨s.heap.objs.size, m1.objs.size, x, y, rfl, I.hok.fresh (Nat.le_refl _), I.hok.fresh (by rw [sz1]; exact Nat.le_succ _), Nat.ne_of_lt (by rw [sz1]; exact Nat.lt_succ_self _), rfl,
        fun l hl => by rw [sqInj I hl hqx]; exact hx, fun l hl => by rw [sqInj I hl hqy]; exact hy⟩, ⟨⟨.ref s.heap.objs.size, ?_⟩, ⟨u', f', keep3 _ _ (Ne.symm ez) z', wz⟩, keep3 _ _ (Ne.symm eTI) (hk1 _ _ S.TIz S.TITO S.TIi1 S.TIi2 hTI), ⟨b1, b2, keep3 _ _ (Ne.symm eTO) TO'⟩, n1.at fun o q => keep3 _ o (Ne.symm e1) q, n2.at fun o q => keep3 _ o (Ne.symm e2) q⟩, fun c hcm => ?_⟩
      · have c1 : (0 : Int) + ((i + 1 : Nat) : Int) = 0 + (i : Int) + 1 := by omega
        rw [c1]; exact en3
      · have hlt : c < s.heap.objs.size := by
          have e' : c = e ∨ c = z ∨ c = TI ∨ c = TO ∨ c = i1 ∨ c = i2 := by simpa using hcm
          rcases e' with q | q | q | q | q | q
          · rw [q]; exact hel
          · rw [q]; exact hzl
          · rw [q]; exact Heap.lt_size hTI
          · rw [q]; exact Heap.lt_size hTO
          · rw [q]; obtain ⟨_, e1, _⟩ := h1.obj; exact Heap.lt_size e1
          · rw [q]; obtain ⟨_, e2, _⟩ := h2.obj; exact Heap.lt_size e2
        rw [upd_ne (lN hlt).1, upd_ne (lN hlt).2]
        exact (hf c hcm).1
  done := by
    intro X hP hw hK hc i pins s σ H E I hf st hg
    subst hP hw hK
    obtain ⟨⟨old, he⟩, ⟨u, f, hz, hu⟩, hTI, ⟨x0, y0, hTO⟩, h1, h2⟩ := st
    obtain ⟨xs, ys, hqx, hqy, hend⟩ := hg
    obtain ⟨its, rv, p, _⟩ := invSq I hqx
    obtain ⟨its2, rv2, p2, _⟩ := invSq I hqy
    have l1 := rv.length
    have l2 := rv2.length
    have hh : X.A.in1.in1.handled = none := I.ok.hd hc
    refine enum_pyStop he fun E' k Q' => any_nextEnd S (drawsX hh t1 i1 a hai its.toArray) (drawsX hh t2 i2 b hbi its2.toArray) hz hu hTI hTO ⟨h1, p⟩ ⟨h2, p2⟩ (by simp; omega) (by simp; omega) (by simp; omega) fun h' tk x hk hx => ?_
    exact k x h' tk hx ⟨rfl, I.turnedL (t' := tk) (ch := [e, z, TI, TO, i1, i2]) (fun c o hb q => hk c o (fun q' => hb (by simp [q'])) (fun q' => hb (by simp [q'])) (fun q' => hb (by simp [q'])) (fun q' => hb (by simp [q'])) q) hf⟩
  self := fun A i s Q E st h => by
    obtain ⟨⟨old, he⟩, _⟩ := st
    exact wpAny_pyIter_enum he h
end Dl
set_option Elab.async false
set_option linter.all false
set_option maxRecDepth 100000
namespace Dl
open PySem PySem.Spec PyProof.Rows L2

section
open Sem (wp)
/-- enumerate of what is its own iterator -/
theorem newEnum0 {a : Addr} {C : Heap → Prop} (B : ∀ (P : Program) (w : World) (A : Around) (E : Value → Shared → Prop) (Q : Value → Shared → Prop) (st : Shared), C st.heap → Q (.ref a) st → wpAny (model P w) A (pyIter (.ref a)) Q E st) :
    Meets (Builtin.«enumerate.__new__» ⟨[.type "enumerate", .ref a], []⟩) (fun _ R st => C st.heap ∧
    R (.ok (.ret (.ref st.heap.objs.size))) { st with heap := st.heap.push { cls := .type "enumerate", data := .fields #[.none, .bool false, .ref a, rawInt 0, .none, .none] } }) :=
  .of_wp fun P w A R st hyp => by
    obtain ⟨hp, gg, dd, tk, os⟩ := st
    obtain ⟨c0, hyp⟩ := hyp
    have hsub := sub_enumerate
    have q1 : ∀ {A' : Around} {E : Value → Shared → Prop} {Q : Value → Shared → Prop}, Q (.ref a) ⟨hp, gg, dd, tk, os⟩ → wpAny (model P w) A' (pyIter (.ref a)) Q E ⟨hp, gg, dd, tk, os⟩ := fun q => B P w _ _ _ ⟨hp, gg, dd, tk, os⟩ c0 q
    wp_walk using q1
    refine wpAny_stack_any fun stk => wpAny_pure ?_
    split
    · rename_i cc _ _ _ _ _
      cases (cc == Value.type "enumerate")
      all_goals
        wp_walk using q1
        exact ⟨_, rfl, hyp⟩
    · wp_walk using q1
      exact ⟨_, rfl, hyp⟩
theorem callEnum0 {P : Program} {w : World} {A : Around} {E : Value → Shared → Prop} {st : Shared} {a : Addr} {C : Heap → Prop} {Q : Value → Shared → Prop}
    (B : ∀ (P : Program) (w : World) (A : Around) (E : Value → Shared → Prop) (Q : Value → Shared → Prop) (st : Shared), C st.heap → Q (.ref a) st → wpAny (model P w) A (pyIter (.ref a)) Q E st) (c0 : C st.heap)
    (k : ∀ h', IsEnum h' st.heap.objs.size a 0 .none → (∀ b o, st.heap.get? b = some o → h'.get? b = some o) → Q (.ref st.heap.objs.size) { st with heap := h' }) :
    wpAny (model P w) A (call (.type "enumerate") [.ref a]) Q E st := by
  refine callType_new F.called_enumerate (by decide) (F.typeCall_enumerate_1 _) (F.newCall_enumerate_1 _) (fun obj => F.args_object_init_2 obj _) F.entry_enumerate_new (newEnum0 B) ⟨c0, ?_⟩
  have en := Heap.get?_push_size st.heap (o := { cls := .type "enumerate", data := .fields #[.none, .bool false, .ref a, rawInt 0, .none, .none] }) rfl
  show _ ∧ _
  exact ⟨⟨_, en, rfl⟩, k _ en fun b o x => Heap.get?_push_of_some _ x⟩
end
def iEZ (K : PySem.W.Frag) (ta : TA) : TI := fun σ H R => ta σ H fun vs H1 => ∃ (t1 t2 : Bool) (a b : Addr) (xs ys : List V), vs = [.ref a, .ref b] ∧ Sq t1 K H1 a xs ∧ Sq t2 K H1 b ys ∧ R (ItEZ K t1 t2 a b) H1
theorem pi_enumZip {X : Cx} {e e2 : Expr} {ta : TA} {p pos p2 pos2 tpos : Pos} {elts : List Expr} {kk : Nat} (hge : Gl X "enumerate") (hme : X.mg "enumerate" = none) (hg : Gl X "zip") (hm : X.mg "zip" = none) (ha : PA X [e, e2] ta)
    (hs : starEach [e, e2] X.env = (false, eval e X.env) :: starEach [e2] X.env := by rfl) (hpl : (backTo pos2 (starEach [e2] X.env)).any (·.1) = false := by rfl) :
    PI X (.Tuple elts kk tpos) (.Call (.Name "enumerate" p) [.Call (.Name "zip" p2) [e, e2] [] pos2] [] pos) (iEZ X.K ta) := by
  refine ⟨fun pins s σ H R I h => ?_⟩
  refine Call_ (ld_blt I hge hme boot_enumerate (PyProof.Rows.callWith_type1 ?_))
  show wpAny _ _ (spliced [(false, eval (.Call (.Name "zip" p2) [e, e2] [] pos2) X.env)]) _ _ s
  refine Calls.spliced_cons ?_
  refine Call_ (ld_blt I hg hm PyProof.Rows.boot_zip (PyProof.Rows.callWith_type1 (thn (ha.run pos2 pins s σ H _ I h) fun us s1 ⟨vs, H1, I1, r1, q1⟩ => ?_) hs hpl))
  obtain ⟨t1, t2, a, b, xs, ys, ex, hqx, hqy, q⟩ := q1
  subst ex
  cases r1 with
  | cons r rr =>
    cases rr with
    | cons r' rr =>
      cases rr
      cases r
      cases r'
      obtain ⟨its, rv, p1, la, zx⟩ := invSqZ I1 hqx
      obtain ⟨its2, rv2, p2, lb, zy⟩ := invSqZ I1 hqy
      refine zip_begins2 (beginsX t1 a its.toArray) (beginsX t2 b its2.toArray) p1 p2 fun h' hz hTI hTO h1 h2 hsz hk => ?_
      refine Calls.spliced_nil ?_
      refine callEnum0 (st := { s1 with heap := h' }) (a := s1.heap.objs.size + 4) (C := fun h => IsZip h (s1.heap.objs.size + 4) (s1.heap.objs.size + 2) (s1.heap.objs.size + 3) .none) (fun P w A E Q st c k => wpAny_pyIter_zip c k) hz fun h'' en kp => ?_
      refine wpAny_pyIter_enum en ?_
      have I2 : Inv X pins σ H1 { s1 with heap := h'' } := I1.kept (t' := s1.toks) fun c o e => kp c o (hk c o e)
      have big : ∀ c, c ∈ [h'.objs.size, s1.heap.objs.size + 4, s1.heap.objs.size + 2, s1.heap.objs.size + 3, s1.heap.objs.size, s1.heap.objs.size + 1] → s1.heap.objs.size ≤ c := fun c hcm => by
        have e' : c = h'.objs.size ∨ c = s1.heap.objs.size + 4 ∨ c = s1.heap.objs.size + 2 ∨ c = s1.heap.objs.size + 3 ∨ c = s1.heap.objs.size ∨ c = s1.heap.objs.size + 1 := by simpa using hcm
        rcases e' with z | z | z | z | z | z
        · rw [z, hsz]; exact Nat.le_add_right _ _
        · rw [z]; exact Nat.le_add_right _ _
        · rw [z]; exact Nat.le_add_right _ _
        · rw [z]; exact Nat.le_add_right _ _
        · rw [z]; exact Nat.le_refl _
        · rw [z]; exact Nat.le_add_right _ _
      have up : ∀ k, k ≤ 4 → h'.objs.size ≠ s1.heap.objs.size + k := fun k hk => by rw [hsz]; exact fun z => by have := Nat.add_left_cancel z; omega
      have far : ∀ c, c < s1.heap.objs.size → h'.objs.size ≠ c := fun c hc => by rw [hsz]; exact Nat.ne_of_gt (Nat.lt_of_lt_of_le hc (Nat.le_add_right _ _))
      exact ⟨h'.objs.size, [h'.objs.size, s1.heap.objs.size + 4, s1.heap.objs.size + 2, s1.heap.objs.size + 3, s1.heap.objs.size, s1.heap.objs.size + 1], _, _, H1, rfl, I2,
        turnEZ (t1 := t1) (t2 := t2) (zip_sep2 (N := s1.heap.objs.size) (fp1 := [a]) (fp2 := [b]) (by simpa using la) (by simpa using lb)) (Nat.ne_of_lt la) (Nat.ne_of_lt (Nat.lt_succ_of_lt lb)) (up 4 (by decide)) (up 2 (by decide)) (up 3 (by decide)) (up 0 (by decide)) (up 1 (by decide)) (far _ la) (far _ lb),
        ⟨⟨.none, en⟩, ⟨.none, false, kp _ _ hz, .inl rfl⟩, kp _ _ hTI, ⟨_, _, kp _ _ hTO⟩, (IterAt.new h1).at fun o q => kp _ o q, (IterAt.new h2).at fun o q => kp _ o q⟩, fun c hc => I1.fpOk (big c hc) (I1.hok.fresh (big c hc)), q⟩
variable {X : Cx}
theorem walkEZ {K : PySem.W.Frag} {F0 : Hp} {t1 t2 : Bool} {a b : Addr} {xs ys : List V} {ds es : List D} (hp : DpAll K F0 xs ds) (hq : DpAll K F0 ys es) (sa : ∀ H, Same F0 H → Sq t1 K H a xs) (sb : ∀ H, Same F0 H → Sq t2 K H b ys) : Itd K F0 (ItEZ K t1 t2 a b) (pairL 0 (zipL ds es)) := by
  have hl : (pairL 0 (zipL ds es)).length = min xs.length ys.length := by rw [pairL_len, zipL_len, dpLen hp, dpLen hq]
  refine ⟨fun i H h hi => ?_, fun H h => ⟨xs, ys, sa H h, sb H h, hl⟩, fun i F H x H' h1 h2 hi y => ?_⟩
  · rw [hl] at hi
    have e1 : i < xs.length := by omega
    have e2 : i < ys.length := by omega
    exact ⟨xs, ys, xs[i], ys[i], sa H h, sb H h, by simp [e1], by simp [e2]⟩
  · obtain ⟨T, U, u, v, rfl, nT, nU, ne, rfl, e4, e5⟩ := y
    obtain ⟨d, hd, q1⟩ := dpAtV hp (e4 _ (sa H (h1.trans h2)))
    obtain ⟨e, he, q2⟩ := dpAtV hq (e5 _ (sb H (h1.trans h2)))
    obtain ⟨F1, a1, a2, a3⟩ := newPair h2 nT (dpMono h1 _ _ q1) (dpMono h1 _ _ q2)
    obtain ⟨F2, b1, b2, b3⟩ := newPair a2 (T := U) (by rw [upd_ne (Ne.symm ne)]; exact nU) (Dp.int (i : Nat)) a1
    refine ⟨F2, _, pairL_at 0 _ i _ (zipL_at ds es i d e hd he), ?_, b2, a3.trans b3 (fun _ h => .inl h)⟩
    rw [Nat.zero_add]
    exact b1
def iEnumZip (f : Fa) : Fa := fun g => (iZipU f g).map fun p => (pairL 0 p.1, p.2)
theorem di_enumZip {a b : Expr} {p pos p2 pos2 tp : Pos} {es : List Expr} {kk : Nat} {f : Fa} (hge : Gl X "enumerate") (hme : X.mg "enumerate" = none) (hg : Gl X "zip") (hm : X.mg "zip" = none) (ha : DA X [a, b] f)
    (hs : starEach [a, b] X.env = (false, eval a X.env) :: starEach [b] X.env := by rfl) (hpl : (backTo pos2 (starEach [b] X.env)).any (·.1) = false := by rfl) :
    DI X (.Tuple es kk tp) (.Call (.Name "enumerate" p) [.Call (.Name "zip" p2) [a, b] [] pos2] [] pos) (iEnumZip f) := piMono (pi_enumZip hge hme hg hm ha hs hpl) fun s H R ⟨F, g, ds, g', r, e, k⟩ => by
  unfold iEnumZip iZipU at e
  split at e
  · rename_i d1 d2 g1 q
    cases q1 : seqD d1 with
    | none => rw [q1] at e; cases e
    | some xs =>
      rw [q1] at e
      cases q2 : seqD d2 with
      | none =>
        have e : Option.map _ ((seqD d2).map _) = some (ds, g') := e
        rw [q2] at e; cases e
      | some ys =>
        have e : Option.map _ ((seqD d2).map _) = some (ds, g') := e
        rw [q2] at e; cases e
        refine ⟨F, g, _, _, r, q, fun vs F1 H1 p1 r1 t1 m1 => ?_⟩
        obtain ⟨v, w, rfl, h1, h2⟩ := dpTwo p1
        obtain ⟨ta, pa, us, rfl, sa, da⟩ := sqOf h1 r1.fh q1
        obtain ⟨tb, pb, ws, rfl, sb, db⟩ := sqOf h2 r1.fh q2
        exact ⟨ta, tb, pa, pb, us, ws, rfl, sa _ r1.fh, sb _ r1.fh, k _ F1 H1 r1 t1 m1 (walkEZ da db sa sb)⟩
  · cases e
end Dl
set_option Elab.async false
set_option linter.all false
set_option maxRecDepth 100000
namespace Dl
open PySem PySem.Spec PyProof.Rows L2

/-! ### a def without arguments -/
section
variable {X : Cx} {k : Nat} {f : Addr} {fd : FuncData} {ps : List Str}
theorem dv_call0 {x : Str} {p pos : Pos} {m : List D → Option Sl} (F : FnG X.prog X.w X.K X.mg X.base k f fd ps (spP X.K 0 m)) (room : Room k X.A) (gd : X.A.guards = some []) (hg : Gl X x) (hm : X.mg x = some (.ref f)) (hk : PySem.W.keepIn X.K (.ref f) = true) (hb : Binds X.K fd ps [])
    (hdb : (x == ("__debug__" : Str)) = false := by decide) : DV X (.Call (.Name x p) [] [] pos) (eCall m aNil) :=
  peMono (t := fun s H Q => spP X.K 0 m [] H Q) ⟨fun pins st s H Q I h => wpAny_Call_Name_kw (ld_glob I hg hm (PySem.W.callWith_K0 I.kIn hk (by
    have hl : (([] : List Value) ++ ([] : List Value)).length = ps.length := F.len _ _ _ h
    have bt := hb st [] I.kIn hl
    rw [List.append_nil] at bt
    refine wpAny_call (codeAny_mono (F.run X.A X.stack st H ⟨[], []⟩ [] [] Q room gd I.env0 bt .nil h) fun res st2 hq => ?_)
    cases res with
    | error e => exact (show False from hq).elim
    | ok fl =>
      cases fl with
      | ret u => exact I.after hq
      | next => exact (show False from hq).elim
      | brk => exact (show False from hq).elim
      | cont => exact (show False from hq).elim)) hdb)⟩ fun s H Q ⟨F, g, y, g', r, e, k⟩ => by
  have e : (m []).map (fun x => (x, g)) = some (y, g') := e
  cases q2 : m [] with
  | none => rw [q2] at e; cases e
  | some z =>
    rw [q2] at e; cases e
    refine ⟨F, [], _, r.fh, .nil, rfl, q2, fun v F2 H2 hv hz ho fh t2 => ?_⟩
    exact k v F2 H2 hv (fun tg es ez => by
      obtain ⟨e1, b, e2, e3⟩ := ho tg es ez
      exact ⟨e1, b, e2, e3⟩) (r.stepN t2 fh) (Stp.refl.andN t2) Mo.refl
end
end Dl
set_option Elab.async false
set_option linter.all false
set_option maxRecDepth 100000
namespace Dl
open PySem PySem.Spec PyProof.Rows L2

/-! ### comprehensions over a list of the frame's own, which is not frozen by them -/
open Classical in
/-- as long as the slot holds just this -/
noncomputable def tOw (sl : Nat) (x : Sl) (t : Fg) : Fg := fun d g => if g[sl]? = some x then t d g else none
theorem tOw_inv {sl : Nat} {x : Sl} {t : Fg} {d : D} {g g' : G} (h : tOw sl x t d g = some g') : g[sl]? = some x ∧ t d g = some g' := by
  unfold tOw at h
  split at h
  · rename_i e
    exact ⟨e, h⟩
  · cases h
theorem tOw_of {sl : Nat} {x : Sl} {t : Fg} {d : D} {g g' : G} (e : g[sl]? = some x) (h : t d g = some g') : tOw sl x t d g = some g' := by
  unfold tOw
  rw [if_pos e, h]
open Classical in
noncomputable def vLcO (sl : Nat) (tg : Option Addr) (ds : List D) (t : Fg) (c : Ft) (f : Fe) (vs : List Nat) : Fv := fun g => if okW g vs = true then (lcGo (tOw sl (.own tg ds) t) c f vs ds (wipeG g vs)).bind fun q => if q.2[sl]? = some (.own tg ds) ∧ q.1.length ≤ 1000000 then some (.own none q.1, backG g q.2 vs) else none else none
theorem dpAtD {K : PySem.W.Frag} {F : Hp} : ∀ {vs : List V} {ds : List D} {i : Nat} {d : D}, DpAll K F vs ds → ds[i]? = some d → ∃ v, vs[i]? = some v ∧ Dp K F v d
  | _, _, i, d, .nil, h => by simp at h
  | _, _, 0, d, .cons a b, h => by
    simp at h
    subst h
    exact ⟨_, rfl, a⟩
  | _, _, i + 1, d, .cons a b, h => by
    obtain ⟨v, e, q⟩ := dpAtD b (by simpa using h)
    exact ⟨v, by simpa using e, q⟩
theorem tLc_ofO {K : PySem.W.Frag} {sl : Nat} {tg : Option Addr} {t : Fg} {ws : List Nat} {c : Ft} {f : Fe} {vs : List Nat} (hw : ∀ i ∈ ws, i ∈ vs) {s : Sg} {F H : Hp} {g g' : G} {ds : List D} {x : Sl} {Q : VK} (hg : g[sl]? = some (.own tg ds)) (hv : sl ∉ vs)
    (r : Rep K F g s H) (e : vLcO sl tg ds t c f vs g = some (x, g'))
    (k : ∀ v F' H', RepS K F' H' x (some v) → (∀ t ds, x = .own t ds → t = none ∧ ∃ a, v = .ref a ∧ H a = none) → Rep K F' g' s H' → Stp (OwnAt g s) F H F' H' → Mo g g' → Q v H') : tLc (iList K fun σ H Q => ∃ v, σ[sl]? = some (some v) ∧ Q v H) (tG K t ws) (tT K c) (tD K f) vs s H Q := by
  obtain ⟨o0, ho0, a0, xs0, eo, fa0, ha0, hp0, ht0⟩ := r.get hg
  subst eo
  unfold vLcO at e
  split at e
  · rename_i ok
    cases q2 : lcGo (tOw sl (.own tg ds) t) c f vs ds (wipeG g vs) with
    | none => rw [q2] at e; cases e
    | some p2 =>
      obtain ⟨ys, gE⟩ := p2
      rw [q2] at e
      simp only [Option.bind_some] at e
      split at e
      · rename_i hlen
        obtain ⟨hend, hlen⟩ := hlen
        cases e
        refine ⟨.ref a0, ho0, a0, rfl, ⟨xs0, .inl (.inl ha0)⟩, fun A nA => ?_⟩
        have h0A : H A = none := nA
        have at0 : ∀ {F2 H2 : Hp} {g2 : G}, Rep K F2 g2 (L2.wipe s vs) H2 → g2[sl]? = some (.own tg ds) → ∃ xs2, H2 a0 = some (.lst xs2) ∧ DpAll K F2 xs2 ds := fun {F2 H2 g2} r2 e2 => by
          obtain ⟨o2, ho2, a2, xs2, eo2, fa2, ha2, hp2, ht2⟩ := r2.get e2
          rw [wipe_out hv, ho0] at ho2
          cases ho2
          cases eo2
          exact ⟨xs2, ha2, hp2⟩
        have nOwn : ¬ OwnAt g s A := fun z => by
          obtain ⟨xs, hx, _⟩ := r.ownSome z
          rw [nA] at hx; cases hx
        -- what is true at each turn
        refine ⟨fun i m H2 => m = ds.length - i ∧ i ≤ ds.length ∧ ∃ F2 g2 acc accV rest, Rep K F2 g2 (L2.wipe s vs) H2 ∧ Same F F2 ∧ F2 A = none ∧ H2 A = some (.lst accV) ∧ DpAll K F2 accV acc ∧ Stp (OwnAt g s) F H F2 H2 ∧ Mo (wipeG g vs) g2 ∧ lcGo (tOw sl (.own tg ds) t) c f vs (ds.drop i) g2 = some (rest, gE) ∧ acc ++ rest = ys,
          ⟨ds.length, by simp, Nat.zero_le _, F, wipeG g vs, [], [], ys, (r.wipe vs).stepN (Stp.made nA) (sameMade r.fh nA), .refl _, nF r.fh nA, upd_same, .nil, Stp.made nA, Mo.refl, by rw [List.drop_zero]; exact q2, rfl⟩, ?_⟩
        rintro i m H2 ⟨rfl, hle, F2, g2, acc, accV, rest, r2, sm2, fA, hA, hac, st2, mo2, w, hsum⟩
        have nOwn2 : ∀ {g3 : G} {s3 : Sg}, (∀ b, OwnAt g3 s3 b → OwnAt g2 (L2.wipe s vs) b ∨ H2 b = none) → ¬ OwnAt g3 s3 A := fun {g3 s3} hh z => by
          rcases hh A z with z | z
          · obtain ⟨j, tg, es, e1, e2⟩ := z
            obtain ⟨es', e3⟩ := mo2 j tg es e1
            exact nOwn (ownWipe ⟨j, tg, es', e3, e2⟩)
          · rw [hA] at z; cases z
        by_cases hlt : i < ds.length
        · obtain ⟨d, hd⟩ : ∃ d, ds[i]? = some d := ⟨ds[i], List.getElem?_eq_getElem hlt⟩
          rw [dropCons hd] at w
          unfold lcGo at w
          cases q3t : tOw sl (.own tg ds) t d g2 with
          | none => rw [q3t] at w; cases w
          | some g3 =>
            rw [q3t] at w
            obtain ⟨hsl, q3⟩ := tOw_inv q3t
            obtain ⟨xs2, hx2, hp2⟩ := at0 r2 hsl
            obtain ⟨xv, hxv, hxd⟩ := dpAtD hp2 hd
            have w : (c g3).bind _ = some (rest, gE) := w
            cases q4 : c g3 with
            | none => rw [q4] at w; cases w
            | some p4 =>
              obtain ⟨cb, g4⟩ := p4
              rw [q4] at w
              refine .inr ⟨⟨xs2, xv, .inl (.inl hx2), hxv⟩, fun H5 => ∃ F2 g2 acc accV rest, Rep K F2 g2 (L2.wipe s vs) H5 ∧ Same F F2 ∧ F2 A = none ∧ H5 A = some (.lst accV) ∧ DpAll K F2 accV acc ∧ Stp (OwnAt g s) F H F2 H5 ∧ Mo (wipeG g vs) g2 ∧ lcGo (tOw sl (.own tg ds) t) c f vs (ds.drop (i + 1)) g2 = some (rest, gE) ∧ acc ++ rest = ys, fun H5 hN => ⟨ds.length - (i + 1), by omega, rfl, hlt, hN⟩, fun x H' y => ?_⟩
              obtain ⟨eH, ey⟩ := y
              replace eH := eH.symm
              subst eH
              have exv : x = xv := by
                have := ey xs2 (.inl (.inl hx2))
                rw [hxv] at this
                exact (Option.some.inj this).symm
              subst exv
              have hx := hxd
              have st : Stp Non F2 H2 F2 H2 := Stp.refl
              have r' := r2
              refine ⟨F2, g2, d, g3, r', hx, q3, fun F3 s3 H3 t3 m3 c3 => ⟨chgWipe c3 hw, F3, g3, cb, g4, t3.rep, q4, fun F4 H4 r4 st4 m4 => ?_⟩⟩
              have tr : Tr K F2 g2 (L2.wipe s vs) H2 F4 g4 s3 H4 := (Tr.trans ⟨r', st.weak fun _ z => z.elim, fun _ z => .inl z⟩ t3).trans (Tr.of r4 st4 m4)
              have moT : Mo (wipeG g vs) g4 := (mo2.trans m3).trans m4
              have keepA : ∀ {F9 H9 : Hp} {g9 : G}, Tr K F2 g2 (L2.wipe s vs) H2 F9 g9 s3 H9 → H9 A = some (.lst accV) ∧ F9 A = none := fun {F9 H9 g9} t9 => by
                have n2 : ¬ OwnAt g2 (L2.wipe s vs) A := nOwn2 fun _ z => .inl z
                refine ⟨t9.stp.keep A _ hA n2, ?_⟩
                cases z : F9 A with
                | none => rfl
                | some u =>
                  rcases t9.stp.fresh A fA (by rw [z]; simp) with z2 | z2
                  · rw [hA] at z2; cases z2
                  · exact absurd z2 n2
              have stAll : ∀ {F9 H9 : Hp} {g9 : G}, Tr K F2 g2 (L2.wipe s vs) H2 F9 g9 s3 H9 → Stp (OwnAt g s) F H F9 H9 := fun {F9 H9 g9} t9 => st2.trans t9.stp fun b z => by
                obtain ⟨j, tg, es, e1, e2⟩ := z
                obtain ⟨es', e3⟩ := mo2 j tg es e1
                exact .inl (ownWipe ⟨j, tg, es', e3, e2⟩)
              have wp : ∀ {F9 H9 : Hp} {g9 : G}, Rep K F9 g9 s3 H9 → Rep K F9 (wipeG g9 vs) (L2.wipe s vs) H9 := fun {F9 H9 g9} r9 => by
                have := r9.wipe vs
                rwa [chgWipe c3 hw] at this
              cases cb with
              | true =>
                refine iteT ?_
                have w : (f g4).bind _ = some (rest, gE) := w
                cases q5 : f g4 with
                | none => rw [q5] at w; cases w
                | some p5 =>
                  obtain ⟨yd, g5⟩ := p5
                  rw [q5] at w
                  have w : (lcGo (tOw sl (.own tg ds) t) c f vs (ds.drop (i + 1)) (wipeG g5 vs)).map _ = some (rest, gE) := w
                  cases q6 : lcGo (tOw sl (.own tg ds) t) c f vs (ds.drop (i + 1)) (wipeG g5 vs) with
                  | none => rw [q6] at w; cases w
                  | some p6 =>
                    obtain ⟨rs, g6⟩ := p6
                    rw [q6] at w
                    cases w
                    refine ⟨F4, g4, yd, g5, r4, q5, fun yv F5 H5 hy r5 st5 m5 => ?_⟩
                    have tr5 := tr.trans (Tr.of r5 st5 m5)
                    obtain ⟨hA5, fA5⟩ := keepA tr5
                    refine ⟨accV, hA5, ?_, ?_⟩
                    · rw [dpLen hac]
                      have : acc.length < ys.length := by rw [← hsum]; simp
                      exact Nat.lt_of_lt_of_le this (Nat.le_trans hlen million)
                    · obtain ⟨ra, sa⟩ := appNew (y := yv) r5 fA5 (nOwn2 tr5.own) hA5
                      refine ⟨F5, wipeG g5 vs, acc ++ [yd], accV ++ [yv], rs, wp ra, sm2.trans tr5.stp.fs, fA5, upd_same, dpApp (dpMonos tr5.stp.fs _ _ hac) (.cons hy .nil), ?_, (moT.trans m5).trans (wipeMo g5 vs), q6, by rw [← hsum]; simp⟩
                      exact (stAll tr5).trans sa fun b z => .inr (by rw [z]; exact nA)
              | false =>
                refine iteF ?_
                have w : lcGo (tOw sl (.own tg ds) t) c f vs (ds.drop (i + 1)) (wipeG g4 vs) = some (rest, gE) := w
                obtain ⟨hA5, fA5⟩ := keepA tr
                exact ⟨F4, wipeG g4 vs, acc, accV, rest, wp r4, sm2.trans tr.stp.fs, fA5, hA5, dpMonos tr.stp.fs _ _ hac, stAll tr, moT.trans (wipeMo g4 vs), w, hsum⟩
        · have hi : i = ds.length := by omega
          subst hi
          rw [List.drop_length] at w
          cases w
          obtain ⟨xs2, hx2, hp2⟩ := at0 r2 hend
          rw [List.append_nil] at hsum
          subst hsum
          refine .inl ⟨⟨xs2, .inl (.inl hx2), by rw [dpLen hp2]; exact Nat.le_refl _⟩, k (.ref A) F2 H2 ⟨A, accV, rfl, fA, hA, hac, fun b e => nomatch e⟩ (fun tg es z => ?_) (r.back r2 sm2 ok) st2 (backMo ok mo2)⟩
          cases z
          exact ⟨rfl, A, rfl, h0A⟩
      · cases e
  · cases e
end Dl
set_option Elab.async false
set_option linter.all false
set_option maxRecDepth 100000
namespace Dl
open PySem PySem.Spec PyProof.Rows L2

noncomputable def vLcN (i : Nat) (t : Fg) (c : Ft) (f : Fe) (vs : List Nat) : Fv := fun g => match g[i]? with
  | some (.own tg ds) => vLcO i tg ds t c f vs g
  | _ => vLc (iSeq (eVar i)) t c f vs g
section
variable {X : Cx}
theorem tLc_ofN {K : PySem.W.Frag} {i : Nat} {t : Fg} {ws : List Nat} {c : Ft} {f : Fe} {vs : List Nat} (hw : ∀ i ∈ ws, i ∈ vs) (hv : i ∉ vs) {s : Sg} {H : Hp} {Q : VK} (h : tV K (vLcN i t c f vs) s H Q) :
    tLc (fun s H R => iList K (fun σ H Q => ∃ v, σ[i]? = some (some v) ∧ Q v H) s H R ∨ tI K (iSeq (eVar i)) s H R) (tG K t ws) (tT K c) (tD K f) vs s H Q := by
  obtain ⟨F, g, x, g', r, e, k⟩ := h
  unfold vLcN at e
  split at e
  · rename_i tg ds hg
    exact .inl (tLc_ofO hw hg hv r e k)
  · exact .inr (tLc_of hw ⟨F, g, x, g', r, e, k⟩)
theorem dv_lcN (i : Nat) {elt tg : Expr} {x : Str} {px : Pos} {ifs : List Expr} {scope : Scope} (own : List (Str × Nat)) {pos : Pos} {t : Fg} {ws : List Nat} {c : Ft} {f : Fe} (hc : X.calm = true) (hN : X.N.Nodup) (ok : blkC X.N X.env.scope scope own = true)
    (hg : ∀ st H C cl fp, DG (Blk X scope st H C cl fp) tg t ws) (ht : ∀ st H C cl fp, DCs (Blk X scope st H C cl fp) ifs c)
    (he : ∀ st H C cl fp, DE (Blk X scope st H C cl fp) elt f) (hi : X.N[i]? = some x := by rfl) (hv : Vis X.env.scope x := by first | exact Or.inl rfl | exact Or.inr (Or.inl rfl) | exact Or.inr (Or.inr rfl)) (hd : (x == ("__debug__" : Str)) = false := by decide)
    (hcd : (x == ("__classdict__" : Str)) = false := by decide) (hn : i ∉ own.map (·.2) := by decide) (hw : ∀ i ∈ ws, i ∈ own.map (·.2) := by decide) (hs : ∀ y, foldedSetIterable (.Name x px) X.env y = pure y := by intro _; rfl) :
    DV X (.ListComp elt [⟨tg, .Name x px, ifs, 0⟩] scope pos) (vLcN i t c f (own.map (·.2))) := peMono (pe_lc (g := tG X.K t ws) (tt := tT X.K c) (te := tD X.K f) hc hN (piOr (pi_list (pe_var hi hv hd hcd)) (di_seq (de_var i hi hv hd hcd))) (blkOk_by ok) hg ht he hs) fun _ _ _ h => tLc_ofN hw hn h
/-- name = [..] on one row -/
theorem ds_setLcN (j i : Nat) {y : Str} {py : Pos} {elt tg : Expr} {x : Str} {px : Pos} {ifs : List Expr} {scope : Scope} (own : List (Str × Nat)) {pos spos : Pos} {t : Fg} {ws : List Nat} {c : Ft} {f : Fe} (hc : X.calm = true) (hN : X.N.Nodup) (ok : blkC X.N X.env.scope scope own = true)
    (hg : ∀ st H C cl fp, DG (Blk X scope st H C cl fp) tg t ws) (ht : ∀ st H C cl fp, DCs (Blk X scope st H C cl fp) ifs c)
    (he : ∀ st H C cl fp, DE (Blk X scope st H C cl fp) elt f) (hsw : swapsWith (.ListComp elt [⟨tg, .Name x px, ifs, 0⟩] scope pos) (some (.Name y py)) spos.line X.env = pure true) (hi : X.N[i]? = some x := by rfl) (hv : Vis X.env.scope x := by first | exact Or.inl rfl | exact Or.inr (Or.inl rfl) | exact Or.inr (Or.inr rfl)) (hd : (x == ("__debug__" : Str)) = false := by decide)
    (hcd : (x == ("__classdict__" : Str)) = false := by decide) (hn : i ∉ own.map (·.2) := by decide) (hy : X.N[j]? = some y := by rfl) (hyl : X.env.scope.names.lookup y = some .local := by rfl)
    (hw : ∀ i ∈ ws, i ∈ own.map (·.2) := by decide) (hs : ∀ y, foldedSetIterable (.Name x px) X.env y = pure y := by intro _; rfl) :
    DS X (.Assign [.Name y py] (.ListComp elt [⟨tg, .Name x px, ifs, 0⟩] scope pos) spos) (sSet j (vLcN i t c f (own.map (·.2)))) := psMono (ps_setLc (g := tG X.K t ws) (tt := tT X.K c) (te := tD X.K f) hc hN hy hyl hsw (piOr (pi_list (pe_var hi hv hd hcd)) (di_seq (de_var i hi hv hd hcd))) (blkOk_by ok) hg ht he hs) fun D s H ⟨F, g, o, r, e, k⟩ => by
  unfold sSet at e
  cases q : vLcN i t c f (own.map (·.2)) g with
  | none => rw [q] at e; cases e
  | some p =>
    obtain ⟨z, g1⟩ := p
    rw [q] at e
    exact tLc_ofN hw hn ⟨F, g, z, g1, r, q, fun v F1 H1 hv hn r1 t1 m1 => set_end r r1 t1 m1 hv hn e k⟩
/-- how it goes -/
theorem vLcN_own {i : Nat} {t : Fg} {c : Ft} {f : Fe} {vs : List Nat} {g g' : G} {tg : Option Addr} {ds ds' : List D} (hg : g[i]? = some (.own tg ds)) (ok : okW g vs = true) (h : lcGo (tOw i (.own tg ds) t) c f vs ds (wipeG g vs) = some (ds', g')) (he : g'[i]? = some (.own tg ds)) (hl : ds'.length ≤ 1000000) :
    vLcN i t c f vs g = some (.own none ds', backG g g' vs) := by
  unfold vLcN
  rw [hg]
  show vLcO i tg ds t c f vs g = _
  unfold vLcO
  rw [if_pos ok, h]
  simp only [Option.bind_some]
  rw [if_pos ⟨he, hl⟩]
end
end Dl
set_option Elab.async false
set_option linter.all false
set_option maxRecDepth 100000
namespace Dl
open PySem PySem.Spec PyProof.Rows L2

/-! ### a slot frozen ahead of an expression -/
def fz (i : Nat) (g : G) : G := match g[i]? with
  | some (.own none ds) => g.set i (.v (.list ds))
  | _ => g
def vFz (i : Nat) (f : Fv) : Fv := fun g => f (fz i g)
theorem dv_fz {X : Cx} (i : Nat) {a : Expr} {f : Fv} (h : DV X a f) : DV X a (vFz i f) := peMono h fun s H Q ⟨F, g, x, g', r, e, k⟩ => by
  unfold vFz fz at e
  split at e
  · rename_i ds hg
    obtain ⟨b, F', ho, dp, r2, st, mo⟩ := r.freeze hg
    refine ⟨F', _, x, g', r2, e, fun v F1 H1 hv hn r1 t1 m1 => k v F1 H1 hv (fun t es q => ?_) r1 (st.two mo t1) (mo.trans m1)⟩
    exact hn t es q
  · exact ⟨F, g, x, g', r, e, k⟩
end Dl
set_option Elab.async false
set_option linter.all false
set_option maxRecDepth 100000
namespace Dl
open PySem PySem.Spec PyProof.Rows L2
variable {X : Cx}
/-- {} -/
theorem de_dict0 {pos : Pos} : DE X (.Dict [] [] pos) (eC (.dict [])) := peMono pe_dnewT fun s H Q ⟨F, g, d, g', rp, e, k⟩ => by
  cases e
  intro p np
  exact k (.ref p) (upd F p (.dT [])) _ (.dct upd_same) (rp.stepN (Stp.laid np rp.fh) (sameLaid rp.fh np)) (Stp.andN Stp.refl (Stp.laid np rp.fh)) Mo.refl
end Dl
set_option Elab.async false
set_option linter.all false
set_option maxRecDepth 100000
set_option maxHeartbeats 4000000
namespace Dl
open PySem PySem.Spec PyProof.Rows L2
variable {X : Cx}
/-! ### a tuple so many times -/
theorem tuple_mulW1 (l : Addr) (items : Array Value) (n : Nat) (dd : Option Addr) (sl : Array (Option Value)) (x : Int) (u : Tok) (c0 : (decide (x < -(2 ^ 63)) || decide (x ≥ 2 ^ 63)) = false) (c1 : (items.isEmpty || x == 1) = true) :
    Meets (Builtin.«tuple.__mul__» ⟨[.ref l, .int x u], []⟩) (fun _ R s => s.heap.get? l = some { cls := .type "tuple", dict := dd, data := .seq items n, slots := sl } ∧ R (.ok (.ret (Value.ref l))) s) :=
  .of_wp fun prog w A R s h => by
    obtain ⟨hp, g, d, tk, os⟩ := s
    obtain ⟨hl, h⟩ := h
    have f1 := AutoSeq1.idx_int
    wp_walk using wpAny_loadPart' hl
    repeat (first
      | (refine wpAny_ite_false (decide_eq_false (by rw [c0]; exact Bool.false_ne_true)) ?_; wp_walk using wpAny_loadPart' hl)
      | (refine wpAny_ite_true (decide_eq_true c1) ?_; wp_walk using wpAny_loadPart' hl))
    exact ⟨_, rfl, h⟩
def rRep1 (K : PySem.W.Frag) : R2 := fun x y H Q => ∃ l xs k, x = .ref l ∧ y = .int k ∧ SqT K H l xs ∧ (xs = [] ∨ k = 1) ∧ 0 ≤ k ∧ k ≤ 1000 ∧ Q (.ref l) H
theorem op_rep1 : OpR X (binaryOp .Mult) (rRep1 X.K) := by
  intro pins s σ H x y v u Q I rx ry h
  obtain ⟨l, xs, k, rfl, rfl, hT, hk, k0, k1, q⟩ := h
  cases rx
  obtain ⟨t, rfl⟩ := ry
  obtain ⟨its, r, ⟨⟨cls, dd, data, sl⟩, ho, hc, n, hd⟩, hs⟩ := I.tuple hT
  simp only at hc hd
  subst hc hd
  have c0 : (decide (k < -(2 ^ 63)) || decide (k ≥ 2 ^ 63)) = false := by
    rw [decide_eq_false (by omega), decide_eq_false (by omega)] <;> rfl
  have c1 : (its.toArray.isEmpty || k == 1) = true := by
    rcases hk with e | e
    · subst e
      cases r
      rfl
    · subst e
      simp
  exact wpAny_binaryOp_repeat_ref (T := "tuple") (U := "int") (by decide) ⟨_, ho, rfl⟩ (fun s' => typeIs_int s' k t) noFill_tuple_mul F.fills_int_mul F.slot_int_rmul repeat_tuple F.slot_int_index.lookup
    (call_meets F.slot_int_rmul (typeIs_int s k t) F.entry_int_rmul (F.args_int_rmul_2 _ _) (int_rmul_tuple k t l its.toArray n dd sl)
      ⟨ho, rfl, ⟨_, ho, rfl⟩, call_meets F.slot_tuple_mul ⟨_, ho, rfl⟩ F.entry_tuple_mul (F.args_tuple_mul_2 _ _) (tuple_mulW1 l its.toArray n dd sl k t c0 c1) ⟨ho, ⟨.ref l, H, I, rfl, q⟩⟩⟩)
def repTD : D → D → Option D
  | .tuple ds, .int k => if (ds = [] ∨ k = 1) ∧ 0 ≤ k ∧ k ≤ 1000 then some (.tuple ds) else if ds ≠ [] ∧ 2 ≤ k ∧ k ≤ 1000 ∧ ds.length ≤ 1000 then some (.tuple (List.replicate k.toNat ds).flatten) else none
  | _, _ => none
theorem ok_repT : BinOk X.K (fun x y H Q => rRep1 X.K x y H Q ∨ rRepT X.K x y H Q) repTD := fun x y d1 d2 d F H Q fh p1 p2 e k => by
  unfold repTD at e
  split at e
  · rename_i ds i
    split at e
    · rename_i h1
      cases e
      cases p1 with
      | tup hs ha =>
        cases p2
        refine .inl ⟨_, _, _, rfl, rfl, Same.tupS fh hs, h1.1.imp (fun z => ?_) id, h1.2.1, h1.2.2, k _ F H (.tup hs ha) fh Stp.refl⟩
        subst z
        cases ha
        rfl
    split at e
    · rename_i hz
      cases e
      cases p1 with
      | tup hs ha =>
        cases p2
        exact .inr ⟨_, _, _, rfl, rfl, Same.tupS fh hs, fun z => hz.1 (dpNil ha z), hz.2.1, hz.2.2.1, by rw [dpLen ha]; exact hz.2.2.2, newTup fh (dpRep ha _) k⟩
    · cases e
  · cases e
theorem de_repT {a b : Expr} {pos : Pos} {fa fb : Fe} (ha : DE X a fa) (hb : DE X b fb) : DE X (.BinOp a .Mult b pos) (eBin repTD fa fb) := de_op (op_rep1.or op_repT) ok_repT ha hb
/-! ### [::-1] -/
theorem fmCongr {α β : Type} {f g : α → Option β} : ∀ (l : List α), (∀ x, x ∈ l → f x = g x) → l.filterMap f = l.filterMap g
  | [], _ => rfl
  | a :: l, h => by
    rw [List.filterMap_cons, List.filterMap_cons, h a (by simp), fmCongr l fun x hx => h x (by simp [hx])]
section
variable {prog : Program} {w : World} {A : Around} {E : Value → Shared → Prop} {s : Shared}
theorem places_rev (n : Nat) : Builtin.Slice.slicePlaces ((n : Int) - 1) (-1) (-1) = n := by
  unfold Builtin.Slice.slicePlaces
  have h1 : ¬ ((-1 : Int) > 0) := by omega
  simp only [h1, if_false]
  split
  · have : (n : Int) - 1 - -1 - 1 = n - 1 := by omega
    rw [this, show (-(-1) : Int) = 1 from rfl, Int.ediv_one]
    omega
  · omega
theorem filt_rev {α : Type} : ∀ (xs : List α), (List.range xs.length).filterMap (fun k => xs[xs.length - 1 - k]?) = xs.reverse
  | [] => rfl
  | x :: xs => by
    rw [List.length_cons, List.range_succ, List.filterMap_append, List.reverse_cons]
    congr 1
    · rw [← filt_rev xs]
      refine fmCongr _ ?_
      intro k hk
      have := List.mem_range.mp hk
      rw [show xs.length + 1 - 1 - k = (xs.length - 1 - k) + 1 from by omega]
      rfl
    · simp
theorem pick_rev (its : List Value) : ((List.range its.length).filterMap fun (m : Nat) => its.toArray[(((its.length : Int) - 1) + (m : Int) * (-1)).toNat]?).toArray = its.reverse.toArray := by
  rw [← filt_rev its]
  congr 1
  refine fmCongr _ ?_
  intro k hk
  have := List.mem_range.mp hk
  rw [show (((its.length : Int) - 1) + (k : Int) * (-1)).toNat = its.length - 1 - k from by omega]
  simp
theorem getItem_tuple_rev {t sl : Addr} {its : List Value} {tk : Tok} {Q : Value → Shared → Prop} (ht : IsTup s.heap t its.toArray) (hs : s.heap.IsSliceOf sl .none .none (.int (-1) tk))
    (h : Q (.ref s.heap.objs.size) { s with heap := s.heap.push { cls := .type "tuple", data := .seq its.reverse.toArray } })
    (hsz : its.length ≤ sizeLine) : wpAny (model prog w) A (getItem (.ref t) (.ref sl)) Q E s := by
  have htake : sizeOk (.seq its.reverse.toArray) := by
    show its.reverse.toArray.size ≤ sizeLine
    rw [List.size_toArray, List.length_reverse]
    exact hsz
  obtain ⟨os, hos, hcs, hds⟩ := id hs
  have hTs : s.TypeIs (.ref sl) "slice" := ⟨os, hos, hcs⟩
  unfold getItem
  try with_reducible refine wpAny_holding ?_
  first | refine wpAny_bind (wpAny_pure ?_) | skip
  refine wpAny_bind (wpAny_sequenceKey ht.typeIs (by decide) ?_)
  refine wpAny_bind (wpAny_callSpecial?_slot (name := Str.ofString "__getitem__") ht.typeIs PyProof.Rows.slot_tuple_getitem
    (wpAny_call_entry PyProof.Rows.slot_tuple_getitem ht.typeIs entry_tuple_getitem ?_ (args_tuple_getitem _ _)))
  show wpAny _ _ (Builtin.Tuple.tupleItemsOf (.ref t) >>= _) _ _ s
  refine wpAny_bind (tupleItemsOf_ ht ?_)
  refine wpAny_bind (wpAny_typeOf hTs ?_)
  rw [if_pos (by decide)]
  have sa : ∀ (A : Around) (Q' : Int × Int × Nat → Shared → Prop), Q' ((its.toArray.size : Int) - 1, (-1 : Int), its.length) s → wpAny (model prog w) A (Builtin.Slice.sliceApplied (.ref sl) (pure (its.toArray.size : Int))) Q' E s := fun A Q' h => by
    unfold Builtin.Slice.sliceApplied Builtin.Slice.sliceFields
    refine wpAny_bind (wpAny_bind (wpAny_field hos hds (x := .none) rfl (wpAny_bind (wpAny_field hos hds (x := .none) rfl (wpAny_bind (wpAny_field hos hds (x := .int (-1) tk) rfl (wpAny_pure ?_)))))))
    refine wpAny_bind (slicePart_int ?_)
    show wpAny _ _ (if ((-1 : Int) == 0) = true then _ else _) _ _ s
    rw [if_neg (by decide)]
    refine wpAny_bind (slicePart_none (wpAny_bind (slicePart_none (wpAny_bind (wpAny_pure ?_)))))
    show wpAny _ _ (pure (((its.toArray.size : Int) - 1 : Int), (-1 : Int), Builtin.Slice.slicePlaces ((its.toArray.size : Int) - 1) (-1) (-1))) _ _ s
    rw [places_rev, List.size_toArray]
    rw [List.size_toArray] at h
    exact wpAny_pure h
  refine wpAny_bind (sa _ _ ?_)
  have hno : ¬ ((((its.toArray.size : Int) - 1) == 0 && (-1 : Int) == 1 && its.length == its.toArray.size) = true) := by simp
  show wpAny _ _ (if (((its.toArray.size : Int) - 1) == 0 && (-1 : Int) == 1 && its.length == its.toArray.size) = true then _ else _) _ _ s
  rw [if_neg hno, List.size_toArray, pick_rev]
  first
    | exact wpAny_bind (m := Builtin.Tuple.tupleExact _) (wpAny_newObj_type (wpAny_pure ⟨_, rfl, wpAny_pure h⟩) htake)
    | exact wpAny_bind (m := Builtin.Tuple.tupleExact _) (wpAny_newObj_type (wpAny_bind (wpAny_pure (wpAny_pure ⟨_, rfl, wpAny_pure h⟩))) htake)
    | exact wpAny_bind (wpAny_bind (m := Builtin.Tuple.tupleExact _) (wpAny_newObj_type (wpAny_pure (wpAny_pure ⟨_, rfl, wpAny_pure h⟩)) htake))
    | exact wpAny_bind (wpAny_bind (m := Builtin.Tuple.tupleExact _) (wpAny_newObj_type (wpAny_pure ⟨_, rfl, wpAny_pure h⟩) htake))
end
end Dl
set_option Elab.async false
set_option linter.all false
set_option maxRecDepth 100000
set_option maxHeartbeats 4000000
namespace Dl
open PySem PySem.Spec PyProof.Rows L2
variable {X : Cx}
/-- e[::k], any e -/
def SlRv (X : Cx) (r : V → Hp → VK → Prop) : Prop :=
  ∀ (pins : List (Addr × Obj)) (s : Shared) (σ : L2.St) (H : Hp) (x : V) (v : Value) (tk : Tok) (sl : Addr) (Q : VK), Inv X pins σ H s → RelV x v → s.heap.IsSliceOf sl .none .none (.int (-1) tk) → r x H Q →
    ∃ T id, typeLookup (.type T) "__getitem__" = pure (some (.builtin id)) ∧ s.TypeIs v T ∧ wpAny (model X.prog X.w) X.A (getItem v (.ref sl)) (EP X pins σ Q) X.xe s
def tRv (r : V → Hp → VK → Prop) (te ts : TE) : TE := fun σ H Q => te σ H fun x H1 => ts σ H1 fun y H2 => y = .int (-1) ∧ r x H2 Q
theorem pe_rev {r : V → Hp → VK → Prop} {e st : Expr} {te ts : TE} {p2 pos : Pos} (hr : SlRv X r) (he : PE X e te) (hs : PE X st ts) : PE X (.Subscript e (.Slice none none (some st) p2) pos) (tRv r te ts) := by
  refine ⟨fun pins s σ H Q I h => ?_⟩
  refine Subscript_ (thn (he.run pins s σ H _ I h) fun v s1 ⟨x, H1, I1, r1, q1⟩ => ?_)
  refine wpAny_Slice ?_
  rw [evalPart_none]
  refine wpAny_pure ?_
  refine wpAny_pure ?_
  rw [evalPart_some]
  refine thn (hs.run pins s1 σ H1 _ I1 q1) fun vs s3 ⟨y, H3, I3, ry, q3⟩ => ?_
  obtain ⟨rfl, q3⟩ := q3
  obtain ⟨tk, rfl⟩ := ry
  have I4 : Inv X pins σ H3 { s3 with heap := s3.heap.push { cls := .type "slice", data := .fields #[.none, .none, .int (-1) tk] } } := I3.kept (t' := s3.toks) fun b ob q => Heap.get?_push_of_some _ q
  obtain ⟨T, id, hT, ht, hg⟩ := hr pins { s3 with heap := s3.heap.push { cls := .type "slice", data := .fields #[.none, .none, .int (-1) tk] } } σ H3 x v tk s3.heap.objs.size Q I4 r1 (Heap.IsSliceOf.new ..) q3
  show wpAny (model X.prog X.w) X.A (subscriptTail e (.Slice none none (some st) p2) v (.ref s3.heap.objs.size)) (EP X pins σ Q) X.xe { s3 with heap := s3.heap.push { cls := .type "slice", data := .fields #[.none, .none, .int (-1) tk] } }
  exact tail_any (ops := [v, .ref s3.heap.objs.size]) ht hT hg (by with_unfolding_all rfl)
def rRvT (K : PySem.W.Frag) : V → Hp → VK → Prop := fun x H Q => ∃ a xs, x = .ref a ∧ SqT K H a xs ∧ ∀ p, H p = none → Q (.ref p) (upd H p (.tup xs.reverse))
theorem rv_tup : SlRv X (rRvT X.K) := by
  intro pins s σ H x v tk sl Q I rx hs h
  obtain ⟨a, xs, rfl, hx, q⟩ := h
  cases rx
  obtain ⟨its, r, ht, hz⟩ := I.tuple hx
  have hlen := r.length
  refine ⟨"tuple", _, PyProof.Rows.slot_tuple_getitem.lookup, ht.typeIs, ?_⟩
  refine getItem_tuple_rev ht hs ?_ (by omega)
  refine ⟨.ref s.heap.objs.size, _, I.laid (t' := s.toks) (o := .tup xs.reverse) (fun b ob q => Heap.get?_push_of_some _ q) (Nat.le_refl _) ?_, rfl, q _ (I.hok.fresh (Nat.le_refl _))⟩
  exact ⟨by rw [List.length_reverse]; exact hz, _, r.reverse, IsTup.new _ _⟩
theorem pick_revL (its : List Value) : slicePick its.toArray none none (some (-1)) = its.reverse.toArray := by
  unfold slicePick
  rw [← filt_rev its]
  congr 1
  simp only [sliceBounds, sliceRange, List.size_toArray]
  have h1 : ¬ ((-1 : Int) > 0) := by omega
  simp only [h1, if_false, Option.getD_some]
  rw [List.filterMap_map]
  have hc : (if ((its.length : Int) - 1) > -1 then ((its.length : Int) - 1 - -1 - -1 - 1) / (-(-1)) else 0).toNat = its.length := by
    rw [show (-(-1) : Int) = 1 from rfl, Int.ediv_one]
    split <;> omega
  rw [hc]
  refine fmCongr _ ?_
  intro k hk
  have := List.mem_range.mp hk
  show its.toArray[((its.length : Int) - 1 + -1 * (k : Int)).toNat]? = _
  rw [show ((its.length : Int) - 1 + -1 * (k : Int)).toNat = its.length - 1 - k from by omega]
  simp
def rRvL (K : PySem.W.Frag) : V → Hp → VK → Prop := fun x H Q => ∃ a xs, x = .ref a ∧ SqL K H a xs ∧ ∀ p, H p = none → Q (.ref p) (upd H p (.lst xs.reverse))
theorem rv_lst : SlRv X (rRvL X.K) := by
  intro pins s σ H x v tk sl Q I rx hs h
  obtain ⟨a, xs, rfl, hx, q⟩ := h
  cases rx
  obtain ⟨its, r, ht, hz⟩ := I.list hx
  have hlen := r.length
  refine ⟨"list", _, slot_list_getitem.lookup, ht.isList.typeIs, ?_⟩
  refine wpAny_getItem_list_slice ht.isList hs .none .none (.int (-1) tk) (by simp) ?_ (by rw [List.size_toArray] <;> omega)
  rw [pick_revL]
  refine ⟨.ref s.heap.objs.size, _, I.laid (t' := s.toks) (o := .lst xs.reverse) (fun b ob q => Heap.get?_push_of_some _ q) (Nat.le_refl _) ?_, rfl, q _ (I.hok.fresh (Nat.le_refl _))⟩
  exact ⟨by rw [List.length_reverse]; exact hz, _, 0, r.reverse, Heap.get?_push_size _ rfl⟩
theorem SlRv.or {r r' : V → Hp → VK → Prop} (h : SlRv X r) (h' : SlRv X r') : SlRv X (fun x H Q => r x H Q ∨ r' x H Q) := by
  intro pins s σ H x v tk sl Q I rx hs q
  rcases q with q | q
  · exact h pins s σ H x v tk sl Q I rx hs q
  · exact h' pins s σ H x v tk sl Q I rx hs q
def revD : D → Option D
  | .tuple ds => some (.tuple ds.reverse)
  | .list ds => some (.list ds.reverse)
  | _ => none
theorem dpRevL {K : PySem.W.Frag} {F : Hp} {xs : List V} {ds : List D} (h : DpAll K F xs ds) : DpAll K F xs.reverse ds.reverse := by
  induction xs generalizing ds with
  | nil => cases h; exact .nil
  | cons x xs ih =>
    cases h with
    | cons h1 h2 =>
      rw [List.reverse_cons, List.reverse_cons]
      exact dpApp (ih h2) (.cons h1 .nil)
theorem de_rev {a : Expr} {p1 p2 p3 p4 : Pos} {j : Nat} {fa : Fe} (ha : DE X a fa) : DE X (.Subscript a (.Slice none none (some (.UnaryOp .USub (.Constant (.int 1) j p1) p2)) p3) p4) (eUn revD fa) := peMono (pe_rev (rv_tup.or rv_lst) ha (de_neg de_int)) fun s H Q ⟨F, g, d, g', rp, e, k⟩ => by
  obtain ⟨d1, e1, e2⟩ := eUn_inv e
  refine ⟨F, g, d1, g', rp, e1, fun v1 F1 H1 p1 r1 t1 m1 => ⟨F1, g', .int (-1), g', r1, rfl, fun v2 F2 H2 p2 r2 t2 m2 => ?_⟩⟩
  have p3 := dpMono t2.fs _ _ p1
  have tt := t1.two m1 t2
  cases p2
  refine ⟨rfl, ?_⟩
  unfold revD at e2
  split at e2
  · cases e2
    cases p3 with
    | tup hs hp => exact .inl ⟨_, _, rfl, Same.tupS r2.fh hs, newTup r2.fh (dpRevL hp) fun v F' H' hv fh st => k v F' H' hv (r2.stepN st fh) (tt.andN st) m1⟩
  · cases e2
    cases p3 with
    | lst hs hp => exact .inr ⟨_, _, rfl, r2.fh.seq hs, newLstF r2.fh (dpRevL hp) fun v F' H' hv fh st => k v F' H' hv (r2.stepN st fh) (tt.andN st) m1⟩
  · cases e2
end Dl
set_option Elab.async false
set_option linter.all false
set_option maxRecDepth 100000
set_option maxHeartbeats 4000000
namespace Dl
open PySem PySem.Spec PyProof.Rows L2
variable {X : Cx}
/-! ### list + list, of any lists that are data: a new list -/
def rCatL (K : PySem.W.Frag) : R2 := fun x y H Q => ∃ l b xs zs, x = .ref l ∧ y = .ref b ∧ SqL K H l xs ∧ SqL K H b zs ∧ xs.length + zs.length ≤ sizeLine ∧ ∀ p, H p = none → Q (.ref p) (upd H p (.lst (xs ++ zs)))
theorem op_catL : OpR X (binaryOp .Add) (rCatL X.K) := by
  intro pins s σ H x y v u Q I rx ry h
  obtain ⟨l, b, xs, zs, rfl, rfl, ha, hb, hz, q⟩ := h
  cases rx
  cases ry
  obtain ⟨its, r, ⟨⟨cls, dd, data, sl⟩, n, ho, hc, hdd, hd⟩, _⟩ := I.list ha
  obtain ⟨its2, r2, ⟨⟨cls2, dd2, data2, sl2⟩, n2, ho2, hc2, hdd2, hd2⟩, _⟩ := I.list hb
  simp only at hc hd hc2 hd2
  subst hc hd hc2 hd2
  have l1 := r.length
  have l2 := r2.length
  have e : its.toArray ++ its2.toArray = (its ++ its2).toArray := by simp
  refine concat_meets ⟨_, ho, rfl⟩ ⟨_, ho2, rfl⟩ noFill_list_add seq_list_add PySem.F.slot_list_add PySem.F.entry_list_add (PySem.F.args_list_add_2 _ _) (list_addW l b its.toArray its2.toArray n n2 dd dd2 sl sl2 (by rw [List.size_toArray, List.size_toArray]; omega)) ⟨ho, ho2, ?_⟩
  rw [e]
  refine ⟨.ref s.heap.objs.size, _, I.laid (t' := s.toks) (o := .lst (xs ++ zs)) (fun b ob q => Heap.get?_push_of_some _ q) (Nat.le_refl _) ?_, rfl, q _ (I.hok.fresh (Nat.le_refl _))⟩
  exact ⟨by rw [List.length_append]; exact hz, _, 0, r.append r2, Heap.get?_push_size _ rfl⟩
def vCatE (fa fb : Fe) : Fv := fun g => (fa g).bind fun p => (fb p.2).bind fun q => match p.1, q.1 with
  | .list xs, .list ys => if xs.length + ys.length ≤ 1000000 then some (.own none (xs ++ ys), q.2) else none
  | _, _ => none
theorem vCatE_of {fa fb : Fe} {g g1 g2 : G} {xs ys : List D} (e : fa g = some (.list xs, g1)) (e2 : fb g1 = some (.list ys, g2)) (h : xs.length + ys.length ≤ 1000000) : vCatE fa fb g = some (.own none (xs ++ ys), g2) := by
  unfold vCatE
  simp only [e, e2, Option.bind_some, h, if_true]
theorem dv_catE {a b : Expr} {pos : Pos} {fa fb : Fe} (ha : DE X a fa) (hb : DE X b fb) : DV X (.BinOp a .Add b pos) (vCatE fa fb) := peMono (pe_op op_catL ha hb) fun s H Q ⟨F, g, d, g', rp, e, k⟩ => by
  unfold vCatE at e
  cases q : fa g with
  | none => rw [q] at e; cases e
  | some p =>
    rw [q] at e
    have e : (fb p.2).bind _ = some (d, g') := e
    cases q2 : fb p.2 with
    | none => rw [q2] at e; cases e
    | some l =>
      rw [q2] at e
      obtain ⟨d1, g1⟩ := p
      obtain ⟨d2, g2⟩ := l
      simp only [Option.bind_some] at e
      split at e
      · rename_i xs ys
        split at e
        · rename_i hz
          cases e
          refine ⟨F, g, _, g1, rp, q, fun v F1 H1 p1 r1 t1 m1 => ⟨F1, g1, _, _, r1, q2, fun v2 F2 H2 p2 r2 t2 m2 => ?_⟩⟩
          have p3 := dpMono t2.fs _ _ p1
          cases p3 with
          | lst hs1 hp1 =>
            cases p2 with
            | lst hs2 hp2 =>
              exact ⟨_, _, _, _, rfl, rfl, r2.fh.seq hs1, r2.fh.seq hs2, by rw [dpLen hp1, dpLen hp2]; exact Nat.le_trans hz million, newLst r2 (dpApp hp1 hp2) (t1.two m1 t2) (m1.trans m2) k⟩
        · cases e
      · cases e
end Dl
set_option Elab.async false
set_option linter.all false
set_option maxRecDepth 100000
namespace Dl
open PySem PySem.Spec PyProof.Rows L2

theorem log_lt {n k : Nat} (hk : 0 < k) (h : n < 2 ^ k) : n.log2 < k := by
  by_cases e : n = 0
  · subst e; simpa using hk
  · exact (Nat.log2_lt e).mpr h
/-! ### loops told by what stays -/
theorem forGo_inv {t : Fg} {b : Fs} (E : G → Prop) : ∀ (ds : List D), (∀ d ∈ ds, ∀ g, E g → ∃ g1 g2, t d g = some g1 ∧ b g1 = some (.nx g2) ∧ E g2) → ∀ g, E g → ∃ g', forGo t b ds g = some (.nx g') ∧ E g'
  | [], _, g, e => ⟨g, rfl, e⟩
  | d :: r, h, g, e => by
    obtain ⟨g1, g2, h1, h2, h3⟩ := h d (List.mem_cons_self ..) g e
    obtain ⟨g', h4, h5⟩ := forGo_inv E r (fun d hd => h d (List.mem_cons_of_mem _ hd)) g2 h3
    exact ⟨g', by simp [forGo, h1, h2, h4], h5⟩
/-- a loop that looks for the first thing to hand back -/
theorem forGo_find {t : Fg} {b : Fs} (E : G → Prop) (p : D → Option Sl) : ∀ (ds : List D),
    (∀ d ∈ ds, ∀ g, E g → ∃ g1, t d g = some g1 ∧ ((p d = none ∧ ∃ g2, b g1 = some (.nx g2) ∧ E g2) ∨ ∃ x g2, p d = some x ∧ b g1 = some (.ret x g2))) →
    ∀ g, E g → (ds.findSome? p = none ∧ ∃ g', forGo t b ds g = some (.nx g') ∧ E g') ∨ ∃ x g', ds.findSome? p = some x ∧ forGo t b ds g = some (.ret x g')
  | [], _, g, e => .inl ⟨rfl, g, rfl, e⟩
  | d :: r, h, g, e => by
    obtain ⟨g1, h1, h2⟩ := h d (List.mem_cons_self ..) g e
    rcases h2 with ⟨hp, g2, h2, h3⟩ | ⟨x, g2, hp, h2⟩
    · rcases forGo_find E p r (fun d hd => h d (List.mem_cons_of_mem _ hd)) g2 h3 with ⟨h4, g', h5, h6⟩ | ⟨x, g', h4, h5⟩
      · exact .inl ⟨by simp [List.findSome?_cons, hp, h4], g', by simp [forGo, h1, h2, h5], h6⟩
      · exact .inr ⟨x, g', by simp [List.findSome?_cons, hp, h4], by simp [forGo, h1, h2, h5]⟩
    · exact .inr ⟨x, g2, by simp [List.findSome?_cons, hp], by simp [forGo, h1, h2]⟩
/-- by what is left -/
theorem forGo_rest {t : Fg} {b : Fs} (P : List D → G → Prop) (h : ∀ d r g, P (d :: r) g → ∃ g1 g2, t d g = some g1 ∧ b g1 = some (.nx g2) ∧ P r g2) : ∀ (ds : List D) (g : G), P ds g → ∃ g', forGo t b ds g = some (.nx g') ∧ P [] g'
  | [], g, e => ⟨g, rfl, e⟩
  | d :: r, g, e => by
    obtain ⟨g1, g2, h1, h2, h3⟩ := h d r g e
    obtain ⟨g', h4, h5⟩ := forGo_rest P h r g2 h3
    exact ⟨g', by simp [forGo, h1, h2, h4], h5⟩
/-- a loop that gathers -/
theorem forGo_acc {α β : Type} {t : Fg} {b : Fs} (enc : α → D) (h : α → β) (E : List β → G → Prop) (M : Nat) : ∀ (xs : List α) (acc : List β) (g : G), acc.length + xs.length ≤ M →
    (∀ x ∈ xs, ∀ acc g, acc.length < M → E acc g → ∃ g1 g2, t (enc x) g = some g1 ∧ b g1 = some (.nx g2) ∧ E (acc ++ [h x]) g2) → E acc g → ∃ g', forGo t b (xs.map enc) g = some (.nx g') ∧ E (acc ++ xs.map h) g'
  | [], acc, g, _, _, e => ⟨g, rfl, by simpa using e⟩
  | x :: r, acc, g, hl, H, e => by
    simp only [List.length_cons] at hl
    obtain ⟨g1, g2, h1, h2, h3⟩ := H x (List.mem_cons_self ..) acc g (by omega) e
    obtain ⟨g', h4, h5⟩ := forGo_acc enc h E M r (acc ++ [h x]) g2 (by simp; omega) (fun x hx => H x (List.mem_cons_of_mem _ hx)) h3
    refine ⟨g', by simp [forGo, h1, h2, h4], ?_⟩
    simpa using h5
/-- a loop whose state is told apart from the tag -/
theorem forGo_uni {σ : Type} {tg : Fg} {b : Fs} (enc : Option Addr → σ → G) (I : Nat → σ → Prop) (M : Nat) : ∀ (ds : List D) (m : Nat) (s : σ), m + ds.length ≤ M → I m s →
    (∀ d ∈ ds, ∀ m s, m < M → I m s → ∃ s', I (m + 1) s' ∧ ∀ t, ∃ g1, tg d (enc t s) = some g1 ∧ b g1 = some (.nx (enc t s'))) → ∃ s', I (m + ds.length) s' ∧ ∀ t, forGo tg b ds (enc t s) = some (.nx (enc t s'))
  | [], m, s, _, h, _ => ⟨s, h, fun t => rfl⟩
  | d :: r, m, s, hM, h, H => by
    simp only [List.length_cons] at hM
    obtain ⟨s1, h1, h2⟩ := H d (List.mem_cons_self ..) m s (by omega) h
    obtain ⟨s', h3, h4⟩ := forGo_uni enc I M r (m + 1) s1 (by omega) h1 fun d hd => H d (List.mem_cons_of_mem _ hd)
    refine ⟨s', by rw [List.length_cons, Nat.add_comm r.length, ← Nat.add_assoc]; exact h3, fun t => ?_⟩
    obtain ⟨g1, k1, k2⟩ := h2 t
    simp [forGo, k1, k2, h4 t]
/-! ### step by step -/
theorem fnP_ret {f : Fs} {N : Nat} {ds : List D} {x : Sl} {g' : G} (g0 : G) (hg : ds.map Sl.v ++ List.replicate (N - ds.length) .no = g0) (h : f g0 = some (.ret x g')) : fnP f N ds = some x := by
  unfold fnP runG
  rw [List.length_map, hg, h]
  rfl
theorem fnP_nx {f : Fs} {N : Nat} {ds : List D} {g' : G} (g0 : G) (hg : ds.map Sl.v ++ List.replicate (N - ds.length) .no = g0) (h : f g0 = some (.nx g')) : fnP f N ds = some (.v .none) := by
  unfold fnP runG
  rw [List.length_map, hg, h]
  rfl
theorem seq_nx {f h : Fs} {g g1 : G} {o : Option Out} (e : f g = some (.nx g1)) (e2 : h g1 = o) : sSeq f h g = o := by
  unfold sSeq
  rw [e]
  exact e2
theorem seq_ret {f h : Fs} {g g1 : G} {x : Sl} (e : f g = some (.ret x g1)) : sSeq f h g = some (.ret x g1) := by
  unfold sSeq
  rw [e]
  rfl
theorem if_t {t : Ft} {f h : Fs} {g g1 : G} {o : Option Out} (e : t g = some (true, g1)) (e2 : f g1 = o) : sIf t f h g = o := by
  unfold sIf
  rw [e]
  exact e2
theorem if_f {t : Ft} {f h : Fs} {g g1 : G} {o : Option Out} (e : t g = some (false, g1)) (e2 : h g1 = o) : sIf t f h g = o := by
  unfold sIf
  rw [e]
  exact e2
theorem set_v {i : Nat} {f : Fv} {g g1 : G} {d : D} (e : f g = some (.v d, g1)) : sSet i f g = some (.nx (g1.set i (.v d))) := by
  unfold sSet
  rw [e]
  rfl
theorem set_o {i : Nat} {f : Fv} {g g1 : G} {ds : List D} (e : f g = some (.own none ds, g1)) : sSet i f g = some (.nx (g1.set i (.own none ds))) := by
  unfold sSet
  rw [e]
  rfl
theorem ret_v {f : Fv} {g g1 : G} {d : D} (e : f g = some (.v d, g1)) : sRet f g = some (.ret (.v d) g1) := by
  unfold sRet
  rw [e]
  rfl
theorem ret_o {f : Fv} {g g1 : G} {t : Option Addr} {ds : List D} (e : f g = some (.own t ds, g1)) : sRet f g = some (.ret (.own t ds) g1) := by
  unfold sRet
  rw [e]
  rfl
theorem ex_of {f : Fe} {g g1 : G} {d : D} (e : f g = some (d, g1)) : sEx f g = some (.nx g1) := by
  unfold sEx
  rw [e]
  rfl
theorem for_of {f : Fa} {t : Fg} {b : Fs} {g g1 : G} {ds : List D} {o : Option Out} (e : f g = some (ds, g1)) (e2 : forGo t b ds g1 = o) : sFor f t b g = o := by
  unfold sFor
  rw [e]
  exact e2
theorem vE_of {f : Fe} {g g1 : G} {d : D} (e : f g = some (d, g1)) : vE f g = some (.v d, g1) := by
  unfold vE
  rw [e]
  rfl
theorem eV_v {f : Fv} {g g1 : G} {d : D} (e : f g = some (.v d, g1)) : eV f g = some (d, g1) := by
  unfold eV
  rw [e]
  rfl
theorem eV_o {f : Fv} {g g1 : G} {t : Option Addr} {ds : List D} (e : f g = some (.own t ds, g1)) : eV f g = some (.list ds, g1) := by
  unfold eV
  rw [e]
  rfl
theorem eUn_of {op : D → Option D} {f : Fe} {g g1 : G} {d d2 : D} (e : f g = some (d, g1)) (h : op d = some d2) : eUn op f g = some (d2, g1) := by
  unfold eUn
  rw [e]
  show (op d).map _ = _
  rw [h]
  rfl
theorem eBin_of {op : D → D → Option D} {f h : Fe} {g g1 g2 : G} {d d2 d3 : D} (e : f g = some (d, g1)) (e2 : h g1 = some (d2, g2)) (k : op d d2 = some d3) : eBin op f h g = some (d3, g2) := by
  unfold eBin
  rw [e]
  show (h g1).bind _ = _
  rw [e2]
  show (op d d2).map _ = _
  rw [k]
  rfl
theorem eCall_of {m : List D → Option Sl} {f : Fa} {g g1 : G} {ds : List D} {x : Sl} (e : f g = some (ds, g1)) (h : m ds = some x) : eCall m f g = some (x, g1) := by
  unfold eCall
  rw [e]
  show (m ds).map _ = _
  rw [h]
  rfl
theorem tOf_b {f : Fe} {g g1 : G} {b : Bool} (e : f g = some (.bool b, g1)) : tOf f g = some (b, g1) := by
  unfold tOf
  rw [e]
  rfl
theorem tNot_of {f : Ft} {g g1 : G} {b : Bool} (e : f g = some (b, g1)) : Dl.tNotT f g = some (!b, g1) := by
  unfold Dl.tNotT
  rw [e]
  rfl
theorem tOr_t {f h : Ft} {g g1 : G} (e : f g = some (true, g1)) : Dl.tOrT f h g = some (true, g1) := by
  unfold Dl.tOrT
  rw [e]
  rfl
theorem tOr_f {f h : Ft} {g g1 : G} {o : Option (Bool × G)} (e : f g = some (false, g1)) (e2 : h g1 = o) : Dl.tOrT f h g = o := by
  unfold Dl.tOrT
  rw [e]
  exact e2
theorem tAnd_f {f h : Ft} {g g1 : G} (e : f g = some (false, g1)) : Dl.tAndT f h g = some (false, g1) := by
  unfold Dl.tAndT
  rw [e]
  rfl
theorem tAnd_t {f h : Ft} {g g1 : G} {o : Option (Bool × G)} (e : f g = some (true, g1)) (e2 : h g1 = o) : Dl.tAndT f h g = o := by
  unfold Dl.tAndT
  rw [e]
  exact e2
theorem eAnd_t {f h : Fe} {g g1 : G} {o : Option (D × G)} (e : f g = some (.bool true, g1)) (e2 : h g1 = o) : eAnd f h g = o := by
  unfold eAnd
  rw [e]
  exact e2
theorem eAnd_f {f h : Fe} {g g1 : G} (e : f g = some (.bool false, g1)) : eAnd f h g = some (.bool false, g1) := by
  unfold eAnd
  rw [e]
  rfl
theorem eOr_t {f h : Fe} {g g1 : G} (e : f g = some (.bool true, g1)) : eOr f h g = some (.bool true, g1) := by
  unfold eOr
  rw [e]
  rfl
theorem eOr_f {f h : Fe} {g g1 : G} {o : Option (D × G)} (e : f g = some (.bool false, g1)) (e2 : h g1 = o) : eOr f h g = o := by
  unfold eOr
  rw [e]
  exact e2
theorem ar_nil {g : G} : aNil g = some ([], g) := rfl
theorem ar_cons {f : Fe} {fs : Fa} {g g1 g2 : G} {d : D} {ds : List D} (e : f g = some (d, g1)) (e2 : fs g1 = some (ds, g2)) : aCons f fs g = some (d :: ds, g2) := by
  unfold aCons
  rw [e]
  show (fs g1).map _ = _
  rw [e2]
  rfl
theorem eTup_of {f : Fa} {g g1 : G} {ds : List D} (e : f g = some (ds, g1)) : eTup f g = some (.tuple ds, g1) := by
  unfold eTup
  rw [e]
  rfl
theorem vLst_of {f : Fa} {g g1 : G} {ds : List D} (e : f g = some (ds, g1)) : vLst f g = some (.own none ds, g1) := by
  unfold vLst
  rw [e]
  rfl
theorem ixV_v {i : Nat} {f : Fe} {g g1 : G} {a b d d2 : D} (e0 : slD g[i]? = some a) (e : f g = some (d, g1)) (e1 : slD g1[i]? = some b) (k : atD b d = some d2) : eIxV i f g = some (d2, g1) := by
  unfold eIxV
  rw [e0]
  show (f g).bind _ = _
  rw [e]
  show (slD g1[i]?).bind _ = _
  rw [e1]
  show (atD b d).map _ = _
  rw [k]
  rfl
theorem par_of {i j : Nat} {f h : Fv} {g g1 g2 : G} {x y : D} (e : f g = some (.v x, g1)) (e2 : h g1 = some (.v y, g2)) : sPar i j f h g = some (.nx ((g2.set i (.v x)).set j (.v y))) := by
  unfold sPar
  rw [e]
  show (h g1).bind _ = _
  rw [e2]
  rfl
theorem iSeq_of {f : Fe} {g g1 : G} {d : D} {ds : List D} (e : f g = some (d, g1)) (h : seqD d = some ds) : iSeq f g = some (ds, g1) := by
  unfold iSeq
  rw [e]
  show (seqD d).map _ = _
  rw [h]
  rfl
theorem eIf_t {t : Ft} {f h : Fe} {g g1 : G} {o : Option (D × G)} (e : t g = some (true, g1)) (e2 : f g1 = o) : eIf t f h g = o := by
  unfold eIf
  rw [e]
  exact e2
theorem eIf_f {t : Ft} {f h : Fe} {g g1 : G} {o : Option (D × G)} (e : t g = some (false, g1)) (e2 : h g1 = o) : eIf t f h g = o := by
  unfold eIf
  rw [e]
  exact e2
theorem app_of {i : Nat} {f : Fv} {g g1 : G} {t : Option Addr} {ds ds0 : List D} {d : D} (e0 : ownD g[i]? = some ds0) (e : eV f g = some (d, g1)) (e1 : g1[i]? = some (.own t ds)) (hl : ds.length < 1000000) : eApp i f g = some (.none, g1.set i (.own t (ds ++ [d]))) := by
  unfold eApp
  simp only [e0, e, e1, hl, Option.bind_some, if_true]
theorem callI_of {m : List D → List D → Option (Sl × List D)} {i : Nat} {f : Fa} {g g1 : G} {t : Option Addr} {es0 es es' ds : List D} {x : Sl} (e0 : ownD g[i]? = some es0) (e : f g = some (ds, g1)) (e1 : g1[i]? = some (.own t es)) (k : m es ds = some (x, es')) : eCallI m i f g = some (x, g1.set i (.own t es')) := by
  unfold eCallI
  simp only [e0, e, e1, k, Option.bind_some, Option.map_some]
theorem put_of {i : Nat} {fj : Fe} {f : Fv} {g g1 g2 : G} {t : Option Addr} {ds : List D} {d : D} {k : Int} {j : Nat} (e : eV f g = some (d, g1)) (e0 : g1[i]? = some (.own t ds)) (e1 : fj g1 = some (.int k, g2)) (e2 : g2[i]? = some (.own t ds)) (e3 : L2.ixN ds.length k = some j) : sPut i fj f g = some (.nx (g2.set i (.own t (ds.set j d)))) := by
  unfold sPut
  simp only [e, e0, e1, e2, e3, Option.bind_some, Option.map_some, slD]
theorem retV_v {i : Nat} {g : G} {d : D} (e : g[i]? = some (.v d)) : sRetV i g = some (.ret (.v d) g) := by
  unfold sRetV
  rw [e]
theorem retV_o {i : Nat} {g : G} {ds : List D} (e : g[i]? = some (.own none ds)) : sRetV i g = some (.ret (.own none ds) (g.set i .no)) := by
  unfold sRetV
  rw [e]
theorem ltD_ii (i j : Int) : ltD (.int i) (.int j) = some (.bool (decide (i < j))) := rfl
theorem gtD_ii (i j : Int) : gtD (.int i) (.int j) = some (.bool (decide (j < i))) := rfl
theorem geD_ii (i j : Int) : geD (.int i) (.int j) = some (.bool (decide (j ≤ i))) := rfl
theorem leD_ii (i j : Int) : leD (.int i) (.int j) = some (.bool (decide (i ≤ j))) := rfl
theorem ltD_t {i j : Int} (h : i < j) : ltD (.int i) (.int j) = some (.bool true) := by rw [ltD_ii, decide_eq_true h]
theorem ltD_f {i j : Int} (h : ¬ i < j) : ltD (.int i) (.int j) = some (.bool false) := by rw [ltD_ii, decide_eq_false h]
theorem gtD_t {i j : Int} (h : j < i) : gtD (.int i) (.int j) = some (.bool true) := by rw [gtD_ii, decide_eq_true h]
theorem gtD_f {i j : Int} (h : ¬ j < i) : gtD (.int i) (.int j) = some (.bool false) := by rw [gtD_ii, decide_eq_false h]
theorem geD_t {i j : Int} (h : j ≤ i) : geD (.int i) (.int j) = some (.bool true) := by rw [geD_ii, decide_eq_true h]
theorem geD_f {i j : Int} (h : ¬ j ≤ i) : geD (.int i) (.int j) = some (.bool false) := by rw [geD_ii, decide_eq_false h]
theorem leD_t {i j : Int} (h : i ≤ j) : leD (.int i) (.int j) = some (.bool true) := by rw [leD_ii, decide_eq_true h]
theorem leD_f {i j : Int} (h : ¬ i ≤ j) : leD (.int i) (.int j) = some (.bool false) := by rw [leD_ii, decide_eq_false h]
theorem mulD_of {i j : Int} (h : Dl.MulOk i j = true) : mulD (.int i) (.int j) = some (.int (i * j)) := by
  unfold mulD
  simp only [h, if_true]
theorem mulOk_r {i j : Int} (h : j.natAbs < 2 ^ 64) : Dl.MulOk i j = true := by
  unfold Dl.MulOk
  simp [h]
theorem mulOk_l {i j : Int} (h : i.natAbs < 2 ^ 64) : Dl.MulOk i j = true := by
  unfold Dl.MulOk
  simp [h]
theorem modD_of {i j : Int} (h : j ≠ 0) : modD (.int i) (.int j) = some (.int (i.fmod j)) := by
  unfold modD
  simp only [h, if_false]
theorem fdivD_of {i j : Int} (h : Dl.DivOk j = true) : fdivD (.int i) (.int j) = some (.int (i.fdiv j)) := by
  unfold fdivD
  simp only [h, if_true]
theorem divOk_s {j : Int} (h0 : j ≠ 0) (h : j.natAbs < 2 ^ 64) : Dl.DivOk j = true := by
  have := log_lt (by decide) h
  unfold Dl.DivOk
  simp [h0]
  omega
theorem fnI_ret {f : Fs} {N : Nat} {es ds : List D} {x : Sl} {es' : List D} (h : ∀ a : Addr, ∃ g', f (.own (some a) es :: (ds.map Sl.v ++ List.replicate (N - (ds.length + 1)) .no)) = some (.ret x g') ∧ g'[0]? = some (.own (some a) es')) : fnI f N es ds = some (x, es') := by
  refine fnI_of fun a => ?_
  obtain ⟨g', h1, h2⟩ := h a
  refine ⟨g', ?_, h2⟩
  unfold runG
  have e : (Sl.own (some a) es :: ds.map Sl.v) ++ List.replicate (N - (Sl.own (some a) es :: ds.map Sl.v).length) .no = .own (some a) es :: (ds.map Sl.v ++ List.replicate (N - (ds.length + 1)) .no) := by simp
  rw [e, h1]
theorem cutL_map {α : Type} {f : α → D} {l : List α} {lo hi : Option Int} : cutL (l.map f) lo hi = (cutL l lo hi).map f := by
  unfold cutL
  simp [List.map_take, List.map_drop]
theorem eSlU_of {fa : Fe} {fl fh : Fo} {g g1 g2 g3 : G} {ds : List D} {lo hi : Option Int} (e : fa g = some (.tuple ds, g1)) (e2 : fl g1 = some (lo, g2)) (e3 : fh g2 = some (hi, g3)) : eSlU fa fl fh g = some (.tuple (cutL ds lo hi), g3) := by
  unfold eSlU
  simp only [e, e2, e3, Option.bind_some]
theorem eSlU_ofL {fa : Fe} {fl fh : Fo} {g g1 g2 g3 : G} {ds : List D} {lo hi : Option Int} (e : fa g = some (.list ds, g1)) (e2 : fl g1 = some (lo, g2)) (e3 : fh g2 = some (hi, g3)) : eSlU fa fl fh g = some (.list (cutL ds lo hi), g3) := by
  unfold eSlU
  simp only [e, e2, e3, Option.bind_some]
theorem oSome_of {f : Fe} {g g1 : G} {i : Int} (e : f g = some (.int i, g1)) : oSome f g = some (some i, g1) := by
  unfold oSome
  rw [e]
theorem cut_take {α : Type} {l : List α} {i : Nat} (h : i ≤ l.length) : cutL l none (some (i : Int)) = l.take i := by
  unfold cutL
  rw [HT.sIx_none, HT.sIx_nat, Nat.min_eq_left h]
  simp
theorem cut_drop {α : Type} {l : List α} {i : Nat} (h : i ≤ l.length) : cutL l (some (i : Int)) none = l.drop i := by
  unfold cutL
  rw [HT.sIx_none, HT.sIx_nat, Nat.min_eq_left h]
  exact List.take_of_length_le (by simp)
theorem addA_cat {xs ys : List D} (h : xs.length + ys.length ≤ 1000000) : addA (.tuple xs) (.tuple ys) = some (.tuple (xs ++ ys)) := by
  rw [addA_tup]
  unfold catTD
  simp only [h, if_true]
theorem vLc_of {fi : Fa} {tg : Fg} {c : Ft} {f : Fe} {vs : List Nat} {g g0 g' : G} {ds ds' : List D} (hi : fi g = some (ds, g0)) (ok : okW g0 vs = true) (h : lcGo tg c f vs ds (wipeG g0 vs) = some (ds', g')) (hl : ds'.length ≤ 1000000) : vLc fi tg c f vs g = some (.own none ds', backG g0 g' vs) := by
  unfold vLc
  simp only [hi, Option.bind_some, ok, if_true, h, hl]
theorem asg_of {f : Fe} {tg : Fg} {g g1 g2 : G} {d : D} (e : f g = some (d, g1)) (h : tg d g1 = some g2) : sAsg f tg g = some (.nx g2) := by
  unfold sAsg
  simp only [e, Option.bind_some, h, Option.map_some]
theorem parO_of {i j : Nat} {f h : Fv} {g g1 g2 : G} {x y : List D} (e : f g = some (.own none x, g1)) (e2 : h g1 = some (.own none y, g2)) : sPar i j f h g = some (.nx ((g2.set i (.own none x)).set j (.own none y))) := by
  unfold sPar
  simp only [e, Option.bind_some, e2]
  rfl
theorem atI_last {l : List D} {d : D} : L2.atI (l ++ [d]) (-1) = some d := by
  unfold L2.atI L2.ixN
  have h1 : -(((l ++ [d]).length : Nat) : Int) ≤ -1 := by simp; omega
  rw [if_neg (by decide), if_pos h1]
  have h2 : (-1 + (((l ++ [d]).length : Nat) : Int)).toNat = l.length := by simp; omega
  rw [h2]
  simp
theorem rng_of {f : Fa} {g g1 : G} {n : Nat} (e : f g = some ([.int (n : Int)], g1)) (h : n < 1000000) : iRange1 f g = some ((List.range n).map fun (i : Nat) => .int (i : Int), g1) := by
  have hs : SmI (n : Int) := by unfold SmI; omega
  unfold iRange1
  simp only [e, hs, if_true, Int.toNat_natCast]
  simp [rangeL]
theorem enum_of {f : Fa} {g g1 : G} {d : D} {ds : List D} (e : f g = some ([d], g1)) (h : seqD d = some ds) : iEnum' f g = some (pairL 0 ds, g1) := by
  unfold iEnum'
  simp only [e, h, Option.map_some]
/-! ### comprehensions -/
theorem lcGo_pure {t : Fg} {c : Ft} {f : Fe} {vs : List Nat} {g : G} (h : D → D) : ∀ (ds : List D), (∀ d ∈ ds, ∃ g1 g2, t d g = some g1 ∧ c g1 = some (true, g1) ∧ f g1 = some (h d, g2) ∧ wipeG g2 vs = g) → lcGo t c f vs ds g = some (ds.map h, g)
  | [], _ => rfl
  | d :: r, H => by
    obtain ⟨g1, g2, h1, h2, h3, h4⟩ := H d (List.mem_cons_self ..)
    have ih := lcGo_pure h r fun d hd => H d (List.mem_cons_of_mem _ hd)
    simp [lcGo, h1, h2, h3, h4, ih]
theorem vLc_pure {fi : Fa} {t : Fg} {c : Ft} {f : Fe} {vs : List Nat} {g g0 : G} {ds : List D} (h : D → D) (hi : fi g = some (ds, g0)) (ok : okW g0 vs = true) (hl : ds.length ≤ 1000000)
    (H : ∀ d ∈ ds, ∃ g1 g2, t d (wipeG g0 vs) = some g1 ∧ c g1 = some (true, g1) ∧ f g1 = some (h d, g2) ∧ wipeG g2 vs = wipeG g0 vs) : vLc fi t c f vs g = some (.own none (ds.map h), backG g0 (wipeG g0 vs) vs) := by
  have e := lcGo_pure h ds H
  unfold vLc
  rw [hi]
  show (if okW g0 vs = true then _ else _) = _
  rw [if_pos ok]
  rw [e]
  simp [hl]
theorem lcGo_rel {t : Fg} {f : Fe} {vs : List Nat} (E : G → Prop) (P : D → Prop) : ∀ (ds : List D), (∀ d ∈ ds, ∀ g, E g → ∃ g1 d' g2, t d g = some g1 ∧ f g1 = some (d', g2) ∧ P d' ∧ E (wipeG g2 vs)) → ∀ g, E g → ∃ ds' g', lcGo t cYes f vs ds g = some (ds', g') ∧ ds'.length = ds.length ∧ (∀ d ∈ ds', P d) ∧ E g'
  | [], _, g, e => ⟨[], g, rfl, rfl, by simp, e⟩
  | d :: r, H, g, e => by
    obtain ⟨g1, d', g2, h1, h2, h3, h4⟩ := H d (List.mem_cons_self ..) g e
    obtain ⟨ds', g', h5, h6, h7, h8⟩ := lcGo_rel E P r (fun d hd => H d (List.mem_cons_of_mem _ hd)) _ h4
    refine ⟨d' :: ds', g', by simp [lcGo, h1, cYes, h2, h5], by simp [h6], ?_, h8⟩
    intro z hz
    rcases List.mem_cons.mp hz with rfl | hz
    · exact h3
    · exact h7 z hz
theorem vLc_rel {fi : Fa} {t : Fg} {f : Fe} {vs : List Nat} {g g0 : G} {ds : List D} (E : G → Prop) (P : D → Prop) (hi : fi g = some (ds, g0)) (ok : okW g0 vs = true) (hl : ds.length ≤ 1000000) (hE : E (wipeG g0 vs))
    (H : ∀ d ∈ ds, ∀ g, E g → ∃ g1 d' g2, t d g = some g1 ∧ f g1 = some (d', g2) ∧ P d' ∧ E (wipeG g2 vs)) : ∃ ds' g', vLc fi t cYes f vs g = some (.own none ds', backG g0 g' vs) ∧ ds'.length = ds.length ∧ (∀ d ∈ ds', P d) ∧ E g' := by
  obtain ⟨ds', g', h1, h2, h3, h4⟩ := lcGo_rel E P ds H _ hE
  refine ⟨ds', g', ?_, h2, h3, h4⟩
  unfold vLc
  rw [hi]
  show (if okW g0 vs = true then _ else _) = _
  rw [if_pos ok, h1]
  simp [h2, hl]
/-- a list of data told one by one -/
theorem mapOf {α : Type} {f : α → D} {P : α → Prop} : ∀ {ds : List D}, (∀ d ∈ ds, ∃ a, d = f a ∧ P a) → ∃ l : List α, ds = l.map f ∧ ∀ a ∈ l, P a
  | [], _ => ⟨[], rfl, by simp⟩
  | d :: r, h => by
    obtain ⟨a, e, ha⟩ := h d (List.mem_cons_self ..)
    obtain ⟨l, e2, hl⟩ := mapOf (ds := r) fun d hd => h d (List.mem_cons_of_mem _ hd)
    refine ⟨a :: l, by rw [e, e2]; rfl, ?_⟩
    intro z hz
    rcases List.mem_cons.mp hz with rfl | hz
    · exact ha
    · exact hl z hz

theorem lcGo_map {α : Type} {t : Fg} {c : Ft} {f : Fe} {vs : List Nat} {g : G} (enc : α → D) (h : α → D) : ∀ (xs : List α), (∀ x ∈ xs, ∃ g1 g2, t (enc x) g = some g1 ∧ c g1 = some (true, g1) ∧ f g1 = some (h x, g2) ∧ wipeG g2 vs = g) → lcGo t c f vs (xs.map enc) g = some (xs.map h, g)
  | [], _ => rfl
  | d :: r, H => by
    obtain ⟨g1, g2, h1, h2, h3, h4⟩ := H d (List.mem_cons_self ..)
    have ih := lcGo_map enc h r fun d hd => H d (List.mem_cons_of_mem _ hd)
    simp [lcGo, h1, h2, h3, h4, ih]
theorem vLc_map {α : Type} {fi : Fa} {t : Fg} {c : Ft} {f : Fe} {vs : List Nat} {g g0 : G} {xs : List α} (enc : α → D) (h : α → D) (hi : fi g = some (xs.map enc, g0)) (ok : okW g0 vs = true) (hl : xs.length ≤ 1000000)
    (H : ∀ x ∈ xs, ∃ g1 g2, t (enc x) (wipeG g0 vs) = some g1 ∧ c g1 = some (true, g1) ∧ f g1 = some (h x, g2) ∧ wipeG g2 vs = wipeG g0 vs) : vLc fi t c f vs g = some (.own none (xs.map h), backG g0 (wipeG g0 vs) vs) := by
  have e := lcGo_map enc h xs H
  unfold vLc
  rw [hi]
  show (if okW g0 vs = true then _ else _) = _
  rw [if_pos ok]
  rw [e]
  simp [hl]
theorem forGo_findM {α : Type} {t : Fg} {b : Fs} (E : G → Prop) (enc : α → D) (p : α → Option Sl) : ∀ (xs : List α),
    (∀ x ∈ xs, ∀ g, E g → ∃ g1, t (enc x) g = some g1 ∧ ((p x = none ∧ ∃ g2, b g1 = some (.nx g2) ∧ E g2) ∨ ∃ y g2, p x = some y ∧ b g1 = some (.ret y g2))) →
    ∀ g, E g → (xs.findSome? p = none ∧ ∃ g', forGo t b (xs.map enc) g = some (.nx g') ∧ E g') ∨ ∃ y g', xs.findSome? p = some y ∧ forGo t b (xs.map enc) g = some (.ret y g')
  | [], _, g, e => .inl ⟨rfl, g, rfl, e⟩
  | d :: r, h, g, e => by
    obtain ⟨g1, h1, h2⟩ := h d (List.mem_cons_self ..) g e
    rcases h2 with ⟨hp, g2, h2, h3⟩ | ⟨x, g2, hp, h2⟩
    · rcases forGo_findM E enc p r (fun d hd => h d (List.mem_cons_of_mem _ hd)) g2 h3 with ⟨h4, g', h5, h6⟩ | ⟨x, g', h4, h5⟩
      · exact .inl ⟨by simp [List.findSome?_cons, hp, h4], g', by simp [forGo, h1, h2, h5], h6⟩
      · exact .inr ⟨x, g', by simp [List.findSome?_cons, hp, h4], by simp [forGo, h1, h2, h5]⟩
    · exact .inr ⟨x, g2, by simp [List.findSome?_cons, hp], by simp [forGo, h1, h2]⟩
theorem boolL_map {α : Type} (f : α → Bool) : ∀ xs : List α, boolL (xs.map fun x => .bool (f x)) = some (xs.map f)
  | [] => rfl
  | x :: r => by simp [boolL, boolL_map f r]
theorem allD_map {α : Type} (f : α → Bool) (xs : List α) : allD (.list (xs.map fun x => .bool (f x))) = some (.bool (xs.all f)) := by
  unfold allD
  simp [boolL_map, List.all_map]
theorem atI_map {α : Type} {f : α → D} {l : List α} {i : Nat} {a : α} (h : l[i]? = some a) : L2.atI (l.map f) (i : Int) = some (f a) := by
  have hi := (List.getElem?_eq_some_iff.mp h).1
  unfold L2.atI L2.ixN
  have h1 : ((i : Nat) : Int) < ((l.map f).length : Nat) := by simp; exact hi
  rw [if_pos (by omega), if_pos h1]
  simp [h]
theorem atD_map {α : Type} {f : α → D} {l : List α} {i : Nat} {a : α} (h : l[i]? = some a) : atD (.tuple (l.map f)) (.int (i : Int)) = some (f a) := atI_map h
theorem atD_mapL {α : Type} {f : α → D} {l : List α} {i : Nat} {a : α} (h : l[i]? = some a) : atD (.list (l.map f)) (.int (i : Int)) = some (f a) := atI_map h
theorem zipL_map {α β : Type} {f : α → D} {h : β → D} : ∀ (l : List α) (m : List β), zipL (l.map f) (m.map h) = (l.zip m).map fun p => .tuple [f p.1, h p.2]
  | [], _ => by simp [zipL]
  | _ :: _, [] => by simp [zipL]
  | x :: xs, y :: ys => by simp [zipL, zipL_map xs ys]
theorem pairL_map {α : Type} {f : α → D} : ∀ (l : List α) (i : Nat), pairL i (l.map f) = (l.zipIdx i).map fun p => .tuple [.int (p.2 : Nat), f p.1]
  | [], _ => by simp [pairL]
  | x :: xs, i => by simp [pairL, pairL_map xs (i + 1)]
theorem eqvAll_map {α : Type} [DecidableEq α] {f : α → D} (h : ∀ x y, PyData.eqv (f x) (f y) = decide (x = y)) : ∀ (l m : List α), PyData.eqvAll (l.map f) (m.map f) = decide (l = m)
  | [], [] => by simp [PyData.eqvAll]
  | [], _ :: _ => by simp [PyData.eqvAll]
  | _ :: _, [] => by simp [PyData.eqvAll]
  | x :: xs, y :: ys => by simp [PyData.eqvAll, h, eqvAll_map h xs ys]
theorem eqv_tup {xs ys : List D} : PyData.eqv (.tuple xs) (.tuple ys) = PyData.eqvAll xs ys := rfl
theorem eqv_lst {xs ys : List D} : PyData.eqv (.list xs) (.list ys) = PyData.eqvAll xs ys := rfl
theorem eqv_int {i j : Int} : PyData.eqv (.int i) (.int j) = decide (i = j) := rfl
theorem eqv_str {i j : Str} : PyData.eqv (.str i) (.str j) = decide (i = j) := rfl
theorem shaped_of {d : D} (h : d.canLay0 = true) (h2 : d.depth ≤ 64) : SeqAt.shaped d = true := by
  unfold SeqAt.shaped
  simp [h, h2]

/-! ### isinstance -/
theorem isiD_of {d : D} {n T : String} {b : Bool} (h : tyD d = some n) (k : kitB n T = some b) : isiD T d = some (.bool b) := by
  unfold isiD
  rw [h]
  show (kitB n T).map _ = _
  rw [k]
  rfl
theorem isi_ii {i : Int} : isiD "int" (.int i) = some (.bool true) := isiD_of rfl (by decide +kernel)
theorem isi_ib {i : Int} : isiD "bool" (.int i) = some (.bool false) := isiD_of rfl (by decide +kernel)
theorem isi_is {i : Int} : isiD "str" (.int i) = some (.bool false) := isiD_of rfl (by decide +kernel)
theorem isi_it {i : Int} : isiD "tuple" (.int i) = some (.bool false) := isiD_of rfl (by decide +kernel)
theorem isi_tt {i : List D} : isiD "tuple" (.tuple i) = some (.bool true) := isiD_of rfl (by decide +kernel)
theorem isi_ti {i : List D} : isiD "int" (.tuple i) = some (.bool false) := isiD_of rfl (by decide +kernel)
theorem isi_ts {i : List D} : isiD "str" (.tuple i) = some (.bool false) := isiD_of rfl (by decide +kernel)
theorem isi_ss {i : Str} : isiD "str" (.str i) = some (.bool true) := isiD_of rfl (by decide +kernel)
theorem isi_si {i : Str} : isiD "int" (.str i) = some (.bool false) := isiD_of rfl (by decide +kernel)
theorem isi_st {i : Str} : isiD "tuple" (.str i) = some (.bool false) := isiD_of rfl (by decide +kernel)

/-! ### comparisons of ints, of texts -/
theorem shaped_int (i : Int) : SeqAt.shaped (.int i) = true := by
  unfold SeqAt.shaped
  simp [PyData.canLay0, PyData.depth]
theorem eqD_ii (i j : Int) : eqD (.int i) (.int j) = some (.bool (decide (i = j))) := by
  have e : PyData.eqv (.int i) (.int j) = decide (i = j) := by
    show (i == j) = decide (i = j)
    rfl
  unfold eqD
  simp only [shaped_int, e, and_self, if_true]
theorem neD_ii (i j : Int) : neD (.int i) (.int j) = some (.bool (!decide (i = j))) := by
  have e : PyData.eqv (.int i) (.int j) = decide (i = j) := by
    show (i == j) = decide (i = j)
    rfl
  unfold neD
  simp only [shaped_int, e, and_self, if_true]
theorem eqD_ss (i j : Str) : eqD (.str i) (.str j) = some (.bool (decide (i = j))) := rfl
theorem neD_ss (i j : Str) : neD (.str i) (.str j) = some (.bool (!decide (i = j))) := rfl
theorem eqD_t {i j : Int} (h : i = j) : eqD (.int i) (.int j) = some (.bool true) := by rw [eqD_ii, decide_eq_true h]
theorem eqD_f {i j : Int} (h : ¬ i = j) : eqD (.int i) (.int j) = some (.bool false) := by rw [eqD_ii, decide_eq_false h]
theorem neD_t {i j : Int} (h : ¬ i = j) : neD (.int i) (.int j) = some (.bool true) := by rw [neD_ii, decide_eq_false h]; rfl
theorem neD_f {i j : Int} (h : i = j) : neD (.int i) (.int j) = some (.bool false) := by rw [neD_ii, decide_eq_true h]; rfl
theorem eqD_sh {d e : D} {b : Bool} (h1 : SeqAt.shaped d = true) (h2 : SeqAt.shaped e = true) (hb : PyData.eqv d e = b) (hn : isDisplay d = true) : eqD d e = some (.bool b) := by
  unfold eqD
  cases d <;> first | (cases hn; done) | (simp only [h1, h2, hb, and_self, if_true])
theorem neD_sh {d e : D} {b : Bool} (h1 : SeqAt.shaped d = true) (h2 : SeqAt.shaped e = true) (hb : PyData.eqv d e = b) (hn : isDisplay d = true) : neD d e = some (.bool (!b)) := by
  unfold neD
  cases d <;> first | (cases hn; done) | (simp only [h1, h2, hb, and_self, if_true])

/-! ### repr -/
mutual
/-- no longer than this -/
def lnD : D → Nat
  | .none => 4
  | .bool _ => 5
  | .int _ => 600
  | .str x => 10 * x.length + 2
  | .list xs => lnAll xs + 3
  | .tuple xs => lnAll xs + 3
  | .dict _ => 0
def lnAll : List D → Nat
  | [] => 0
  | x :: xs => lnD x + 2 + lnAll xs
end
mutual
/-- data whose repr is told -/
def rpD : D → Bool
  | .none | .bool _ => true
  | .int i => decide (i.natAbs < 2 ^ 1900)
  | .str x => x.cps.toList.all fun c => decide (c < 16 ^ 8)
  | .list xs => rpAll xs
  | .tuple xs => rpAll xs
  | .dict _ => false
def rpAll : List D → Bool
  | [] => true
  | x :: xs => rpD x && rpAll xs
end
theorem pow_le_600 : (2 : Nat) ^ 1900 ≤ 10 ^ 599 := by decide +kernel
mutual
theorem shown_ln : ∀ d : D, rpD d = true → d.shown.length ≤ lnD d
  | .none, _ => by
    have e : (PyData.shown .none).length = 4 := rfl
    simp only [lnD]; omega
  | .bool b, _ => by
    have e : (PyData.shown (.bool b)).length ≤ 5 := by cases b <;> decide
    simp only [lnD]; omega
  | .int i, h => by
    have hi : i.natAbs < 2 ^ 1900 := by simpa only [rpD, decide_eq_true_eq] using h
    have e := int_text_length_le10 (a := i) (k := 599) (by decide) (Nat.lt_of_lt_of_le hi pow_le_600)
    simp only [lnD]
    show (Str.ofString (toString i)).length ≤ 600
    rw [PySem.ofString_length]; exact e
  | .str x, h => by
    have hx : ∀ c ∈ x.cps.toList, c < 16 ^ 8 := by simpa only [rpD, List.all_eq_true, decide_eq_true_eq] using h
    have e := StrLaws.reprText_len x hx
    simp only [lnD, PyData.shown]; exact e
  | .list xs, h => by
    have h1 := shown_lnAll xs (by simpa only [rpD] using h)
    have h2 := listText_len_le (PyData.shownAll xs)
    have h3 := PyData.shownAll_length xs
    simp only [PyData.shown, lnD]
    omega
  | .tuple xs, h => by
    have h1 := shown_lnAll xs (by simpa only [rpD] using h)
    have h2 := tupleText_len_le (PyData.shownAll xs)
    have h3 := PyData.shownAll_length xs
    simp only [PyData.shown, lnD]
    omega
  | .dict _, h => by simp [rpD] at h
theorem shown_lnAll : ∀ xs : List D, rpAll xs = true → ((PyData.shownAll xs).map (·.length)).sum + 2 * xs.length ≤ lnAll xs
  | [], _ => by simp [PyData.shownAll, lnAll]
  | x :: xs, h => by
    have h' : rpD x = true ∧ rpAll xs = true := by simpa only [rpAll, Bool.and_eq_true] using h
    have h1 := shown_ln x h'.1
    have h2 := shown_lnAll xs h'.2
    simp only [PyData.shownAll, lnAll, List.map_cons, List.sum_cons, List.length_cons]
    omega
end
mutual
theorem show_rp : ∀ d : D, rpD d = true → d.showable = true ∧ d.hasDict = false
  | .none, _ => ⟨rfl, rfl⟩
  | .bool _, _ => ⟨rfl, rfl⟩
  | .int i, h => by
    have hi : i.natAbs < 2 ^ 1900 := by simpa only [rpD, decide_eq_true_eq] using h
    refine ⟨?_, rfl⟩
    have := log_lt (by decide) hi
    simp only [PyData.showable, decide_eq_true_eq]
    omega
  | .str x, _ => ⟨rfl, rfl⟩
  | .list xs, h => by
    have := show_rpAll xs (by simpa only [rpD] using h)
    simpa only [PyData.showable, PyData.hasDict] using this
  | .tuple xs, h => by
    have := show_rpAll xs (by simpa only [rpD] using h)
    simpa only [PyData.showable, PyData.hasDict] using this
  | .dict _, h => by simp [rpD] at h
theorem show_rpAll : ∀ xs : List D, rpAll xs = true → PyData.showableAll xs = true ∧ PyData.hasDictAll xs = false
  | [], _ => ⟨rfl, rfl⟩
  | x :: xs, h => by
    have h' : rpD x = true ∧ rpAll xs = true := by simpa only [rpAll, Bool.and_eq_true] using h
    have h1 := show_rp x h'.1
    have h2 := show_rpAll xs h'.2
    simp [PyData.showableAll, PyData.hasDictAll, h1, h2]
end
theorem reprD_of {d : D} (h : rpD d = true) (hd : d.depth ≤ 60) (hi : isDisplay d = true) (hl : lnD d ≤ 16000000) : reprD d = some (.str d.shown) := by
  obtain ⟨h1, h2⟩ := show_rp d h
  have h3 := shown_ln d h
  unfold reprD
  rw [if_pos ⟨h1, .inl h2, hd, by rw [sizeLine_eq]; omega⟩]
theorem rpAll_of {xs : List D} (h : ∀ d ∈ xs, rpD d = true) : rpAll xs = true := by
  induction xs with
  | nil => rfl
  | cons x r ih =>
    simp only [rpAll, Bool.and_eq_true]
    exact ⟨h x (List.mem_cons_self ..), ih fun d hd => h d (List.mem_cons_of_mem _ hd)⟩
theorem lnAll_of {xs : List D} {n : Nat} (h : ∀ d ∈ xs, lnD d ≤ n) : lnAll xs ≤ (n + 2) * xs.length := by
  induction xs with
  | nil => simp [lnAll]
  | cons x r ih =>
    have := ih fun d hd => h d (List.mem_cons_of_mem _ hd)
    have := h x (List.mem_cons_self ..)
    simp only [lnAll, List.length_cons, Nat.mul_add]
    omega
theorem depthAll_of {xs : List D} {n : Nat} (h : ∀ d ∈ xs, d.depth ≤ n) : PyData.depthAll xs ≤ n := by
  induction xs with
  | nil => simp [PyData.depthAll]
  | cons x r ih =>
    have := ih fun d hd => h d (List.mem_cons_of_mem _ hd)
    have := h x (List.mem_cons_self ..)
    simp only [PyData.depthAll]
    omega
theorem canLayAll_of {xs : List D} (h : ∀ d ∈ xs, d.canLay0 = true) : PyData.canLayAll0 xs = true := by
  induction xs with
  | nil => rfl
  | cons x r ih =>
    simp only [PyData.canLayAll0, Bool.and_eq_true]
    exact ⟨h x (List.mem_cons_self ..), ih fun d hd => h d (List.mem_cons_of_mem _ hd)⟩
end Dl
set_option Elab.async false
set_option linter.all false
set_option maxRecDepth 100000
namespace Dl
open PySem
/-! ### things that are judged: of any kind, ints not too great, no dict but the empty one -/
mutual
def gd (k : Nat) : D → Bool
  | .int i => decide (i.natAbs < 2 ^ k)
  | .list ds => decide (ds.length ≤ 1000) && gdAll k ds
  | .tuple ds => decide (ds.length ≤ 1000) && gdAll k ds
  | .dict [] => true
  | .dict (_ :: _) => false
  | .none => true
  | .bool _ => true
  | .str _ => true
def gdAll (k : Nat) : List D → Bool
  | [] => true
  | d :: ds => gd k d && gdAll k ds
end
theorem gdAll_mem {k : Nat} : ∀ {ds : List D}, gdAll k ds = true ↔ ∀ d ∈ ds, gd k d = true
  | [] => by simp [gdAll]
  | d :: ds => by simp [gdAll, gdAll_mem (ds := ds)]
theorem gd_tup {k : Nat} {ds : List D} : gd k (.tuple ds) = true ↔ ds.length ≤ 1000 ∧ ∀ d ∈ ds, gd k d = true := by simp [gd, gdAll_mem]
theorem gd_lst {k : Nat} {ds : List D} : gd k (.list ds) = true ↔ ds.length ≤ 1000 ∧ ∀ d ∈ ds, gd k d = true := by simp [gd, gdAll_mem]
def isTup : D → Bool
  | .tuple _ => true
  | _ => false
def isLst : D → Bool
  | .list _ => true
  | _ => false
def isI : D → Bool
  | .int _ => true
  | _ => false
def isBl : D → Bool
  | .bool _ => true
  | _ => false
def isN : D → Bool
  | .none => true
  | _ => false
def isSz (lo hi : Int) : D → Bool
  | .tuple ds => decide (lo ≤ (ds.length : Nat)) && decide (((ds.length : Nat) : Int) ≤ hi)
  | _ => false
section
variable {k : Nat} {d : D} (h : gd k d = true)
include h
theorem isi_tupJ : isiD "tuple" d = some (.bool (isTup d)) := by
  cases d with
  | dict kv => cases kv with
    | nil => exact isiD_of rfl (by simp only [isTup, isLst, isI, isBl, Bool.or_false, Bool.or_true, Bool.or_self]; decide +kernel)
    | cons a b => simp [gd] at h
  | _ => exact isiD_of rfl (by simp only [isTup, isLst, isI, isBl, Bool.or_false, Bool.or_true, Bool.or_self]; decide +kernel)
theorem isi_lstJ : isiD "list" d = some (.bool (isLst d)) := by
  cases d with
  | dict kv => cases kv with
    | nil => exact isiD_of rfl (by simp only [isTup, isLst, isI, isBl, Bool.or_false, Bool.or_true, Bool.or_self]; decide +kernel)
    | cons a b => simp [gd] at h
  | _ => exact isiD_of rfl (by simp only [isTup, isLst, isI, isBl, Bool.or_false, Bool.or_true, Bool.or_self]; decide +kernel)
theorem isi_intJ : isiD "int" d = some (.bool (isI d || isBl d)) := by
  cases d with
  | dict kv => cases kv with
    | nil => exact isiD_of rfl (by simp only [isTup, isLst, isI, isBl, Bool.or_false, Bool.or_true, Bool.or_self]; decide +kernel)
    | cons a b => simp [gd] at h
  | _ => exact isiD_of rfl (by simp only [isTup, isLst, isI, isBl, Bool.or_false, Bool.or_true, Bool.or_self]; decide +kernel)
theorem isi_blJ : isiD "bool" d = some (.bool (isBl d)) := by
  cases d with
  | dict kv => cases kv with
    | nil => exact isiD_of rfl (by simp only [isTup, isLst, isI, isBl, Bool.or_false, Bool.or_true, Bool.or_self]; decide +kernel)
    | cons a b => simp [gd] at h
  | _ => exact isiD_of rfl (by simp only [isTup, isLst, isI, isBl, Bool.or_false, Bool.or_true, Bool.or_self]; decide +kernel)
end
theorem isN_J (d : D) : isND d .none = some (.bool (isN d)) := by cases d <;> rfl
theorem notN_J (d : D) : notND d .none = some (.bool (!isN d)) := by cases d <;> rfl
theorem isI_of {d : D} (h : isI d = true) : ∃ i, d = .int i := by
  cases d <;> simp [isI] at h
  exact ⟨_, rfl⟩
theorem isTup_of {d : D} (h : isTup d = true) : ∃ ds, d = .tuple ds := by
  cases d <;> simp [isTup] at h
  exact ⟨_, rfl⟩
theorem isI_bl (d : D) : ((isI d || isBl d) && !isBl d) = isI d := by cases d <;> rfl
theorem sz2 {d : D} (h : isSz 2 2 d = true) : ∃ x y, d = .tuple [x, y] := by
  cases d <;> simp [isSz] at h
  rename_i ds
  match ds, h with
  | [a, b], _ => exact ⟨a, b, rfl⟩
  | [], h => simp at h
  | [_], h => simp at h
  | _ :: _ :: _ :: _, h => simp at h; omega
theorem tail_eAndB {f h : Fe} {g g1 g2 : G} {b c : Bool} (e : f g = some (.bool b, g1)) (e2 : b = true → h g1 = some (.bool c, g2)) (z : g2 = g1) : eAnd f h g = some (.bool (b && c), g1) := by
  subst z
  cases b with
  | false => exact eAnd_f e
  | true => exact eAnd_t e (e2 rfl)
theorem eOrB {f h : Fe} {g g1 : G} {b c : Bool} (e : f g = some (.bool b, g1)) (e2 : b = false → h g1 = some (.bool c, g1)) : eOr f h g = some (.bool (b || c), g1) := by
  cases b with
  | true => exact eOr_t e
  | false => exact eOr_f e (e2 rfl)
theorem eAndB {f h : Fe} {g g1 : G} {b c : Bool} (e : f g = some (.bool b, g1)) (e2 : b = true → h g1 = some (.bool c, g1)) : eAnd f h g = some (.bool (b && c), g1) := tail_eAndB e e2 rfl
theorem tOrB {f h : Ft} {g g1 : G} {b c : Bool} (e : f g = some (b, g1)) (e2 : b = false → h g1 = some (c, g1)) : Dl.tOrT f h g = some (b || c, g1) := by
  cases b with
  | true => exact tOr_t e
  | false => exact tOr_f e (e2 rfl)
theorem tAndB {f h : Ft} {g g1 : G} {b c : Bool} (e : f g = some (b, g1)) (e2 : b = true → h g1 = some (c, g1)) : Dl.tAndT f h g = some (b && c, g1) := by
  cases b with
  | false => exact tAnd_f e
  | true => exact tAnd_t e (e2 rfl)
/-- the guard ahead of a body: back with False where it is so -/
theorem guardB {t : Ft} {h : Fs} {g g1 g2 : G} {b c : Bool} (e : t g = some (b, g1)) (e2 : b = false → h g1 = some (.ret (.v (.bool c)) g2)) : ∃ g', sSeq (sIf t (sRet (vE (eC (.bool false)))) sNil) h g = some (.ret (.v (.bool (!b && c))) g') := by
  cases b with
  | true => exact ⟨g1, seq_ret (if_t e (ret_v (vE_of rfl)))⟩
  | false => exact ⟨g2, seq_nx (if_f e rfl) (e2 rfl)⟩
theorem guardN {t : Ft} {h : Fs} {g g1 : G} {b c : Bool} (e : t g = some (b, g1)) (e2 : b = false → ∃ g2, h g1 = some (.ret (.v (.bool c)) g2)) : ∃ g', sSeq (sIf t (sRet (vE (eC (.bool false)))) sNil) h g = some (.ret (.v (.bool (!b && c))) g') := by
  cases b with
  | true => exact ⟨g1, seq_ret (if_t e (ret_v (vE_of rfl)))⟩
  | false =>
    obtain ⟨g2, k⟩ := e2 rfl
    exact ⟨g2, seq_nx (if_f e rfl) k⟩
theorem anyD_map {α : Type} (f : α → Bool) (xs : List α) : anyD (.list (xs.map fun x => .bool (f x))) = some (.bool (xs.any f)) := by
  unfold anyD
  simp [boolL_map, List.any_map]
/-- a loop that hands False back at the first thing that fails -/
theorem forGo_guard {α : Type} {t : Fg} {b : Fs} (E : G → Prop) (enc : α → D) (c : α → Bool) : ∀ (xs : List α),
    (∀ x ∈ xs, ∀ g, E g → ∃ g1, t (enc x) g = some g1 ∧ (c x = true → ∃ g2, b g1 = some (.nx g2) ∧ E g2) ∧ (c x = false → ∃ g2, b g1 = some (.ret (.v (.bool false)) g2))) →
    ∀ g, E g → (xs.all c = true → ∃ g', forGo t b (xs.map enc) g = some (.nx g') ∧ E g') ∧ (xs.all c = false → ∃ g', forGo t b (xs.map enc) g = some (.ret (.v (.bool false)) g'))
  | [], _, g, e => ⟨fun _ => ⟨g, rfl, e⟩, fun h => by simp at h⟩
  | x :: r, H, g, e => by
    obtain ⟨g1, h1, h2, h3⟩ := H x (List.mem_cons_self ..) g e
    cases q : c x with
    | false =>
      obtain ⟨g2, h4⟩ := h3 q
      exact ⟨fun h => by simp [q] at h, fun _ => ⟨g2, by simp [forGo, h1, h4]⟩⟩
    | true =>
      obtain ⟨g2, h4, h5⟩ := h2 q
      obtain ⟨i1, i2⟩ := forGo_guard E enc c r (fun x hx => H x (List.mem_cons_of_mem _ hx)) g2 h5
      refine ⟨fun h => ?_, fun h => ?_⟩
      · obtain ⟨g', k1, k2⟩ := i1 (by simpa [q] using h)
        exact ⟨g', by simp [forGo, h1, h4, k1], k2⟩
      · obtain ⟨g', k1⟩ := i2 (by simpa only [List.all_cons, q, Bool.true_and] using h)
        exact ⟨g', by simp [forGo, h1, h4, k1]⟩
/-- a comprehension with an if: the thing is told where it passes -/
theorem lcGo_filt {α : Type} {t : Fg} {c : Ft} {f : Fe} {vs : List Nat} {g : G} (enc : α → D) (h : α → D) (p : α → Bool) : ∀ (xs : List α), (∀ x ∈ xs, ∃ g1 g2, t (enc x) g = some g1 ∧ c g1 = some (p x, g2) ∧ wipeG g2 vs = g ∧ (p x = true → ∃ g3, f g2 = some (h x, g3) ∧ wipeG g3 vs = g)) → lcGo t c f vs (xs.map enc) g = some ((xs.filter p).map h, g)
  | [], _ => rfl
  | d :: r, H => by
    obtain ⟨g1, g2, h1, h2, h3, h4⟩ := H d (List.mem_cons_self ..)
    have ih := lcGo_filt enc h p r fun d hd => H d (List.mem_cons_of_mem _ hd)
    by_cases e : p d = true
    · obtain ⟨g3, h4, h5⟩ := h4 e
      simp [lcGo, h1, h2, h4, h5, ih, e]
    · simp only [Bool.not_eq_true] at e
      simp [lcGo, h1, h2, h3, ih, e]
theorem vLc_filt {α : Type} {fi : Fa} {t : Fg} {c : Ft} {f : Fe} {vs : List Nat} {g g0 : G} {xs : List α} (enc : α → D) (h : α → D) (p : α → Bool) (hi : fi g = some (xs.map enc, g0)) (ok : okW g0 vs = true) (hl : xs.length ≤ 1000000)
    (H : ∀ x ∈ xs, ∃ g1 g2, t (enc x) (wipeG g0 vs) = some g1 ∧ c g1 = some (p x, g2) ∧ wipeG g2 vs = wipeG g0 vs ∧ (p x = true → ∃ g3, f g2 = some (h x, g3) ∧ wipeG g3 vs = wipeG g0 vs)) : vLc fi t c f vs g = some (.own none ((xs.filter p).map h), backG g0 (wipeG g0 vs) vs) := by
  have e := lcGo_filt enc h p xs H
  have l : (xs.filter p).length ≤ xs.length := List.length_filter_le ..
  exact vLc_of hi ok e (by simp; omega)
theorem lcGo_id {t : Fg} {c : Ft} {f : Fe} {vs : List Nat} {g : G} (h : D → D) (ds : List D) (H : ∀ x ∈ ds, ∃ g1 g2, t x g = some g1 ∧ c g1 = some (true, g1) ∧ f g1 = some (h x, g2) ∧ wipeG g2 vs = g) : lcGo t c f vs ds g = some (ds.map h, g) := by
  have := lcGo_map (t := t) (c := c) (f := f) (vs := vs) (g := g) (fun d => d) h ds H
  simpa using this
end Dl
set_option Elab.async false
set_option linter.all false
set_option maxRecDepth 100000
namespace Dl
open PySem PySem.Spec PyProof.Rows L2

/-! ### zip of three lists or tuples -/
def ItX3 (K : PySem.W.Frag) (t1 t2 t3 : Bool) (a b c : Addr) : It :=
  ⟨fun i H => ∃ (xs ys zs : List V) (x y z : V), Sq t1 K H a xs ∧ Sq t2 K H b ys ∧ Sq t3 K H c zs ∧ xs[i]? = some x ∧ ys[i]? = some y ∧ zs[i]? = some z,
    fun i H v H' => ∃ T x y z, v = .ref T ∧ H T = none ∧ H' = upd H T (.tup [x, y, z]) ∧ (∀ xs, Sq t1 K H a xs → xs[i]? = some x) ∧ (∀ ys, Sq t2 K H b ys → ys[i]? = some y) ∧ ∀ zs, Sq t3 K H c zs → zs[i]? = some z,
    fun i H => ∃ xs ys zs : List V, Sq t1 K H a xs ∧ Sq t2 K H b ys ∧ Sq t3 K H c zs ∧ i = min (min xs.length ys.length) zs.length⟩
theorem turnX3 {P : Program} {w : World} {K : PySem.W.Frag} {elts : List Expr} {kk : Nat} {tpos : Pos} {t1 t2 t3 : Bool} {a b d z TI TO i1 i2 i3 : Addr} (S : ZipSep3 z TI TO i1 i2 i3 [i1, a] [i2, b] [i3, d]) (hai : a ≠ i1) (hbi : b ≠ i2) (hdi : d ≠ i3) :
    Turn P w K (.Tuple elts kk tpos) (ItX3 K t1 t2 t3 a b d) [z, TI, TO, i1, i2, i3] z (fun i h => IsZip h z TI TO .none ∧ IsTupOf3 h TI (.ref i1) (.ref i2) (.ref i3) ∧ (∃ x y u, IsTupOf3 h TO x y u) ∧ IterAt t1 h i1 a i ∧ IterAt t2 h i2 b i ∧ IterAt t3 h i3 d i) where
  mem := by simp
  obj := fun i h st c hc => by
    obtain ⟨hz, hTI, ⟨x, y, u, hTO⟩, h1, h2, h3⟩ := st
    have e' : c = z ∨ c = TI ∨ c = TO ∨ c = i1 ∨ c = i2 ∨ c = i3 := by simpa using hc
    rcases e' with q | q | q | q | q | q
    · rw [q]; exact ⟨_, hz, fun v q => nomatch q⟩
    · rw [q]; exact ⟨_, hTI, fun v q => nomatch q⟩
    · rw [q]; exact ⟨_, hTO, fun v q => nomatch q⟩
    · rw [q]; exact h1.obj
    · rw [q]; exact h2.obj
    · rw [q]; exact h3.obj
  keep := fun i h h' st k => by
    obtain ⟨hz, hTI, ⟨x, y, u, hTO⟩, h1, h2, h3⟩ := st
    exact ⟨k z (by simp) _ hz, k TI (by simp) _ hTI, ⟨x, y, u, k TO (by simp) _ hTO⟩, h1.at fun o q => k i1 (by simp) o q, h2.at fun o q => k i2 (by simp) o q, h3.at fun o q => k i3 (by simp) o q⟩
  item := by
    intro X hP hw hK hc i pins s σ H E I hf st hg
    subst hP hw hK
    obtain ⟨hz, hTI, ⟨x0, y0, z0, hTO⟩, h1, h2, h3⟩ := st
    obtain ⟨xs, ys, zs, x, y, zz, hqx, hqy, hqz, hx, hy, hzz⟩ := hg
    obtain ⟨its, rv, p, _⟩ := invSq I hqx
    obtain ⟨its2, rv2, p2, _⟩ := invSq I hqy
    obtain ⟨its3, rv3, p3, _⟩ := invSq I hqz
    obtain ⟨u, hu, ru⟩ := rv.get hx
    obtain ⟨u2, hu2, ru2⟩ := rv2.get hy
    obtain ⟨u3, hu3, ru3⟩ := rv3.get hzz
    have hzl : z < s.heap.objs.size := Heap.lt_size hz
    have l1 : i < its.toArray.size := by
      have := (List.getElem?_eq_some_iff.mp hu).1
      simpa using this
    have l2 : i < its2.toArray.size := by
      have := (List.getElem?_eq_some_iff.mp hu2).1
      simpa using this
    have l3 : i < its3.toArray.size := by
      have := (List.getElem?_eq_some_iff.mp hu3).1
      simpa using this
    have hh : X.A.in1.handled = none := I.ok.hd hc
    refine wpAny_pyNext_zipD3_item S (drawsX hh t1 i1 a hai its.toArray) (drawsX hh t2 i2 b hbi its2.toArray) (drawsX hh t3 i3 d hdi its3.toArray) hz hTI hTO ⟨h1, p⟩ ⟨h2, p2⟩ ⟨h3, p3⟩ l1 l2 l3 fun v1 v2 v3 h' tk e1 e2 e3 z' TO' n1 n2 n3 hT hsz hk => ?_
    have e1 : v1 = u := by
      have : its[i]? = some v1 := by simpa using e1
      rw [hu] at this; exact (Option.some.inj this).symm
    have e2 : v2 = u2 := by
      have : its2[i]? = some v2 := by simpa using e2
      rw [hu2] at this; exact (Option.some.inj this).symm
    have e3 : v3 = u3 := by
      have : its3[i]? = some v3 := by simpa using e3
      rw [hu3] at this; exact (Option.some.inj this).symm
    subst e1 e2 e3
    refine ⟨_, rfl, wpAny_letOwnedTupleGo_zip (s := { s with heap := h', toks := tk }) z' fun h'' z'' sb => ?_⟩
    have hT2 : h''.get? s.heap.objs.size = some { cls := .type "tuple", data := .seq #[v1, v2, v3] } := (sb.2 _ (Nat.ne_of_gt hzl)).trans hT
    have new : ObjOk X.prog X.w (upd H s.heap.objs.size (.tup [x, y, zz])) h'' s.heap.objs.size (.tup [x, y, zz]) :=
      ⟨by show 3 ≤ sizeLine; decide, [v1, v2, v3], .cons ru (.cons ru2 (.cons ru3 .nil)), ⟨_, hT2, rfl, _, rfl⟩⟩
    have I1 : Inv X pins σ (upd H s.heap.objs.size (.tup [x, y, zz])) { s with heap := h'', toks := tk } :=
      I.turnedNew (t' := tk) (ch := [z, TI, TO, i1, i2, i3]) (fun c o hb q => (sb.2 c (fun q' => hb (by simp [q']))).trans (hk c o (fun q' => hb (by simp [q'])) (fun q' => hb (by simp [q'])) (fun q' => hb (by simp [q'])) (fun q' => hb (by simp [q'])) (fun q' => hb (by simp [q'])) q)) hf (Nat.le_refl _) new
    refine ⟨.ref s.heap.objs.size, _, I1, rfl, ⟨_, x, y, zz, rfl, I.hok.fresh (Nat.le_refl _), rfl, fun l hl => by rw [sqInj I hl hqx]; exact hx, fun l hl => by rw [sqInj I hl hqy]; exact hy, fun l hl => by rw [sqInj I hl hqz]; exact hzz⟩, ⟨z'', ?_, ⟨v1, v2, v3, ?_⟩, ?_, ?_, ?_⟩, fun c hcm => ?_⟩
    · exact (sb.2 _ S.TIz).trans (hk _ _ S.TIz S.TITO S.TIi1 S.TIi2 S.TIi3 hTI)
    · exact (sb.2 _ S.TOz).trans TO'
    · exact n1.1.at fun o q => (sb.2 _ (Ne.symm S.zi1)).trans q
    · exact n2.1.at fun o q => (sb.2 _ (Ne.symm S.zi2)).trans q
    · exact n3.1.at fun o q => (sb.2 _ (Ne.symm S.zi3)).trans q
    · have hlt : c < s.heap.objs.size := by
        have e' : c = z ∨ c = TI ∨ c = TO ∨ c = i1 ∨ c = i2 ∨ c = i3 := by simpa using hcm
        rcases e' with q | q | q | q | q | q
        · rw [q]; exact hzl
        · rw [q]; exact Heap.lt_size hTI
        · rw [q]; exact Heap.lt_size hTO
        · rw [q]; obtain ⟨_, e1, _⟩ := h1.obj; exact Heap.lt_size e1
        · rw [q]; obtain ⟨_, e2, _⟩ := h2.obj; exact Heap.lt_size e2
        · rw [q]; obtain ⟨_, e3, _⟩ := h3.obj; exact Heap.lt_size e3
      rw [upd_ne (Nat.ne_of_lt hlt)]
      exact (hf c hcm).1
  done := by
    intro X hP hw hK hc i pins s σ H E I hf st hg
    subst hP hw hK
    obtain ⟨hz, hTI, ⟨x0, y0, z0, hTO⟩, h1, h2, h3⟩ := st
    obtain ⟨xs, ys, zs, hqx, hqy, hqz, hend⟩ := hg
    obtain ⟨its, rv, p, _⟩ := invSq I hqx
    obtain ⟨its2, rv2, p2, _⟩ := invSq I hqy
    obtain ⟨its3, rv3, p3, _⟩ := invSq I hqz
    have l1 := rv.length
    have l2 := rv2.length
    have l3 := rv3.length
    have hh : X.A.in1.handled = none := I.ok.hd hc
    exact wpAny_pyNext_zipD3_end S (drawsX hh t1 i1 a hai its.toArray) (drawsX hh t2 i2 b hbi its2.toArray) (drawsX hh t3 i3 d hdi its3.toArray) hz hTI hTO ⟨h1, p⟩ ⟨h2, p2⟩ ⟨h3, p3⟩ (by simp; omega) (by simp; omega) (by simp; omega) (by simp; omega) fun h' tk hk => ⟨rfl, I.turnedL (t' := tk) (ch := [z, TI, TO, i1, i2, i3]) (fun c o hb q =>
      hk c o (fun q' => hb (by simp [q'])) (fun q' => hb (by simp [q'])) (fun q' => hb (by simp [q'])) (fun q' => hb (by simp [q'])) (fun q' => hb (by simp [q'])) q) hf⟩
  self := fun A i s Q E st h => wpAny_pyIter_zip st.1 h
def iZipX3 (K : PySem.W.Frag) (ta : TA) : TI := fun σ H R => ta σ H fun vs H1 => ∃ (t1 t2 t3 : Bool) (a b c : Addr) (xs ys zs : List V), vs = [.ref a, .ref b, .ref c] ∧ Sq t1 K H1 a xs ∧ Sq t2 K H1 b ys ∧ Sq t3 K H1 c zs ∧ R (ItX3 K t1 t2 t3 a b c) H1
theorem pi_zipX3 {X : Cx} {e e2 e3 : Expr} {ta : TA} {p pos tpos : Pos} {elts : List Expr} {kk : Nat} (hg : Gl X "zip") (hm : X.mg "zip" = none) (ha : PA X [e, e2, e3] ta)
    (hs : starEach [e, e2, e3] X.env = (false, eval e X.env) :: starEach [e2, e3] X.env := by rfl) (hpl : (backTo pos (starEach [e2, e3] X.env)).any (·.1) = false := by rfl) :
    PI X (.Tuple elts kk tpos) (.Call (.Name "zip" p) [e, e2, e3] [] pos) (iZipX3 X.K ta) := by
  refine ⟨fun pins s σ H R I h => ?_⟩
  refine Call_ (ld_blt I hg hm PyProof.Rows.boot_zip (PyProof.Rows.callWith_type1 (thn (ha.run pos pins s σ H _ I h) fun us s1 ⟨vs, H1, I1, r1, q1⟩ => ?_) hs hpl))
  obtain ⟨t1, t2, t3, a, b, d, xs, ys, zs, ex, hqx, hqy, hqz, q⟩ := q1
  subst ex
  cases r1 with
  | cons r rr =>
    cases rr with
    | cons r' rr =>
      cases rr with
      | cons r'' rr =>
        cases rr
        cases r
        cases r'
        cases r''
        have fresh6 : ∀ c, c ∈ [s1.heap.objs.size + 5, s1.heap.objs.size + 3, s1.heap.objs.size + 4, s1.heap.objs.size, s1.heap.objs.size + 1, s1.heap.objs.size + 2] → FpOk X pins H1 c := fun c hcm => by
          have e' : c = s1.heap.objs.size + 5 ∨ c = s1.heap.objs.size + 3 ∨ c = s1.heap.objs.size + 4 ∨ c = s1.heap.objs.size ∨ c = s1.heap.objs.size + 1 ∨ c = s1.heap.objs.size + 2 := by simpa using hcm
          have hle : s1.heap.objs.size ≤ c := by
            rcases e' with z | z | z | z | z | z
            · rw [z]; exact Nat.le_add_right _ _
            · rw [z]; exact Nat.le_add_right _ _
            · rw [z]; exact Nat.le_add_right _ _
            · rw [z]; exact Nat.le_refl _
            · rw [z]; exact Nat.le_add_right _ _
            · rw [z]; exact Nat.le_add_right _ _
          exact I1.fpOk hle (I1.hok.fresh hle)
        obtain ⟨its, rv, p1, la⟩ := invSq I1 hqx
        obtain ⟨its2, rv2, p2, lb⟩ := invSq I1 hqy
        obtain ⟨its3, rv3, p3, lc⟩ := invSq I1 hqz
        refine zip_begins3 (beginsX t1 a its.toArray) (beginsX t2 b its2.toArray) (beginsX t3 d its3.toArray) p1 p2 p3 fun h' hz hTI hTO h1 h2 h3 hsz hk => wpAny_pyIter_zip hz ?_
        have I2 : Inv X pins σ H1 { s1 with heap := h' } := I1.kept (t' := s1.toks) hk
        exact ⟨s1.heap.objs.size + 5, [s1.heap.objs.size + 5, s1.heap.objs.size + 3, s1.heap.objs.size + 4, s1.heap.objs.size, s1.heap.objs.size + 1, s1.heap.objs.size + 2], _, _, H1, rfl, I2,
          turnX3 (t1 := t1) (t2 := t2) (t3 := t3) (zip_sep3 (N := s1.heap.objs.size) (fp1 := [a]) (fp2 := [b]) (fp3 := [d]) (by simpa using la) (by simpa using lb) (by simpa using lc)) (Nat.ne_of_lt la) (Nat.ne_of_lt (Nat.lt_succ_of_lt lb)) (Nat.ne_of_lt (Nat.lt_succ_of_lt (Nat.lt_succ_of_lt lc))), ⟨hz, hTI, ⟨_, _, _, hTO⟩, IterAt.new h1, IterAt.new h2, IterAt.new h3⟩, fresh6, q⟩
variable {X : Cx}
def zipL3 : List D → List D → List D → List D
  | x :: xs, y :: ys, z :: zs => .tuple [x, y, z] :: zipL3 xs ys zs
  | _, _, _ => []
theorem zipL3_len : ∀ (xs ys zs : List D), (zipL3 xs ys zs).length = min (min xs.length ys.length) zs.length
  | [], _, _ => by simp [zipL3]
  | _ :: _, [], _ => by simp [zipL3]
  | _ :: _, _ :: _, [] => by simp [zipL3]
  | x :: xs, y :: ys, z :: zs => by
    simp only [zipL3, List.length_cons, zipL3_len xs ys zs]
    omega
theorem zipL3_at : ∀ (xs ys zs : List D) (j : Nat) (x y z : D), xs[j]? = some x → ys[j]? = some y → zs[j]? = some z → (zipL3 xs ys zs)[j]? = some (.tuple [x, y, z])
  | [], _, _, _, _, _, _, h, _, _ => by simp at h
  | _ :: _, [], _, _, _, _, _, _, h, _ => by simp at h
  | _ :: _, _ :: _, [], _, _, _, _, _, _, h => by simp at h
  | a :: xs, b :: ys, c :: zs, 0, x, y, z, h1, h2, h3 => by simp at h1 h2 h3; simp [zipL3, h1, h2, h3]
  | a :: xs, b :: ys, c :: zs, j + 1, x, y, z, h1, h2, h3 => by
    have := zipL3_at xs ys zs j x y z (by simpa using h1) (by simpa using h2) (by simpa using h3)
    simpa [zipL3] using this
theorem itdX3 {K : PySem.W.Frag} {F0 : Hp} {t1 t2 t3 : Bool} {a b c : Addr} {xs ys zs : List V} {ds es fs : List D} (hp : DpAll K F0 xs ds) (hq : DpAll K F0 ys es) (hr : DpAll K F0 zs fs)
    (s1 : ∀ H, Same F0 H → Sq t1 K H a xs) (s2 : ∀ H, Same F0 H → Sq t2 K H b ys) (s3 : ∀ H, Same F0 H → Sq t3 K H c zs) : Itd K F0 (ItX3 K t1 t2 t3 a b c) (zipL3 ds es fs) := by
  have e1 := dpLen hp
  have e2 := dpLen hq
  have e3 := dpLen hr
  have hl : (zipL3 ds es fs).length = min (min xs.length ys.length) zs.length := by rw [zipL3_len, e1, e2, e3]
  refine ⟨fun i H h hi => ?_, fun H h => ⟨xs, ys, zs, s1 H h, s2 H h, s3 H h, hl⟩, fun i F H x H' h1 h2 hi y => ?_⟩
  · rw [hl] at hi
    have a1 : i < xs.length := by omega
    have a2 : i < ys.length := by omega
    have a3 : i < zs.length := by omega
    exact ⟨xs, ys, zs, xs[i], ys[i], zs[i], s1 H h, s2 H h, s3 H h, by simp [a1], by simp [a2], by simp [a3]⟩
  · obtain ⟨T, u, v, w, k1, k2, k3, k4, k5, k6⟩ := y
    have hs := h1.trans h2
    obtain ⟨d, hd, q1⟩ := dpAtV hp (k4 xs (s1 H hs))
    obtain ⟨e, he, q2⟩ := dpAtV hq (k5 ys (s2 H hs))
    obtain ⟨f, hf, q3⟩ := dpAtV hr (k6 zs (s3 H hs))
    subst k1 k3
    exact ⟨_, _, zipL3_at ds es fs i d e f hd he hf, .tup (SqT.of upd_same) (dpUpd (.cons (dpMono h1 _ _ q1) (.cons (dpMono h1 _ _ q2) (.cons (dpMono h1 _ _ q3) .nil))) (nF h2 k2)), sameLaid h2 k2, Stp.laid k2 h2⟩
def iZipU3 (f : Fa) : Fa := fun g => match f g with
  | some ([d, e, z], g') => (seqD d).bind fun xs => (seqD e).bind fun ys => (seqD z).map fun zs => (zipL3 xs ys zs, g')
  | _ => none
theorem dpThree {K : PySem.W.Frag} {F : Hp} {vs : List V} {a b c : D} (h : DpAll K F vs [a, b, c]) : ∃ x y z, vs = [x, y, z] ∧ Dp K F x a ∧ Dp K F y b ∧ Dp K F z c := by
  cases h with
  | cons h1 h =>
    cases h with
    | cons h2 h =>
      cases h with
      | cons h3 h =>
        cases h
        exact ⟨_, _, _, rfl, h1, h2, h3⟩
theorem di_zipU3 {a b c : Expr} {p pos tp : Pos} {es : List Expr} {kk : Nat} {f : Fa} (hg : Gl X "zip") (hm : X.mg "zip" = none) (ha : DA X [a, b, c] f)
    (hs : starEach [a, b, c] X.env = (false, eval a X.env) :: starEach [b, c] X.env := by rfl) (hpl : (backTo pos (starEach [b, c] X.env)).any (·.1) = false := by rfl) :
    DI X (.Tuple es kk tp) (.Call (.Name "zip" p) [a, b, c] [] pos) (iZipU3 f) := piMono (pi_zipX3 hg hm ha hs hpl) fun s H R ⟨F, g, ds, g', r, e, k⟩ => by
  unfold iZipU3 at e
  split at e
  · rename_i d1 d2 d3 g1 q
    cases q1 : seqD d1 with
    | none => rw [q1] at e; cases e
    | some xs =>
      rw [q1] at e
      have e : (seqD d2).bind _ = some (ds, g') := e
      cases q2 : seqD d2 with
      | none => rw [q2] at e; cases e
      | some ys =>
        rw [q2] at e
        have e : (seqD d3).map _ = some (ds, g') := e
        cases q3 : seqD d3 with
        | none => rw [q3] at e; cases e
        | some zs =>
          rw [q3] at e; cases e
          refine ⟨F, g, _, _, r, q, fun vs F1 H1 p1 r1 t1 m1 => ?_⟩
          obtain ⟨v, w, u, rfl, h1, h2, h3⟩ := dpThree p1
          obtain ⟨ta, pa, us, rfl, sa, da⟩ := sqOf h1 r1.fh q1
          obtain ⟨tb, pb, ws, rfl, sb, db⟩ := sqOf h2 r1.fh q2
          obtain ⟨tc, pc, zz, rfl, sc, dc⟩ := sqOf h3 r1.fh q3
          exact ⟨ta, tb, tc, pa, pb, pc, us, ws, zz, rfl, sa _ r1.fh, sb _ r1.fh, sc _ r1.fh, k _ F1 H1 r1 t1 m1 (itdX3 da db dc sa sb sc)⟩
  · cases e
end Dl
set_option Elab.async false
set_option linter.all false
set_option maxRecDepth 100000
namespace Dl
open PySem PySem.Spec PyProof.Rows L2

/-! ### what is raised: the class's name, and the slots there -/
abbrev Fx := G → Option (Str × G)
def clV (mg : Str → Option Value) (c : Str) : Value := (mg c).getD .none
/-- an expression that raises -/
def tXE (K : PySem.W.Frag) (mg : Str → Option Value) (fx : Fx) (W : WX) : TE := fun s H _ => ∃ F g c g', Rep K F g s H ∧ fx g = some (c, g') ∧ ∀ F' H', Rep K F' g' s H' → Stp (OwnAt g s) F H F' H' → Mo g g' → W (clV mg c) none s H'
def XE (X : Cx) (e : Expr) (fx : Fx) : Prop := ∀ W, Takes X W → PE X e (tXE X.K X.mg fx W)
/-- a statement that raises -/
def tXS (K : PySem.W.Frag) (mg : Str → Option Value) (fx : Fx) (W : WX) : TS := fun _ s H => ∃ F g c g', Rep K F g s H ∧ fx g = some (c, g') ∧ ∀ F' s' H', Tr K F g s H F' g' s' H' → W (clV mg c) none s' H'
def XS (X : Cx) (st : Stmt) (fx : Fx) : Prop := ∀ W, Takes X W → PS X st (tXS X.K X.mg fx W)
def XSs (X : Cx) (st : List Stmt) (fx : Fx) : Prop := ∀ W, Takes X W → PSs X st (tXS X.K X.mg fx W)
section
variable {X : Cx}
theorem tXE.st {K : PySem.W.Frag} {mg : Str → Option Value} {fx : Fx} {W : WX} {D : Ends} {s : Sg} {H : Hp} {Q : VK} (h : tXS K mg fx W D s H) : tXE K mg fx W s H Q := by
  obtain ⟨F, g, c, g', r, e, k⟩ := h
  exact ⟨F, g, c, g', r, e, fun F' H' r' t m => k F' s H' (Tr.of r' t m)⟩
def xNo : Fx := fun _ => none
theorem xss_no {st : List Stmt} : XSs X st xNo := fun W tk => ⟨fun pins s σ H D I ⟨_, _, _, _, _, e, _⟩ => by cases e⟩
theorem xs_no {st : Stmt} : XS X st xNo := fun W tk => ⟨fun pins s σ H D I ⟨_, _, _, _, _, e, _⟩ => by cases e⟩
/-- raising, or on and raising behind -/
def xSeq (f : Fs) (fx hx : Fx) : Fx := fun g => match fx g with
  | some r => some r
  | none => match f g with
    | some (.nx g1) => hx g1
    | _ => none
theorem xss_cons {st : Stmt} {rest : List Stmt} {f : Fs} {fx hx : Fx} (h : DS X st f) (h1 : XS X st fx) (h2 : XSs X rest hx) : XSs X (st :: rest) (xSeq f fx hx) := fun W tk => by
  refine ⟨fun pins s σ H D I ⟨F, g, c, g', r, e, k⟩ => ?_⟩
  unfold xSeq at e
  split at e
  · rename_i r1 q
    cases e
    exact (pss_cons (h1 W tk) (xss_no (st := rest) W tk)).run pins s σ H D I ⟨F, g, c, g', r, q, k⟩
  · split at e
    · rename_i g1 q
      refine (pss_cons h (h2 W tk)).run pins s σ H D I ⟨F, g, .nx g1, r, q, fun F1 s1 H1 t1 => ⟨F1, g1, c, g', t1.rep, e, fun F2 s2 H2 t2 => k F2 s2 H2 (t1.trans t2)⟩⟩
    · cases e
theorem xss_one {st : Stmt} {fx : Fx} (h : XS X st fx) : XSs X [st] fx := fun W tk => pss_one (h W tk)
/-- if -/
def xIf (t : Ft) (fx hx : Fx) : Fx := fun g => (t g).bind fun p => if p.1 = true then fx p.2 else hx p.2
theorem xs_if {c : Expr} {a b : List Stmt} {pos : Pos} {t : Ft} {fx hx : Fx} (hc : DT X c t) (ha : XSs X a fx) (hb : XSs X b hx) : XS X (.If c a b pos) (xIf t fx hx) := fun W tk => psMono (ps_if hc (ha W tk) (hb W tk)) fun D s H ⟨F, g, c, g', r, e, k⟩ => by
  unfold xIf at e
  cases q : t g with
  | none => rw [q] at e; cases e
  | some p =>
    obtain ⟨b, g1⟩ := p
    rw [q] at e
    refine ⟨F, g, b, g1, r, q, fun F1 H1 r1 t1 m1 => ?_⟩
    have e : (if b = true then fx g1 else hx g1) = some (c, g') := e
    have tr := Tr.of r1 t1 m1
    cases b with
    | true =>
      rw [if_pos rfl] at e
      exact iteT ⟨F1, g1, c, g', r1, e, fun F2 s2 H2 t2 => k F2 s2 H2 (tr.trans t2)⟩
    | false =>
      rw [if_neg (by decide)] at e
      exact iteF ⟨F1, g1, c, g', r1, e, fun F2 s2 H2 t2 => k F2 s2 H2 (tr.trans t2)⟩
/-- an expression for itself, handed back, set -/
theorem xs_expr {a : Expr} {pos : Pos} {fx : Fx} (h : XE X a fx) (hs : swapsWith a none pos.line X.env = pure false := by rfl) : XS X (.Expr a pos) fx := fun W tk => psMono (ps_expr (h W tk) hs) fun D s H q => tXE.st q
theorem xs_ret {a : Expr} {pos : Pos} {fx : Fx} (h : XE X a fx) : XS X (.Return (some a) pos) fx := fun W tk => psMono (ps_ret (h W tk)) fun D s H q => tXE.st q
theorem xs_set (i : Nat) {x : Str} {a : Expr} {fx : Fx} {pos pos' : Pos} (hN : X.N.Nodup) (he : XE X a fx) (hi : X.N[i]? = some x := by rfl) (hx : Loc X.env.scope x := by first | exact Or.inl rfl | exact Or.inr rfl) (hs : swapsWith a (some (.Name x pos')) pos.line X.env = pure false := by rfl)
    (hf : X.fn x = true ∨ X.env.scope.names.lookup x = some .local := by first | exact .inl rfl | exact .inr rfl | assumption) : XS X (.Assign [.Name x pos'] a pos) fx := fun W tk => psMono (ps_set hN hi hx (he W tk) hs hf) fun D s H q => tXE.st q
end

/-! ### a def that raises -/
structure FnX (P : Program) (w : World) (K : PySem.W.Frag) (mg : Str → Option Value) (base : Heap) (k : Nat) (f : Addr) (fd : FuncData) (ps : List Str) (n : Nat) (x : List D → Option Str) : Prop where
  len : ps.length = n
  run : ∀ (A : Around) (outer : List Env) (st : Shared) (H F : Hp) (args : Args) (us : List Value) (vs : List V) (ds : List D) (c : Str) (E : XK), Room k A → A.guards = some [] → Env0 P w K mg base A outer st H → BindsTo st fd args (ps.zip us) → Vals vs us →
    Same F H → DpAll K F vs ds → ds.length = n → x ds = some c → (∀ F' H', Same F' H' → Stp Non F H F' H' → E (clV mg c) none H') →
    codeAny (model P w) A (.call (.ref f) args) (CR (L2.CX P w) outer P w H st (fun _ _ => False) E) st
theorem FnX.mono {P : Program} {w : World} {K : PySem.W.Frag} {mg : Str → Option Value} {base : Heap} {j k : Nat} {f : Addr} {fd : FuncData} {ps : List Str} {n : Nat} {x : List D → Option Str} (F : FnX P w K mg base j f fd ps n x) (h : j ≤ k) : FnX P w K mg base k f fd ps n x :=
  ⟨F.len, fun A outer st H Fz args us vs ds c E hr => F.run A outer st H Fz args us vs ds c E (hr.mono h)⟩
def fnX (fx : Fx) (N : Nat) (ds : List D) : Option Str := (fx (ds.map Sl.v ++ List.replicate (N - ds.length) .no)).map (·.1)
abbrev BodyX (P : Program) (w : World) (K : PySem.W.Frag) (mg : Str → Option Value) (base : Heap) (N : List Str) (qual : Str) (sc : Scope) (f : Addr) (cd : Value) (A : Around) (outer : List Env) (st : Shared) (H : Hp) (E : XK) : Cx := cxOf (L2.CX P w) P w K mg base N qual sc f cd A outer st H E
section
variable {P : Program} {w : World} {K : PySem.W.Frag} {mg : Str → Option Value} {base : Heap}
theorem fnX_ok {x qual : Str} {sd : Stmt} {f : Addr} {fd : FuncData} {N ps : List Str} {k : Nat} {fx : Fx} {n : Nat} (F : Fun K x qual sd f fd) (S : FnScope N ps (defScope sd)) (hn : ps.length = n)
    (hbody : ∀ (cd : Value) (A : Around) (outer : List Env) (st : Shared) (H : Hp) (E : XK), Room k (BodyX P w K mg base N qual (defScope sd) f cd A outer st H E).A → (BodyX P w K mg base N qual (defScope sd) f cd A outer st H E).A.guards = some [] →
      XSs (BodyX P w K mg base N qual (defScope sd) f cd A outer st H E) (defBody sd) fx) : FnX P w K mg base (k + 1) f fd ps n (fnX fx N.length) := by
  obtain ⟨oc, od, kV, doc, pm, an, cd, ct, osl, efd, lk, hcd⟩ := F.ex
  subst efd
  refine ⟨hn, fun A outer st H F0 args us vs ds c E room gd env0 bnd vals fh hp hl e wish => ?_⟩
  have hvl : vs.length = ps.length := by rw [dpLen hp, hl, hn]
  have inK : K.In st.heap := env0.mod.kin.keeps fun b o z => (env0.bs b o z).1
  have nolim : st.heap.NoLimit := env0.mod.nolimit.keeps fun b o z => (env0.bs b o z).1
  have kinds : ∀ q ∈ ps.zip us, (defScope sd).names.lookup q.1 = some .local ∨ ((defScope sd).names.lookup q.1 = some .cell ∧ ((cellsFrom (st.heap.objs.size + 1) (defScope sd).names []).lookup q.1).isSome = true) := by
    rintro ⟨nm, v⟩ hq
    exact (S.par nm (List.of_mem_zip hq).1).imp id fun z => ⟨z, PySem.W.cellsFrom_some _ _ _ (.inl z)⟩
  refine codeAny_call_function room.depth (inK _ _ lk) rfl S.co S.gen rfl (PySem.W.codeRec_of inK hcd) (bnd _ _ _ _ (wpAny_newFunctionEnv_cells S.kind kinds fun env he st1 inC => ?_))
  subst he
  refine ⟨nolim.keeps inC.toInCall.keep, codeAny_func ?_⟩
  have hb := hbody cd A outer st H E (room.deeper _) gd
  have I0 : Inv (BodyX P w K mg base N qual (defScope sd) f cd A outer st H E) [] (L2.start N vs) H st1 := inv_start S room.hd env0 hvl vals inC
  have tk : Takes (BodyX P w K mg base N qual (defScope sd) f cd A outer st H E) (fun cls d _ H => E cls d H) := takes_of rfl rfl rfl rfl
  unfold fnX at e
  cases q : fx (ds.map Sl.v ++ List.replicate (N.length - ds.length) .no) with
  | none => rw [q] at e; cases e
  | some r =>
    obtain ⟨c', g'⟩ := r
    rw [q] at e
    have e : c' = c := Option.some.inj e
    subst e
    have r0 := startRep (N := N) fh hp
    have noOwn : ∀ a, ¬ OwnAt (ds.map .v ++ List.replicate (N.length - ds.length) .no) (L2.start N vs) a := fun a ⟨i, t, es, h1, _⟩ => by
      by_cases hi : i < ds.length
      · rw [List.getElem?_append_left (by simpa using hi), List.getElem?_map] at h1
        cases q : ds[i]? with
        | none => rw [q] at h1; cases h1
        | some d => rw [q] at h1; cases h1
      · rw [List.getElem?_append_right (by simpa using hi), List.getElem?_replicate] at h1
        split at h1 <;> cases h1
    refine wpAny_mono ((hb _ tk).run [] st1 (L2.start N vs) H { nx := fun _ _ => False, rt := fun _ _ => False } I0 ⟨F0, _, c', g', r0, q, fun F' s' H' t => wish F' H' t.rep.fh (t.stp.weak fun b hb => noOwn b hb)⟩) (fun fl st2 hs => ?_) fun e st2 hs => hs
    cases fl with
    | ret u =>
      obtain ⟨v, _, H2, J, rv, q⟩ := hs
      exact q.elim
    | next =>
      obtain ⟨_, H2, J, q⟩ := hs
      exact q.elim
    | brk =>
      obtain ⟨_, _, _, q⟩ := hs
      exact q.elim
    | cont =>
      obtain ⟨_, _, _, q⟩ := hs
      exact q.elim
end
section
variable {X : Cx} {k : Nat} {f : Addr} {fd : FuncData} {ps : List Str} {n : Nat}
def xCall (x : List D → Option Str) (fs : Fa) : Fx := fun g => (fs g).bind fun p => (x p.1).map fun c => (c, p.2)
/-- f(e, ..) that raises -/
theorem xe_call {x : Str} {p pos : Pos} {e : Expr} {es : List Expr} {xm : List D → Option Str} {fs : Fa} (Fn : FnX X.prog X.w X.K X.mg X.base k f fd ps n xm) (room : Room k X.A) (gd : X.A.guards = some []) (hg : Gl X x) (hm : X.mg x = some (.ref f)) (hk : PySem.W.keepIn X.K (.ref f) = true) (hb : Binds X.K fd ps [])
    (ha : DA X (e :: es) fs) (hl : LenA fs n) (hdb : (x == ("__debug__" : Str)) = false := by decide) (he : starEach (e :: es) X.env = (false, eval e X.env) :: starEach es X.env := by rfl) (hpl : (backTo pos (starEach es X.env)).any (·.1) = false := by rfl) :
    XE X (.Call (.Name x p) (e :: es) [] pos) (xCall xm fs) := fun W tk => by
  refine ⟨fun pins st s H Q I h => ?_⟩
  obtain ⟨F, g, c, g', r, ex, wish⟩ := h
  unfold xCall at ex
  cases q : fs g with
  | none => rw [q] at ex; cases ex
  | some pr =>
    obtain ⟨ds, g1⟩ := pr
    rw [q] at ex
    have ex : (xm ds).map _ = some (c, g') := ex
    cases q2 : xm ds with
    | none => rw [q2] at ex; cases ex
    | some c' =>
      rw [q2] at ex
      cases ex
      have ta : tA X.K fs s H fun vs H1 => ∃ F1, DpAll X.K F1 vs ds ∧ Rep X.K F1 g1 s H1 ∧ Stp (OwnAt g s) F H F1 H1 ∧ Mo g g1 := ⟨F, g, ds, g1, r, q, fun vs F1 H1 p1 r1 t1 m1 => ⟨F1, p1, r1, t1, m1⟩⟩
      refine wpAny_Call_Name_kw (ld_glob I hg hm (PySem.W.callWith_K (h₀ := X.base) I.ok.mod.kin hk (thn (ha.run pos pins st s H _ I ta) fun us st1 hq => ?_) he hpl) hdb)
      obtain ⟨vs, H1, I1, rv, F1, p1, r1, t1, m1⟩ := hq
      refine ⟨I1.kIn, ?_⟩
      have hl' : (us ++ ([] : List Value)).length = ps.length := by rw [List.append_nil, ← rv.length, dpLen p1, hl _ _ _ q, Fn.len]
      have bt := hb st1 us I1.kIn hl'
      rw [List.append_nil] at bt
      refine wpAny_call (codeAny_mono (Fn.run X.A X.stack st1 H1 F1 ⟨us, []⟩ us vs ds c (fun cls d H' => W cls d s H') room gd I1.env0 bt rv r1.fh p1 (hl _ _ _ q) q2 fun F2 H2 fh2 t2 => wish F2 H2 (r1.stepN t2 fh2) (t1.andN t2) m1) fun res st2 hq => ?_)
      cases res with
      | error er => exact tk er st2 (XE.of_call I1 (fun cls d H' h => h) hq)
      | ok fl =>
        cases fl with
        | ret u =>
          obtain ⟨v, H', _, _, _, _, _, z⟩ := (show CE X.stack X.prog X.w H1 st1 (fun _ _ => False) u st2 from hq)
          exact z.elim
        | next => exact (show False from hq).elim
        | brk => exact (show False from hq).elim
        | cont => exact (show False from hq).elim
end
end Dl
set_option Elab.async false
set_option linter.all false
set_option maxRecDepth 100000
namespace Dl
open PySem PySem.Spec PyProof.Rows L2
section
variable {X : Cx}
/-! ### raise C() -/
theorem pmk_own0 {C : Addr} {bmB : List Value} {B newId initId : String} {x : Str} {p pos : Pos} (F : ExcBaseFacts B newId initId bmB) (q : PySem.W.excIn X.K C bmB newId = true) (gC : X.mg x = some (.ref C))
    (kC : PySem.W.keepIn X.K (.ref C) = true) (r : Raises X (.ref C)) (hg : Gl X x) (hdb : (x == ("__debug__" : Str)) = false := by decide) :
    PMk X (.Call (.Name x p) [] [] pos) (fun _ H Q => Q (.ref C) none H) := by
  intro pins s σ H Q I h
  refine wpAny_Call_Name_kw (ld_glob I hg gC ?_ hdb)
  refine PySem.W.callWith_K0 I.kIn kC ?_
  show wpAny _ _ (call (.ref C) []) _ _ _
  obtain ⟨bm, N, nm, qn, bs, hdct, sn, sub, ab, col, dd, k0, k1, k2, k3, k5, mN, hC, hN, hni, T⟩ := exc_obj I.kIn q
  refine wpAny_call_exc_subT F T hC hN hni (fun h' e hm => ?_) (Nat.zero_le _)
  exact mk_of I hm r h (I.hok.gone hm.new)
/-- a class of exceptions of the program, without own __init__ -/
structure ExK (K : PySem.W.Frag) (mg : Str → Option Value) (x : Str) where
  C : Addr
  g : mg x = some (.ref C)
  e : PySem.W.excIn K C He.veBase "ValueError.__new__" = true
  k : PySem.W.keepIn K (.ref C) = true
  s : PySem.W.subIn K (.ref C) (.type "BaseException") = some true
  t : PySem.W.typeIn K (.ref C) = some (.type "type")
def xRaise (c : Str) : Fx := fun g => some (c, g)
theorem xs_raise {x : Str} {p pos pos' : Pos} (E : ExK X.K X.mg x) (hg : Gl X x) (hc : X.calm = true) (hdb : (x == ("__debug__" : Str)) = false := by decide) : XS X (.Raise (some (.Call (.Name x p) [] [] pos)) none pos') (xRaise x) := fun W tk =>
  psMono (ps_raise hc tk (pmk_own0 PySem.F.excBase_ValueError E.e E.g E.k (raises_own E.s E.t) hg hdb)) fun D s H ⟨F, g, c, g', r, e, k⟩ => by
    cases e
    have := k F s H (Tr.refl r)
    unfold clV at this
    rw [E.g] at this
    exact this
/-! ### try .. except C as e -/
def unEx (i : Nat) : Out → Out
  | .nx g => .nx (g.set i .no)
  | .bk g => .bk (g.set i .no)
  | .ct g => .ct (g.set i .no)
  | .ret x g => .ret x (g.set i .no)
open Classical in
noncomputable def pickEx (i : Nat) (h : Addr → Option Out) : Option Out := if h : ∃ o : Out, ∀ a, ∃ o', h a = some o' ∧ unEx i o' = o then some h.choose else none
open Classical in
theorem pick_of {i : Nat} {h : Addr → Option Out} {o : Out} (hh : ∀ a, ∃ o', h a = some o' ∧ unEx i o' = o) : pickEx i h = some o := by
  have hx : ∃ o : Out, ∀ a, ∃ o', h a = some o' ∧ unEx i o' = o := ⟨o, hh⟩
  unfold pickEx
  rw [dif_pos hx]
  obtain ⟨o1, e1, u1⟩ := hx.choose_spec (0 : Nat)
  obtain ⟨o2, e2, u2⟩ := hh (0 : Nat)
  rw [e1] at e2
  cases e2
  rw [← u1, u2]
open Classical in
theorem pick_inv {i : Nat} {h : Addr → Option Out} {o : Out} (e : pickEx i h = some o) (a : Addr) : ∃ o', h a = some o' ∧ unEx i o' = o := by
  unfold pickEx at e
  split at e
  · rename_i hx
    cases e
    exact hx.choose_spec a
  · cases e
noncomputable def sTry (i : Nat) (cs : List Str) (f : Fs) (fx : Fx) (hs : Str → Addr → Fs) : Fs := fun g => match fx g with
  | none => f g
  | some (c, g') => if cs.contains c = true then pickEx i fun a => hs c a (g'.set i (.ex a)) else none
theorem sTry_none {i : Nat} {cs : List Str} {f : Fs} {fx : Fx} {hs : Str → Addr → Fs} {g : G} (e : fx g = none) : sTry i cs f fx hs g = f g := by
  unfold sTry
  rw [e]
theorem sTry_of {i : Nat} {cs : List Str} {f : Fs} {fx : Fx} {hs : Str → Addr → Fs} {g g' : G} {c : Str} {o : Out} (e : fx g = some (c, g')) (hc : cs.contains c = true) (h : ∀ a, ∃ o', hs c a (g'.set i (.ex a)) = some o' ∧ unEx i o' = o) : sTry i cs f fx hs g = some o := by
  unfold sTry
  rw [e]
  show (if cs.contains c = true then _ else _) = _
  rw [if_pos hc]
  exact pick_of h
/-- the exception into its slot -/
theorem Rep.putEx {K : PySem.W.Frag} {F H : Hp} {g : G} {s : Sg} (r : Rep K F g s H) (i : Nat) (a : Addr) : Rep K F (g.set i (.ex a)) (s.set i (some (.ref a))) H := r.put i (.ex a) (some (.ref a)) rfl (fun _ _ _ e => nomatch e)
theorem Rep.dropEx {K : PySem.W.Frag} {F H : Hp} {g : G} {s : Sg} (r : Rep K F g s H) (i : Nat) : Rep K F (g.set i .no) (s.set i none) H := r.put i .no none trivial (fun _ _ _ e => nomatch e)
theorem ownEx {g : G} {s : Sg} {i : Nat} {a b : Addr} (h : OwnAt (g.set i (.ex a)) (s.set i (some (.ref a))) b) : OwnAt g s b := by
  obtain ⟨j, t, es, e1, e2⟩ := h
  by_cases z : i = j
  · subst z
    by_cases hi : i < g.length
    · rw [List.getElem?_set_self hi] at e1; cases e1
    · rw [List.getElem?_eq_none (by simpa using hi)] at e1; cases e1
  · rw [List.getElem?_set_ne z] at e1 e2
    exact ⟨j, t, es, e1, e2⟩
theorem ownNo {g : G} {s : Sg} {i : Nat} {b : Addr} (h : OwnAt (g.set i .no) (s.set i none) b) : OwnAt g s b := by
  obtain ⟨j, t, es, e1, e2⟩ := h
  by_cases z : i = j
  · subst z
    by_cases hi : i < g.length
    · rw [List.getElem?_set_self hi] at e1; cases e1
    · rw [List.getElem?_eq_none (by simpa using hi)] at e1; cases e1
  · rw [List.getElem?_set_ne z] at e1 e2
    exact ⟨j, t, es, e1, e2⟩
theorem Tr.unEx {K : PySem.W.Frag} {F H F2 H2 : Hp} {g g2 : G} {s s2 : Sg} {i : Nat} {a : Addr} (t : Tr K F (g.set i (.ex a)) (s.set i (some (.ref a))) H F2 g2 s2 H2) : Tr K F g s H F2 (g2.set i .no) (s2.set i none) H2 :=
  ⟨t.rep.dropEx i, t.stp.weak fun b hb => ownEx hb, fun b hb => (t.own b (ownNo hb)).imp ownEx id⟩
def tSuite (K : PySem.W.Frag) (mg : Str → Option Value) (cs : List Str) (hs : Str → Addr → Fs) (a : Addr) (cls : Value) (d : Option Addr) : TS := fun D s H => ∃ c, cls = clV mg c ∧ d = none ∧ cs.contains c = true ∧ tS K (hs c a) D s H
theorem ds_try {x n : Str} {cv : Value} {body suite : List Stmt} {b₀ : Stmt} {np pos pos' : Pos} {f : Fs} {fx : Fx} {hs : Str → Addr → Fs} (i : Nat) (cs : List Str) (hst : X.stack = X.env :: X.outer) (hf : X.env.frame = some X.env.locals) (hN : X.N.Nodup) (hln : X.env.kindOf n = some .local) (hc : Names X x cv)
    (hexm : ∀ c, cs.contains c = true → PySem.W.exmOne X.K (clV X.mg c) cv = some true)
    (hb : ∀ (pn : List (Addr × Obj)) (xe : Value → Shared → Prop), DSs (X.tr pn xe) body f) (hbx : ∀ (pn : List (Addr × Obj)) (xe : Value → Shared → Prop), XSs (X.tr pn xe) body fx)
    (hsu : ∀ (a : Addr) (oe : Obj) (c : Str) (pn : List (Addr × Obj)), cs.contains c = true → Zc (clV X.mg c) none oe → (∃ vs, oe.data = .fields vs) → DSs (X.suite a ((a, oe) :: pn)) (b₀ :: suite) (hs c a)) (hi : X.N[i]? = some n := by rfl) :
    DS X (.Try body [.ExceptHandler (some (.Name x np)) (some n) (b₀ :: suite) pos'] [] [] pos) (sTry i cs f fx hs) := by
  refine psMono (ps_try_as (Wout := fun _ _ _ _ => False) (tb := fun W D s H => tXS X.K X.mg fx W D s H ∨ tS X.K f D s H) (ts := fun a cls d => tSuite X.K X.mg cs hs a cls d) hst hf hN hi hln hc (fun u s' ⟨_, _, _, _, _, _, _, _, _, _, _, _, _, _, _, _, w⟩ => w.elim)
    (fun W pn xe tk _ => ⟨fun pins s σ H D I h => h.elim (fun h => (hbx pn xe W tk).run pins s σ H D I h) (fun h => (hb pn xe).run pins s σ H D I h)⟩)
    (fun a oe cls d pn hz hv => ⟨fun pins s σ H D I ⟨c, ec, ed, hcc, h⟩ => by
      subst ec
      subst ed
      exact (hsu a oe c pn hcc hz hv).run pins s σ H D I h⟩)) fun D s H ⟨F, g, o, r, e, k⟩ => ?_
  cases q : fx g with
  | none =>
    rw [sTry_none q] at e
    exact .inr ⟨F, g, o, r, e, k⟩
  | some cg =>
    obtain ⟨c, g'⟩ := cg
    unfold sTry at e
    rw [q] at e
    have e : (if cs.contains c = true then pickEx i fun a => hs c a (g'.set i (.ex a)) else none) = some o := e
    split at e
    · rename_i hcc
      refine .inl ⟨F, g, c, g', r, q, fun F' s' H' t => ⟨true, hexm c hcc, fun _ a na => ?_, fun z => nomatch z⟩⟩
      obtain ⟨o', e1, e2⟩ := pick_inv e a
      refine ⟨c, rfl, rfl, hcc, F', _, o', t.rep.putEx i a, e1, ?_⟩
      have kb := k.back t
      subst e2
      cases o' with
      | nx g2 => exact fun F2 s2 H2 t2 => kb F2 _ H2 t2.unEx
      | bk g2 => exact fun F2 s2 H2 t2 => kb F2 _ H2 t2.unEx
      | ct g2 => exact fun F2 s2 H2 t2 => kb F2 _ H2 t2.unEx
      | ret x g2 =>
        intro v F2 s2 H2 hv hx ho t2
        refine kb v F2 _ H2 hv hx (fun tg ds z => ?_) t2.unEx
        obtain ⟨z1, b, z2, z3, z4⟩ := ho tg ds z
        exact ⟨z1, b, z2, z3.imp id ownEx, fun w => z4 (ownNo w)⟩
    · cases e
/-! ### isinstance(e, C) in the suite -/
def eIsE (i : Nat) (a : Addr) (b : Bool) : Fe := fun g => match g[i]? with
  | some (.ex a') => if a' = a then some (.bool b, g) else none
  | _ => none
end
end Dl
set_option Elab.async false
set_option linter.all false
set_option maxRecDepth 100000
namespace Dl
open PySem PySem.Spec PyProof.Rows L2
section
variable {X : Cx} {a D : Addr} {oe : Obj} {pn : List (Addr × Obj)}
theorem tIsE {K : PySem.W.Frag} {i : Nat} {b : Bool} {s : Sg} {H : Hp} {Q : VK} {c : V} {cv : Value} (hcv : ∀ u, RelV c u → u = cv) (hk : PySem.W.kitOne K (.ref D) cv = some b) (h : tD K (eIsE i a b) s H Q) :
    ∃ v, s[i]? = some (some v) ∧ rIsE K D a [v, c] H Q := by
  obtain ⟨F, g, d, g', r, e, k⟩ := h
  unfold eIsE at e
  split at e
  · rename_i a' hg
    split at e
    · rename_i hz
      subst hz
      cases e
      obtain ⟨o, ho, hx⟩ := r.get hg
      have hx : o = some (.ref a') := hx
      subst hx
      exact ⟨.ref a', ho, c, cv, b, rfl, hcv, hk, k _ F H (.bl b) r Stp.refl Mo.refl⟩
    · cases e
  · cases e
/-- isinstance(e, C), C an own class -/
theorem de_isE {i : Nat} {C : Addr} {x y : Str} {b : Bool} {p p1 p2 pos : Pos} (E : ExcC X.K D) (hz : Zc (.ref D) none oe) (hf : ∃ vs, oe.data = .fields vs) (hg : Gl (X.suite a ((a, oe) :: pn)) "isinstance") (hm : X.mg "isinstance" = none) (hgC : Gl (X.suite a ((a, oe) :: pn)) y) (hC : X.mg y = some (.ref C)) (hk : PySem.W.kitOne X.K (.ref D) (.ref C) = some b)
    (hN : X.N[i]? = some x := by rfl) (hv : Vis X.env.scope x := by first | exact Or.inl rfl | exact Or.inr (Or.inl rfl) | exact Or.inr (Or.inr rfl)) (hd : (x == ("__debug__" : Str)) = false := by decide) (hcd : (x == ("__classdict__" : Str)) = false := by decide) (hdy : (y == ("__debug__" : Str)) = false := by decide)
    (he : starEach [.Name x p1, .Name y p2] X.env = (false, eval (.Name x p1) X.env) :: starEach [.Name y p2] X.env := by rfl) (he2 : starEach [.Name y p2] X.env = (false, eval (.Name y p2) X.env) :: starEach [] X.env := by rfl) (hpl : (backTo pos (starEach [.Name y p2] X.env)).any (·.1) = false := by rfl) :
    DE (X.suite a ((a, oe) :: pn)) (.Call (.Name "isinstance" p) [.Name x p1, .Name y p2] [] pos) (eIsE i a b) :=
  peMono (pe_callB (X := X.suite a ((a, oe) :: pn)) (call_isE E hz hf) hg hm (by decide +kernel) (pa_cons (pe_var hN hv hd hcd) (pa_cons (pe_glob (v := .ref C) hgC hC rfl hdy) pa_nil he2) he) (by decide) (by decide) he hpl) fun s H Q h => by
    obtain ⟨v, h1, h2⟩ := tIsE (c := .ref C) (fun u hu => by cases hu; rfl) hk h
    exact ⟨v, h1, h2⟩
/-- .. of the interpreter's own -/
theorem de_isEB {i : Nat} {x y : Str} {n : String} {b : Bool} {p p1 p2 pos : Pos} (E : ExcC X.K D) (hz : Zc (.ref D) none oe) (hf : ∃ vs, oe.data = .fields vs) (hg : Gl (X.suite a ((a, oe) :: pn)) "isinstance") (hm : X.mg "isinstance" = none) (hgC : Gl (X.suite a ((a, oe) :: pn)) y) (hC : X.mg y = none) (hvC : bootBuiltins y = some (.type n)) (hk : PySem.W.kitOne X.K (.ref D) (.type n) = some b)
    (hN : X.N[i]? = some x := by rfl) (hv : Vis X.env.scope x := by first | exact Or.inl rfl | exact Or.inr (Or.inl rfl) | exact Or.inr (Or.inr rfl)) (hd : (x == ("__debug__" : Str)) = false := by decide) (hcd : (x == ("__classdict__" : Str)) = false := by decide) (hny : y ≠ "__name__" := by decide) (hdy : (y == ("__debug__" : Str)) = false := by decide)
    (he : starEach [.Name x p1, .Name y p2] X.env = (false, eval (.Name x p1) X.env) :: starEach [.Name y p2] X.env := by rfl) (he2 : starEach [.Name y p2] X.env = (false, eval (.Name y p2) X.env) :: starEach [] X.env := by rfl) (hpl : (backTo pos (starEach [.Name y p2] X.env)).any (·.1) = false := by rfl) :
    DE (X.suite a ((a, oe) :: pn)) (.Call (.Name "isinstance" p) [.Name x p1, .Name y p2] [] pos) (eIsE i a b) :=
  peMono (pe_callB (X := X.suite a ((a, oe) :: pn)) (call_isE E hz hf) hg hm (by decide +kernel) (pa_cons (pe_var hN hv hd hcd) (pa_cons (pe_bltn (v := .ty n) hgC hC hvC rfl hny hdy) pa_nil he2) he) (by decide) (by decide) he hpl) fun s H Q h => by
    obtain ⟨v, h1, h2⟩ := tIsE (c := .ty n) (fun u hu => by cases hu; rfl) hk h
    exact ⟨v, h1, h2⟩
end
end Dl
set_option Elab.async false
set_option linter.all false
set_option maxRecDepth 100000
namespace Dl
open PySem PySem.Spec PyProof.Rows L2
variable {X : Cx}
/-! ### methods that read a list: l.count(flag), l.index(flag), l of flags -/
def MrOk (K : PySem.W.Frag) (r : V → List V → Hp → VK → Prop) (op : D → D → Option D) : Prop := ∀ (l : Addr) (xs : List V) (ds : List D) (y : V) (d : D) (F H : Hp) (res : D) (Q : VK), SqL K H l xs → DpAll K F xs ds → Dp K F y d → Same F H → op (.list ds) d = some res →
  (∀ v, Dp K F v res → Q v H) → r (.ref l) [y] H Q
theorem de_mR {n : Str} {id : String} {o a : Expr} {fo f : Fe} {pos p2 : Pos} {r : V → List V → Hp → VK → Prop} {op : D → D → Option D} (slot : Slot "list" n id) (hty : typeOf (.builtin id) = pure (.type "method_descriptor")) (hm : MtR X id r) (ok : MrOk X.K r op) (hop : ∀ d e z, op d e = some z → ∃ ds, d = .list ds)
    (ho : DE X o fo) (he : DE X a f) (hbase : attributeBase o n X.env (eval o X.env) = eval o X.env := by rfl)
    (hfew : ((backTo pos (starEach [a] X.env)).all (fun x => !x.1) && (backToKw pos (keywordEach [] X.env)).all (fun x => x.1.isSome)
      && decide ([a].length + ([] : List Keyword).length + (if ([] : List Keyword).isEmpty then 0 else 1) < 30)) = true := by rfl)
    (hline : (p2.endLine == pos.line) = true := by rfl) (hs : starEach [a] X.env = (false, eval a X.env) :: starEach [] X.env := by rfl) (hplain : (backTo pos (starEach [] X.env)).any (·.1) = false := by rfl) :
    DE X (.Call (.Attribute o n p2) [a] [] pos) (eBin op fo f) :=
  peMono (pe_bm PySem.F.plainAttrs_list slot hty hm ho (pa_cons he pa_nil hs) hbase hfew hline hs hplain) fun s H Q ⟨F, g, d, g', r0, e, k⟩ => by
    unfold eBin at e
    cases q1 : fo g with
    | none => rw [q1] at e; cases e
    | some p1 =>
      obtain ⟨d1, g1⟩ := p1
      rw [q1] at e
      have e : (f g1).bind _ = some (d, g') := e
      cases q2 : f g1 with
      | none => rw [q2] at e; cases e
      | some p2 =>
        obtain ⟨d2, g2⟩ := p2
        rw [q2] at e
        have e : (op d1 d2).map _ = some (d, g') := e
        cases q3 : op d1 d2 with
        | none => rw [q3] at e; cases e
        | some z =>
          rw [q3] at e
          cases e
          obtain ⟨ds, rfl⟩ := hop _ _ _ q3
          refine ⟨F, g, _, g1, r0, q1, fun v1 F1 H1 p1 r1 t1 m1 => ?_⟩
          cases p1 with
          | lst hs1 hp1 =>
            refine ⟨.inl ⟨rfl, _, r1.fh.seq hs1⟩, F1, g1, d2, _, r1, q2, fun v2 F2 H2 p2 r2 t2 m2 => ?_⟩
            exact ok _ _ ds v2 d2 F2 H2 _ Q (r2.fh.seq (t2.fs.seq hs1)) (dpMonos t2.fs _ _ hp1) p2 r2.fh q3 fun v hv => k v F2 H2 hv r2 (t1.two m1 t2) (m1.trans m2)
def rCntF (K : PySem.W.Frag) : V → List V → Hp → VK → Prop := fun x xs H Q => ∃ (a : Addr) (ys : List V) (y : V), x = V.ref a ∧ xs = [y] ∧ SqL K H a ys ∧ flatV y = true ∧ ys.all flatV = true ∧ Q (.int (ys.countP (fun z => eqV z y) : Nat)) H
theorem eqU_count {y : V} : ∀ {ys : List V} {us : List Value}, Vals ys us → ys.all flatV = true → us.countP (eqU y) = ys.countP fun z => eqV z y
  | _, _, .nil, _ => rfl
  | z :: ys, u :: us, .cons r t, f => by
    rw [List.all_cons, Bool.and_eq_true] at f
    rw [List.countP_cons, List.countP_cons, eqU_count t f.2, eqU_of r f.1]
theorem mt_countF : MtR X "list.count" (rCntF X.K) := by
  intro pins s σ H x xs v us Q I rx rxs h
  obtain ⟨a, ys, y, rfl, rfl, hs, fy, fys, q⟩ := h
  cases rx
  cases rxs with
  | cons ry rt =>
    rename_i uy ut
    cases rt
    obtain ⟨its, rv, ⟨⟨cls, dd, data, sl⟩, n, ho, hc, hdn, hd⟩, hlen⟩ := I.list hs
    simp only at hc hd
    subst hc hd
    refine call_meets PySem.F.slot_list_count ⟨_, ho, rfl⟩ PySem.F.entry_list_count (PySem.F.args_list_count_2 _ _)
      (SeqAt.list_countAt a its.toArray n dd sl uy (eqU y)) ⟨ho, fun u' hu' => mem_eqAt ry fy rv fys u' (by simpa using hu'), ?_⟩
    have ec : its.toArray.toList.countP (eqU y) = ys.countP fun z => eqV z y := eqU_count rv fys
    refine ⟨.int (ys.countP (fun z => eqV z y) : Nat), H, I.tok _, ⟨s.toks, ?_⟩, q⟩
    show Value.int ((its.toArray.toList.countP (eqU y) : Nat) : Int) s.toks = Value.int ((ys.countP (fun z => eqV z y) : Nat) : Int) s.toks
    rw [ec]
/-- flags.count(b) -/
def cntBD : D → D → Option D
  | .list ds, .bool b => (boolL ds).map fun bs => .int (bs.count b : Nat)
  | _, _ => none
/-- flags.index(b) -/
def idxBD : D → D → Option D
  | .list ds, .bool b => (boolL ds).bind fun bs => if bs.contains b = true then some (.int (bs.idxOf b : Nat)) else none
  | _, _ => none
theorem flat_bls (bs : List Bool) : (bs.map V.bl).all flatV = true := by
  rw [List.all_map, List.all_eq_true]
  intro b _
  rfl
theorem cnt_bls (b : Bool) : ∀ bs : List Bool, (bs.map V.bl).countP (fun z => eqV z (.bl b)) = bs.count b
  | [] => rfl
  | x :: bs => by
    rw [List.map_cons, List.countP_cons, List.count_cons, cnt_bls b bs]
    rfl
theorem idx_min (b : Bool) : ∀ (bs : List Bool) (m : Nat) (c : Bool), m < bs.idxOf b → bs[m]? = some c → (c == b) = false
  | [], m, c, h, _ => by simp at h
  | x :: bs, m, c, h, e => by
    rw [List.idxOf_cons] at h
    cases q : x == b with
    | true => rw [q] at h; simp at h
    | false =>
      rw [q] at h
      cases m with
      | zero =>
        simp at e
        subst e
        exact q
      | succ m => exact idx_min b bs m c (by simpa using h) (by simpa using e)
theorem ok_cntB : MrOk X.K (rCntF X.K) cntBD := fun l xs ds y d F H res Q hs hp hy fh e k => by
  unfold cntBD at e
  split at e
  · rename_i ds' b e1
    cases e1
    cases q : boolL ds with
    | none => rw [q] at e; cases e
    | some bs =>
      rw [q] at e
      cases e
      have := boolL_of q hp
      subst this
      cases hy
      exact ⟨l, _, .bl b, rfl, rfl, hs, rfl, flat_bls bs, by rw [cnt_bls]; exact k _ (.int _)⟩
  · cases e
theorem ok_idxB : MrOk X.K (rIndex X.K) idxBD := fun l xs ds y d F H res Q hs hp hy fh e k => by
  unfold idxBD at e
  split at e
  · rename_i ds' b e1
    cases e1
    cases q : boolL ds with
    | none => rw [q] at e; cases e
    | some bs =>
      rw [q] at e
      have e : (if bs.contains b = true then some (PyData.int (bs.idxOf b : Nat)) else none) = some res := e
      split at e
      · rename_i hc
        cases e
        have := boolL_of q hp
        subst this
        cases hy
        have hm : b ∈ bs := by simpa using hc
        have hl := List.idxOf_lt_length_of_mem hm
        refine ⟨l, _, .bl b, bs.idxOf b, .bl b, rfl, rfl, hs, rfl, flat_bls bs, ?_, ?_, fun m z hmj hz => ?_, k _ (.int _)⟩
        · rw [List.getElem?_map, List.getElem?_eq_getElem hl, List.getElem_idxOf]
          rfl
        · show (b == b) = true
          simp
        · rw [List.getElem?_map] at hz
          cases q2 : bs[m]? with
          | none => rw [q2] at hz; cases hz
          | some c =>
            rw [q2] at hz
            cases hz
            exact idx_min b bs m c hmj q2
      · cases e
  · cases e
theorem de_countB {o a : Expr} {fo f : Fe} {pos p2 : Pos} (ho : DE X o fo) (he : DE X a f) (hbase : attributeBase o "count" X.env (eval o X.env) = eval o X.env := by rfl)
    (hfew : ((backTo pos (starEach [a] X.env)).all (fun x => !x.1) && (backToKw pos (keywordEach [] X.env)).all (fun x => x.1.isSome)
      && decide ([a].length + ([] : List Keyword).length + (if ([] : List Keyword).isEmpty then 0 else 1) < 30)) = true := by rfl)
    (hline : (p2.endLine == pos.line) = true := by rfl) (hs : starEach [a] X.env = (false, eval a X.env) :: starEach [] X.env := by rfl) (hplain : (backTo pos (starEach [] X.env)).any (·.1) = false := by rfl) :
    DE X (.Call (.Attribute o "count" p2) [a] [] pos) (eBin cntBD fo f) := de_mR PySem.F.slot_list_count PySem.F.type_list_count mt_countF ok_cntB (fun d e z h => by
      unfold cntBD at h
      split at h
      · exact ⟨_, rfl⟩
      · cases h) ho he hbase hfew hline hs hplain
theorem de_indexB {o a : Expr} {fo f : Fe} {pos p2 : Pos} (ho : DE X o fo) (he : DE X a f) (hbase : attributeBase o "index" X.env (eval o X.env) = eval o X.env := by rfl)
    (hfew : ((backTo pos (starEach [a] X.env)).all (fun x => !x.1) && (backToKw pos (keywordEach [] X.env)).all (fun x => x.1.isSome)
      && decide ([a].length + ([] : List Keyword).length + (if ([] : List Keyword).isEmpty then 0 else 1) < 30)) = true := by rfl)
    (hline : (p2.endLine == pos.line) = true := by rfl) (hs : starEach [a] X.env = (false, eval a X.env) :: starEach [] X.env := by rfl) (hplain : (backTo pos (starEach [] X.env)).any (·.1) = false := by rfl) :
    DE X (.Call (.Attribute o "index" p2) [a] [] pos) (eBin idxBD fo f) := de_mR PySem.F.slot_list_index PySem.F.type_list_index mt_index ok_idxB (fun d e z h => by
      unfold idxBD at h
      split at h
      · exact ⟨_, rfl⟩
      · cases h) ho he hbase hfew hline hs hplain
end Dl
set_option Elab.async false
set_option linter.all false
set_option maxRecDepth 100000
namespace Dl
open PySem PySem.Spec PyProof.Rows L2
section
variable {X : Cx}
/-! ### the suites by the class that is caught -/
def exCase (l : List (Str × (Addr → Fs))) (c : Str) (a : Addr) : Fs := match l.lookup c with
  | some h => h a
  | none => sNo
def AllP {α : Type} (P : α → Prop) : List α → Prop
  | [] => True
  | p :: l => P p ∧ AllP P l
theorem AllP.at {α : Type} {P : α → Prop} : ∀ {l : List α}, AllP P l → ∀ p ∈ l, P p
  | p :: l, h, q, hq => by
    rcases List.mem_cons.mp hq with rfl | hq
    · exact h.1
    · exact AllP.at h.2 q hq
theorem look_in : ∀ (l : List (Str × (Addr → Fs))) (c : Str), (l.map (·.1)).contains c = true → ∃ h, l.lookup c = some h ∧ (c, h) ∈ l
  | [], c, h => by simp at h
  | (k, h0) :: l, c, h => by
    by_cases q : c = k
    · subst q
      exact ⟨h0, by simp [List.lookup], by simp⟩
    · have hk : (c == k) = false := by simpa using q
      have : (l.map (·.1)).contains c = true := by
        rw [List.map_cons, List.contains_cons, hk, Bool.false_or] at h
        exact h
      obtain ⟨h1, e1, e2⟩ := look_in l c this
      exact ⟨h1, by rw [List.lookup_cons, hk]; exact e1, List.mem_cons_of_mem _ e2⟩
theorem ds_tryL {x n : Str} {cv : Value} {body suite : List Stmt} {b₀ : Stmt} {np pos pos' : Pos} {f : Fs} {fx : Fx} (i : Nat) (l : List (Str × (Addr → Fs))) (hst : X.stack = X.env :: X.outer) (hf : X.env.frame = some X.env.locals) (hN : X.N.Nodup) (hln : X.env.kindOf n = some .local) (hc : Names X x cv)
    (hexm : AllP (fun p : Str × (Addr → Fs) => ∃ D, X.mg p.1 = some (.ref D) ∧ PySem.W.exmOne X.K (.ref D) cv = some true) l)
    (hb : ∀ (pn : List (Addr × Obj)) (xe : Value → Shared → Prop), DSs (X.tr pn xe) body f) (hbx : ∀ (pn : List (Addr × Obj)) (xe : Value → Shared → Prop), XSs (X.tr pn xe) body fx)
    (hsu : ∀ (a : Addr) (oe : Obj) (pn : List (Addr × Obj)), (∃ vs, oe.data = .fields vs) → AllP (fun p : Str × (Addr → Fs) => ∃ D, X.mg p.1 = some (.ref D) ∧ (Zc (.ref D) none oe → DSs (X.suite a ((a, oe) :: pn)) (b₀ :: suite) (p.2 a))) l) (hi : X.N[i]? = some n := by rfl) :
    DS X (.Try body [.ExceptHandler (some (.Name x np)) (some n) (b₀ :: suite) pos'] [] [] pos) (sTry i (l.map (·.1)) f fx (exCase l)) := by
  have cl : ∀ {c : Str} {D : Addr}, X.mg c = some (.ref D) → clV X.mg c = .ref D := fun {c D} e => by
    unfold clV
    rw [e]
    rfl
  refine ds_try i (l.map (·.1)) hst hf hN hln hc (fun c hcc => ?_) hb hbx (fun a oe c pn hcc hz hv => ?_) hi
  · obtain ⟨h, _, hm⟩ := look_in l c hcc
    obtain ⟨D, e1, e2⟩ := hexm.at _ hm
    rw [cl e1]
    exact e2
  · obtain ⟨h, hl, hm⟩ := look_in l c hcc
    obtain ⟨D, e1, e2⟩ := (hsu a oe pn hv).at _ hm
    rw [cl e1] at hz
    unfold exCase
    rw [hl]
    exact e2 hz
/-! ### bool(an int) -/
def boolD : D → Option D
  | .int i => some (.bool (i != 0))
  | .bool b => some (.bool b)
  | _ => none
theorem ok_bool1 : C1Ok X.K (fun xs H Q => (∃ i, xs = [.int i] ∧ Q (.bl (i != 0)) H) ∨ ∃ k, xs = [.bl k] ∧ Q (.bl k) H) boolD := fun v d1 d F H Q fh p e k => by
  have p' := p.dp fh
  unfold boolD at e
  split at e
  · cases e
    cases p'
    exact .inl ⟨_, rfl, k _ F H (.bl _) fh Stp.refl⟩
  · cases e
    cases p'
    exact .inr ⟨_, rfl, k _ F H (.bl _) fh Stp.refl⟩
  · cases e
theorem de_bool1 {a : Expr} {f : Fe} {p pos : Pos} (hg : Gl X "bool") (hm : X.mg "bool" = none) (ha : DB X a f) (he : starEach [a] X.env = (false, eval a X.env) :: starEach [] X.env := by rfl) : DE X (.Call (.Name "bool" p) [a] [] pos) (eUn boolD f) := de_t1 call_bool1 ok_bool1 hg hm (by decide +kernel) ha (he := he)
end
/-! ### a def that calls itself and changes its first argument -/
theorem FnG.noneI {P : Program} {w : World} {K : PySem.W.Frag} {mg : Str → Option Value} {base : Heap} {k : Nat} {f : Addr} {fd : FuncData} {ps : List Str} {n : Nat} (hn : ps.length = n) : FnG P w K mg base k f fd ps (spI K n fun _ _ => Option.none) :=
  ⟨fun vs H Q h => by rw [hn]; exact spI_len vs H Q h, fun A outer st H args us vs Q _ _ _ _ _ h => by
    obtain ⟨_, _, _, _, _, _, _, _, _, _, _, _, _, _, _, e, _⟩ := h
    cases e⟩
/-! ### what the head looks at: a class of exceptions -/
def excB (K : PySem.W.Frag) (x : Str) : Bool :=
  decide (PySem.W.findIn K (.ref (He.ga K x)) "__getattribute__" = some (some (.builtin "BaseException.__getattribute__"))) && (decide (PySem.W.findIn K (.ref (He.ga K x)) "__getattr__" = some none) && (decide (PySem.W.subIn K (.ref (He.ga K x)) (.type "BaseException") = some true) &&
  (PySem.W.hasDictIn K (He.ga K x) && (decide (PySem.W.findIn K (.ref (He.ga K x)) "__class__" = some (some (.builtin "object.__class__"))) && (decide (PySem.W.specialIn K (.builtin "object.__class__") "__get__" = some (some (.builtin "getset_descriptor.__get__"))) &&
  (decide (PySem.W.takesIn K (.builtin "object.__class__") = some true) && decide (PySem.W.mroIn K (He.ga K x) (.type "object") = some true)))))))
theorem excB_ok {K : PySem.W.Frag} {x : Str} (h : excB K x = true) : ExcC K (He.ga K x) := by
  unfold excB at h
  simp only [Bool.and_eq_true, decide_eq_true_eq] at h
  obtain ⟨h1, h2, h3, h4, h5, h6, h7, h8⟩ := h
  exact ⟨h1, h2, h3, h4, h5, h6, h7, h8⟩
def kitRB (K : PySem.W.Frag) (x y : Str) (b : Bool) : Bool := decide (PySem.W.kitOne K (.ref (He.ga K x)) (.ref (He.ga K y)) = some b)
theorem kitRB_ok {K : PySem.W.Frag} {x y : Str} {b : Bool} (h : kitRB K x y b = true) : PySem.W.kitOne K (.ref (He.ga K x)) (.ref (He.ga K y)) = some b := of_decide_eq_true h
def kitTB (K : PySem.W.Frag) (x : Str) (n : String) (b : Bool) : Bool := decide (PySem.W.kitOne K (.ref (He.ga K x)) (.type n) = some b)
theorem kitTB_ok {K : PySem.W.Frag} {x : Str} {n : String} {b : Bool} (h : kitTB K x n b = true) : PySem.W.kitOne K (.ref (He.ga K x)) (.type n) = some b := of_decide_eq_true h
def exK_of {K : PySem.W.Frag} {mg : Str → Option Value} {x : Str} (g : mg x = some (.ref (He.ga K x))) (c : (He.Fa.exc x).ok K = true) : ExK K mg x := ⟨He.ga K x, g, (He.exc_ok c).1, (He.exc_ok c).2.1, (He.exc_ok c).2.2.1, (He.exc_ok c).2.2.2⟩
end Dl
set_option Elab.async false
set_option linter.all false
set_option maxRecDepth 100000
namespace Dl
open PySem PySem.Spec PyProof.Rows L2
/-! ### slots that nothing asks for any more are wiped -/
theorem Rep.forget1 {K : PySem.W.Frag} {F H : Hp} {g : G} {s : Sg} (r : Rep K F g s H) (i : Nat) : Rep K F (g.set i .no) s H := by
  refine ⟨r.fh, by simp [r.len], fun j y o' hy ho => ?_, fun j k a t u ds es h1 h2 h3 h4 => ?_⟩
  · by_cases z : i = j
    · subst z
      by_cases hi : i < g.length
      · rw [List.getElem?_set_self hi] at hy
        cases hy
        trivial
      · rw [List.getElem?_eq_none (by simpa using hi)] at hy; cases hy
    · rw [List.getElem?_set_ne z] at hy
      exact r.sl j y o' hy ho
  · have key : ∀ {m : Nat} {t : Option Addr} {ds : List D}, (g.set i .no)[m]? = some (.own t ds) → g[m]? = some (.own t ds) := fun {m t ds} e => by
      by_cases z : i = m
      · subst z
        by_cases hi : i < g.length
        · rw [List.getElem?_set_self hi] at e; cases e
        · rw [List.getElem?_eq_none (by simpa using hi)] at e; cases e
      · rwa [List.getElem?_set_ne z] at e
    exact r.uq j k a t u ds es (key h1) (key h2) h3 h4
theorem Rep.forget {K : PySem.W.Frag} {F H : Hp} {g : G} {s : Sg} (r : Rep K F g s H) : ∀ vs : List Nat, Rep K F (wipeG g vs) s H
  | [] => r
  | v :: vs => (r.forget vs).forget1 v
theorem ownForget {g : G} {s : Sg} {vs : List Nat} {b : Addr} (h : OwnAt (wipeG g vs) s b) : OwnAt g s b := by
  obtain ⟨i, t, ds, e, q⟩ := h
  by_cases hi : i ∈ vs
  · cases wipeG_in g vs i _ hi e
  · rw [wipeG_at g vs i hi] at e
    exact ⟨i, t, ds, e, q⟩
theorem Tr.forget {K : PySem.W.Frag} {F H F1 H1 : Hp} {g g1 : G} {s s1 : Sg} (t : Tr K F g s H F1 g1 s1 H1) (vs : List Nat) : Tr K F g s H F1 (wipeG g1 vs) s1 H1 :=
  ⟨t.rep.forget vs, t.stp, fun b h => t.own b (ownForget h)⟩
def wpOut (vs : List Nat) : Out → Out
  | .nx g => .nx (wipeG g vs)
  | .bk g => .bk (wipeG g vs)
  | .ct g => .ct (wipeG g vs)
  | .ret x g => .ret x g
def sWp (vs : List Nat) (f : Fs) : Fs := fun g => (f g).map (wpOut vs)
variable {X : Cx}
theorem end_wp {K : PySem.W.Frag} {F H : Hp} {g : G} {s : Sg} {D : Ends} {o : Out} {vs : List Nat} (k : endS K F g s H D (wpOut vs o)) : endS K F g s H D o := by
  cases o with
  | nx g1 => exact fun F1 s1 H1 t => k F1 s1 H1 (t.forget vs)
  | bk g1 => exact fun F1 s1 H1 t => k F1 s1 H1 (t.forget vs)
  | ct g1 => exact fun F1 s1 H1 t => k F1 s1 H1 (t.forget vs)
  | ret x g1 => exact k
theorem tS_wp {K : PySem.W.Frag} {f : Fs} {vs : List Nat} {D : Ends} {s : Sg} {H : Hp} (h : tS K (sWp vs f) D s H) : tS K f D s H := by
  obtain ⟨F, g, o, r, e, k⟩ := h
  unfold sWp at e
  cases q : f g with
  | none => rw [q] at e; cases e
  | some o1 =>
    rw [q] at e
    cases e
    exact ⟨F, g, o1, r, q, end_wp k⟩
theorem hu64S {k : Nat} {A : Around} (r : Room k A) (h : Option Value) : (A.mark h).units + 64 < cLine := hu64 (A := A) r
theorem hu65S {k : Nat} {A : Around} (r : Room k A) (h : Option Value) : (A.mark h).units + 65 < cLine := hu65 (A := A) r
/-! ### str(an int), str(a text) -/
def strD : D → Option D
  | .int i => if i.natAbs.log2 < 1920 then some (.str (toString i : String)) else none
  | .str x => some (.str x)
  | _ => none
theorem call_strU : CallR X (.type "str") (fun xs H Q => (∃ i, xs = [.int i] ∧ i.natAbs.log2 < 1920 ∧ Q (.str (toString i)) H) ∨ ∃ a, xs = [.str a] ∧ Q (.str a) H) := by
  intro pins s σ H xs us Q I r h
  rcases h with h | h
  · exact call_str_int pins s σ H xs us Q I r h
  · exact SkE.call_str_str pins s σ H xs us Q I r h
theorem ok_str1 : C1Ok X.K (fun xs H Q => (∃ i, xs = [.int i] ∧ i.natAbs.log2 < 1920 ∧ Q (.str (toString i)) H) ∨ ∃ a, xs = [.str a] ∧ Q (.str a) H) strD := fun v d1 d F H Q fh p e k => by
  have p' := p.dp fh
  unfold strD at e
  split at e
  · split at e
    · rename_i hl
      cases e
      cases p'
      exact .inl ⟨_, rfl, hl, k _ F H (.str _) fh Stp.refl⟩
    · cases e
  · cases e
    cases p'
    exact .inr ⟨_, rfl, k _ F H (.str _) fh Stp.refl⟩
  · cases e
theorem de_str1 {a : Expr} {f : Fe} {p pos : Pos} (hg : Gl X "str") (hm : X.mg "str" = none) (ha : DB X a f) (he : starEach [a] X.env = (false, eval a X.env) :: starEach [] X.env := by rfl) : DE X (.Call (.Name "str" p) [a] [] pos) (eUn strD f) := de_t1 call_strU ok_str1 hg hm (by decide +kernel) ha (he := he)
theorem ds_wp (vs : List Nat) {st : Stmt} {f : Fs} (h : DS X st f) : DS X st (sWp vs f) := psMono h fun D s H q => tS_wp q
theorem dss_wp (vs : List Nat) {st : List Stmt} {f : Fs} (h : DSs X st f) : DSs X st (sWp vs f) := pssMono h fun D s H q => tS_wp q
end Dl
set_option Elab.async false
set_option linter.all false
set_option maxRecDepth 100000
namespace Dl
open PySem PySem.Spec PyProof.Rows L2
/-! ### a, b, c, .. = e1, e2, e3, ..: lists of the frame's own among them -/
abbrev Fav := G → Option (List Sl × G)
def avNil : Fav := fun g => some ([], g)
def avCons (f : Fv) (fs : Fav) : Fav := fun g => (f g).bind fun p => (fs p.2).map fun q => (p.1 :: q.1, q.2)
theorem avCons_inv {f : Fv} {fs : Fav} {g g' : G} {xs : List Sl} (h : avCons f fs g = some (xs, g')) : ∃ x g1 ys, f g = some (x, g1) ∧ fs g1 = some (ys, g') ∧ xs = x :: ys := by
  unfold avCons at h
  cases q : f g with
  | none => rw [q] at h; cases h
  | some p =>
    rw [q] at h
    have h : (fs p.2).map _ = some (xs, g') := h
    cases q2 : fs p.2 with
    | none => rw [q2] at h; cases h
    | some w => rw [q2] at h; cases h; exact ⟨_, _, _, rfl, q2, rfl⟩
/-- values for slots: fresh own lists, apart from each other -/
inductive RepL (K : PySem.W.Frag) (F H H0 : Hp) : List Sl → List V → Prop
  | nil : RepL K F H H0 [] []
  | cons {x : Sl} {v : V} {xs : List Sl} {vs : List V} : RepS K F H x (some v) → (∀ t ds, x = .own t ds → t = none ∧ ∃ a, v = .ref a ∧ H0 a = none ∧ ∀ (i : Nat) (t' : Option Addr) (ds' : List D), xs[i]? = some (Sl.own t' ds') → vs[i]? ≠ some (V.ref a)) → RepL K F H H0 xs vs → RepL K F H H0 (x :: xs) (v :: vs)
theorem RepL.len {K : PySem.W.Frag} {F H H0 : Hp} : ∀ {xs : List Sl} {vs : List V}, RepL K F H H0 xs vs → vs.length = xs.length
  | _, _, .nil => rfl
  | _, _, .cons _ _ h => by simp [h.len]
theorem RepL.fr {K : PySem.W.Frag} {F H H0 : Hp} : ∀ {xs : List Sl} {vs : List V}, RepL K F H H0 xs vs → ∀ (i : Nat) t ds, xs[i]? = some (Sl.own t ds) → ∃ a, vs[i]? = some (V.ref a) ∧ H0 a = none
  | _, _, .nil, i, t, ds, e => by simp at e
  | _, _, .cons h1 h2 h, 0, t, ds, e => by
    simp at e
    obtain ⟨_, a, ea, na, _⟩ := h2 t ds e
    exact ⟨a, by simp [ea], na⟩
  | _, _, .cons h1 h2 h, i + 1, t, ds, e => by
    simp at e
    obtain ⟨a, ea, na⟩ := h.fr i t ds e
    exact ⟨a, by simpa using ea, na⟩
def tAV (K : PySem.W.Frag) (f : Fav) : TA := fun s H Q => ∃ F g xs g', Rep K F g s H ∧ f g = some (xs, g') ∧
  ∀ vs F' H', RepL K F' H' H xs vs → Rep K F' g' s H' → Stp (OwnAt g s) F H F' H' → Mo g g' → Q vs H'
def DAV (X : Cx) (es : List Expr) (f : Fav) : Prop := PA X es (tAV X.K f)
variable {X : Cx}
theorem dav_nil : DAV X [] avNil := paMono pa_nil fun s H Q ⟨F, g, xs, g', rp, e, k⟩ => by
  cases e
  exact k [] F H .nil rp Stp.refl Mo.refl
theorem dav_cons {a : Expr} {es : List Expr} {f : Fv} {fs : Fav} (ha : DV X a f) (hr : DAV X es fs) (hs : starEach (a :: es) X.env = (false, eval a X.env) :: starEach es X.env := by rfl) : DAV X (a :: es) (avCons f fs) := paMono (pa_cons ha hr hs) fun s H Q ⟨F, g, xs, g', r, e, k⟩ => by
  obtain ⟨x, g1, ys, e1, e2, rfl⟩ := avCons_inv e
  refine ⟨F, g, x, g1, r, e1, fun v F1 H1 hv hn r1 t1 m1 => ⟨F1, g1, ys, g', r1, e2, fun vs F2 H2 hv2 r2 t2 m2 => ?_⟩⟩
  have na : ∀ a, H a = none → ¬ OwnAt g1 s a := fun a ha z => by
    obtain ⟨xs, hx, _⟩ := r.ownSome (m1.own z)
    rw [ha] at hx; cases hx
  have up : ∀ {xs : List Sl} {vs : List V}, RepL X.K F2 H2 H1 xs vs → RepL X.K F2 H2 H xs vs := fun {xs vs} h => by
    induction h with
    | nil => exact .nil
    | cons h1 h2 h3 ih =>
      refine .cons h1 (fun t ds z => ?_) ih
      obtain ⟨z1, a, z2, z3, z4⟩ := h2 t ds z
      refine ⟨z1, a, z2, ?_, z4⟩
      cases q : H a with
      | none => rfl
      | some o => exact absurd z3 (t1.dom a (by rw [q]; simp))
  refine k (v :: vs) F2 H2 (.cons (keepRep r1 hv t2 (fun tg ds z => by
    obtain ⟨_, a, ea, n⟩ := hn tg ds z
    exact ⟨a, ea, na a n⟩) r2.fh) (fun t ds z => ?_) (up hv2)) r2 (t1.two m1 t2) (m1.trans m2)
  obtain ⟨z1, a, z2, z3⟩ := hn t ds z
  refine ⟨z1, a, z2, z3, fun i t' ds' hi hw => ?_⟩
  obtain ⟨a', ea', na'⟩ := hv2.fr i t' ds' hi
  rw [ea'] at hw
  cases hw
  subst z
  obtain ⟨a2, ys, ea, _, ha, _⟩ := hv
  rw [z2] at ea
  cases ea
  rw [na'] at ha
  cases ha
def okR : Sl → Bool
  | .no => false
  | .ex _ => false
  | _ => true
def setG : G → List Nat → List Sl → G
  | g, i :: is, x :: xs => setG (g.set i x) is xs
  | g, _, _ => g
def setS : Sg → List Nat → List V → Sg
  | s, i :: is, v :: vs => setS (s.set i (some v)) is vs
  | s, _, _ => s
def sParN (is : List Nat) (f : Fav) : Fs := fun g => (f g).bind fun p => if p.1.all okR = true ∧ p.1.length = is.length then some (.nx (setG p.2 is p.1)) else none
theorem par_setN {K : PySem.W.Frag} {F H F1 H1 : Hp} {g : G} {s : Sg} : ∀ (is : List Nat) (xs : List Sl) (vs : List V) (g1 : G) (s1 : Sg), Tr K F g s H F1 g1 s1 H1 → RepL K F1 H1 H xs vs → xs.all okR = true → (∀ (i : Nat) (t : Option Addr) (ds : List D) (a : Addr), xs[i]? = some (Sl.own t ds) → vs[i]? = some (V.ref a) → ¬ OwnAt g1 s1 a) →
    Tr K F g s H F1 (setG g1 is xs) (setS s1 is vs) H1
  | [], _, _, g1, s1, t, h, _, _ => by simpa [setG, setS] using t
  | i :: is, _, _, g1, s1, t, .nil, _, _ => by simpa [setG, setS] using t
  | i :: is, x :: xs, v :: vs, g1, s1, t, .cons h1 h2 h3, ok, no => by
    simp only [List.all_cons, Bool.and_eq_true] at ok
    have hx : x ≠ .no := fun z => by subst z; cases ok.1
    have hx' : ∀ b, x ≠ .ex b := fun b z => by subst z; cases ok.1
    have st := par_set i t h1 hx hx' fun tg ds z => by
      obtain ⟨z1, a, z2, z3, z4⟩ := h2 tg ds z
      exact ⟨z1, a, z2, z3, no 0 tg ds a (by simp [z]) (by simp [z2])⟩
    refine par_setN is xs vs _ _ st h3 ok.2 fun j t' ds' a hj hv hw => ?_
    rcases ownIn hw t.rep.len with q | ⟨tg, ds, ex, ev⟩
    · exact no (j + 1) t' ds' a (by simpa using hj) (by simpa using hv) q
    · obtain ⟨z1, a2, z2, z3, z4⟩ := h2 tg ds ex
      have : v = .ref a := by cases ev; rfl
      rw [this] at z2
      cases z2
      exact z4 j t' ds' hj hv
theorem tS_parN {K : PySem.W.Frag} {is : List Nat} {f : Fav} {D0 : Ends} {s : Sg} {H : Hp} (h : tS K (sParN is f) D0 s H) : tAV K f s H fun vs H1 => vs.length = is.length ∧ D0.nx (setS s is vs) H1 ∧ ∀ p, H1 p = none → D0.nx (setS s is vs) (upd H1 p (.tup vs)) := by
  obtain ⟨F, g, o, r, e, k⟩ := h
  unfold sParN at e
  cases q : f g with
  | none => rw [q] at e; cases e
  | some p =>
    obtain ⟨xs, g1⟩ := p
    rw [q] at e
    simp only [Option.bind_some] at e
    split at e
    · rename_i hok
      cases e
      refine ⟨F, g, xs, g1, r, q, fun vs F1 H1 hv r1 t1 m1 => ?_⟩
      have tr := par_setN is xs vs g1 s (Tr.of r1 t1 m1) hv hok.1 fun i t ds a hi ha z => by
        obtain ⟨a', ea, na⟩ := hv.fr i t ds hi
        rw [ea] at ha
        cases ha
        obtain ⟨_, hx, _⟩ := r.ownSome (m1.own z)
        rw [na] at hx; cases hx
      refine ⟨by rw [hv.len, hok.2], k F1 _ H1 tr, fun p np => ?_⟩
      exact k F1 _ _ (tr.trans (Tr.of (tr.rep.stepN (Stp.made np) (sameMade tr.rep.fh np)) (Stp.made np) Mo.refl))
    · cases e
theorem ds_parN3 (i j l : Nat) {x y z : Str} {a b c : Expr} {f : Fav} {px py pz pt pos : Pos} {kt k2 pt2} (hc : X.calm = true) (hN : X.N.Nodup) (ha : DAV X [a, b, c] f) (hi : X.N[i]? = some x := by rfl) (hj : X.N[j]? = some y := by rfl) (hl : X.N[l]? = some z := by rfl)
    (hij : i ≠ j := by decide) (hil : i ≠ l := by decide) (hjl : j ≠ l := by decide)
    (hx : X.env.scope.names.lookup x = some .local := by rfl) (hy : X.env.scope.names.lookup y = some .local := by rfl) (hz : X.env.scope.names.lookup z = some .local := by rfl)
    (hw : swappedStores [.Tuple [.Name x px, .Name y py, .Name z pz] kt pt] (.Tuple [a, b, c] k2 pt2) X.env = pure (some [x, y, z]) := by rfl)
    (hs : swapsWithSole [.Tuple [.Name x px, .Name y py, .Name z pz] kt pt] (.Tuple [a, b, c] k2 pt2) pos.line X.env = pure false := by rfl) :
    DS X (.Assign [.Tuple [.Name x px, .Name y py, .Name z pz] kt pt] (.Tuple [a, b, c] k2 pt2) pos) (sParN [i, j, l] f) := psMono (ps_par3 hc hN hi hj hl hij hil hjl hx hy hz ha hw hs) fun D0 s H h => by
  obtain ⟨F, g, xs, g1, r, q, k⟩ := tS_parN h
  refine ⟨F, g, xs, g1, r, q, fun vs F1 H1 hv r1 t1 m1 => ?_⟩
  obtain ⟨hl, k1, _⟩ := k vs F1 H1 hv r1 t1 m1
  match vs, hl with
  | [u, v, w], _ => exact ⟨u, v, w, rfl, k1⟩
/-- names to store into, one by one -/
inductive Nms (X : Cx) : List Expr → List Nat → Prop
  | nil : Nms X [] []
  | cons {x : Str} {p : Pos} {es : List Expr} {i : Nat} {is : List Nat} : X.N[i]? = some x → Loc X.env.scope x → (X.fn x = true ∨ X.env.scope.names.lookup x = some .local) → (assignEach (.Name x p :: es) X.env).map (·.2) = assign (.Name x p) X.env :: (assignEach es X.env).map (·.2) → Nms X es is → Nms X (.Name x p :: es) (i :: is)
def gNms : List Nat → TGs
  | [] => L2.gNil
  | i :: is => L2.gCons (L2.gName i) (gNms is)
theorem pgs_nms (hN : X.N.Nodup) : ∀ {es : List Expr} {is : List Nat}, Nms X es is → PGs X es (gNms is)
  | _, _, .nil => pgs_nil
  | _, _, .cons h1 h2 h3 h4 h => pgs_cons (pg_name hN h1 h2 h3) (pgs_nms hN h) h4
theorem gNms_of : ∀ (is : List Nat) (vs : List V) (s : Sg) (H : Hp) (Q : L2.St → Hp → Prop), vs.length = is.length → Q (setS s is vs) H → gNms is vs s H Q
  | [], [], s, H, Q, _, q => ⟨rfl, q⟩
  | i :: is, v :: vs, s, H, Q, hl, q => ⟨v, vs, rfl, gNms_of is vs _ H Q (by simpa using hl) q⟩
theorem nms_cons {x : Str} {p : Pos} {es : List Expr} (i : Nat) {is : List Nat} (h : Nms X es is) (hi : X.N[i]? = some x := by rfl) (hx : Loc X.env.scope x := by first | exact Or.inl rfl | exact Or.inr rfl) (hf : X.fn x = true ∨ X.env.scope.names.lookup x = some .local := by first | exact .inl rfl | exact .inr rfl | assumption)
    (hs : (assignEach (.Name x p :: es) X.env).map (·.2) = assign (.Name x p) X.env :: (assignEach es X.env).map (·.2) := by rfl) : Nms X (.Name x p :: es) (i :: is) := .cons hi hx hf hs h
/-- a real tuple is made, which nobody holds behind it -/
theorem ds_parN {ts es : List Expr} {is : List Nat} {f : Fav} {pt pos : Pos} {kt k2 pt2} (hc : X.calm = true) (hN : X.N.Nodup) (ha : DAV X es f) (hm : Nms X ts is) (hl : is.length ≤ 1000 := by decide)
    (hs : swapsWithSole [.Tuple ts kt pt] (.Tuple es k2 pt2) pos.line X.env = pure false := by rfl) (hw : swappedStores [.Tuple ts kt pt] (.Tuple es k2 pt2) X.env = pure none := by rfl)
    (hg : (assignEach [.Tuple ts kt pt] X.env).map (·.2) = [assign (.Tuple ts kt pt) X.env] := by rfl) (hn : (assignEach ts X.env).length = is.length := by rfl) (hst : (assignEach ts X.env).findIdx? (·.1) = none := by rfl) :
    DS X (.Assign [.Tuple ts kt pt] (.Tuple es k2 pt2) pos) (sParN is f) := psMono (ps_asg (pe_tup ha) (pg_tup hc (pgs_nms hN hm) hn hst) hs hw hg) fun D0 s H h => by
  obtain ⟨F, g, xs, g1, r, q, k⟩ := tS_parN h
  refine ⟨F, g, xs, g1, r, q, fun vs F1 H1 hv r1 t1 m1 => ?_⟩
  obtain ⟨hl', _, k2⟩ := k vs F1 H1 hv r1 t1 m1
  refine ⟨by rw [hl']; exact sl1000 hl, fun p np => ⟨p, vs, rfl, SqT.of upd_same, hl', gNms_of is vs s _ _ hl' (k2 p np)⟩⟩
end Dl
set_option Elab.async false
set_option linter.all false
set_option maxRecDepth 100000
namespace Dl
open PySem PySem.Spec PyProof.Rows L2
/-! ### steps of mirrors, one rule for each word: the sides are told by unification -/
section
variable {g g0 g1 g2 g3 g4 gw gw' : G} {i j : Nat}
theorem m_st0 {x y : Sl} : (x :: g).set 0 y = y :: g := rfl
theorem m_stS {x y : Sl} (h : g.set i y = g1) : (x :: g).set (i + 1) y = x :: g1 := by rw [List.set_cons_succ, h]
theorem m_gd0 {x d : Sl} : (x :: g).getD 0 d = x := rfl
theorem m_gdS {x d y : Sl} (h : g.getD i d = y) : (x :: g).getD (i + 1) d = y := by rw [List.getD_cons_succ, h]
theorem m_w0 : wipeG g [] = g := rfl
theorem m_wS {v : Nat} {vs : List Nat} (e : wipeG g vs = g1) (k : g1.set v .no = g2) : wipeG g (v :: vs) = g2 := by rw [wipeG, e, k]
theorem m_b0 : backG g1 g2 [] = g2 := rfl
theorem m_bS {v : Nat} {vs : List Nat} {x : Sl} (e : backG g1 g2 vs = g3) (q : g1.getD v .no = x) (k : g3.set v x = g4) : backG g1 g2 (v :: vs) = g4 := by rw [backG, e, q, k]
/- statements -/
def seqK (h : Fs) : Out → Option Out
  | .nx g1 => h g1
  | o => some o
theorem m_seq {f h : Fs} {o1 : Out} {o : Option Out} (e : f g = some o1) (e2 : seqK h o1 = o) : sSeq f h g = o := by
  unfold sSeq
  rw [e, ← e2]
  cases o1 <;> rfl
theorem m_knx {h : Fs} {o : Option Out} (e : h g1 = o) : seqK h (.nx g1) = o := e
theorem m_kret {h : Fs} {x : Sl} : seqK h (.ret x g1) = some (.ret x g1) := rfl
theorem m_kbk {h : Fs} : seqK h (.bk g1) = some (.bk g1) := rfl
theorem m_kct {h : Fs} : seqK h (.ct g1) = some (.ct g1) := rfl
def ifK {α : Type} (b : Bool) (x y : α) : α := if b = true then x else y
theorem m_it {α : Type} {x y o : α} (e : x = o) : ifK true x y = o := e
theorem m_if0 {α : Type} {x y o : α} (e : y = o) : ifK false x y = o := e
theorem m_itH {α : Type} {b : Bool} {x y o : α} (h : b = true) (e : x = o) : ifK b x y = o := by rw [h]; exact e
theorem m_ifH {α : Type} {b : Bool} {x y o : α} (h : b = false) (e : y = o) : ifK b x y = o := by rw [h]; exact e
theorem m_if {t : Ft} {f h : Fs} {b : Bool} {o : Option Out} (e : t g = some (b, g1)) (e2 : ifK b (f g1) (h g1) = o) : sIf t f h g = o := by
  unfold sIf
  rw [e]
  exact e2
theorem m_wp {vs : List Nat} {f : Fs} {o1 o2 : Out} (e : f g = some o1) (k : wpOut vs o1 = o2) : sWp vs f g = some o2 := by
  unfold sWp
  rw [e, ← k]
  rfl
theorem m_wnx {vs : List Nat} (k : wipeG g vs = g1) : wpOut vs (.nx g) = .nx g1 := by rw [wpOut, k]
theorem m_wct {vs : List Nat} (k : wipeG g vs = g1) : wpOut vs (.ct g) = .ct g1 := by rw [wpOut, k]
theorem m_wbk {vs : List Nat} (k : wipeG g vs = g1) : wpOut vs (.bk g) = .bk g1 := by rw [wpOut, k]
theorem m_wret {vs : List Nat} {x : Sl} : wpOut vs (.ret x g) = .ret x g := rfl
theorem m_nil : sNil g = some (.nx g) := rfl
theorem m_bk : sBk g = some (.bk g) := rfl
theorem m_ct : sCt g = some (.ct g) := rfl
theorem m_set {f : Fv} {x : Sl} {o : Out} (e : f g = some (x, g1)) (k : setOut i x g1 = some o) : sSet i f g = some o := by
  unfold sSet
  rw [e]
  exact k
theorem m_soV {d : D} (k : g.set i (.v d) = g1) : setOut i (.v d) g = some (.nx g1) := by rw [setOut, k]
theorem m_soO {ds : List D} (k : g.set i (.own none ds) = g1) : setOut i (.own none ds) g = some (.nx g1) := by rw [setOut, k]
theorem m_ret {f : Fv} {x : Sl} (e : f g = some (x, g1)) (k : okR x = true) : sRet f g = some (.ret x g1) := by
  unfold sRet
  rw [e]
  cases x <;> first | rfl | cases k
theorem m_rvV {d : D} (h : g[i]? = some (.v d)) : sRetV i g = some (.ret (.v d) g) := retV_v h
theorem m_rvO {ds : List D} (h : g[i]? = some (.own none ds)) (k : g.set i .no = g1) : sRetV i g = some (.ret (.own none ds) g1) := by rw [retV_o h, k]
theorem m_rN : sRetN g = some (.ret (.v .none) g) := rfl
theorem m_ex {f : Fe} {d : D} (e : f g = some (d, g1)) : sEx f g = some (.nx g1) := ex_of e
theorem m_for {f : Fa} {t : Fg} {b : Fs} {ds : List D} {o : Option Out} (e : f g = some (ds, g1)) (e2 : forGo t b ds g1 = o) : sFor f t b g = o := for_of e e2
theorem m_asg {f : Fe} {tg : Fg} {d : D} (e : f g = some (d, g1)) (k : tg d g1 = some g2) : sAsg f tg g = some (.nx g2) := asg_of e k
theorem m_gv {d : D} (k : g.set i (.v d) = g1) : gVar i d g = some g1 := by rw [gVar, k]
theorem m_gt {h : List D → G → Option G} {n : Nat} {d : D} {ds : List D} (hd : d = .tuple ds) (hn : ds.length = n) (k : h ds g = some g1) : gTup h n d g = some g1 := by
  subst hd
  show (if ds.length = n then h ds g else none) = _
  rw [if_pos hn, k]
theorem m_gc {f : Fg} {h : List D → G → Option G} {d : D} {r : List D} (e : f d g = some g1) (k : h r g1 = some g2) : gsCons f h (d :: r) g = some g2 := by
  show (f d g).bind _ = _
  rw [e]
  exact k
theorem m_gn : gsNil [] g = some g := rfl
theorem m_par {f h : Fv} {x y : Sl} {o : Out} (e : f g = some (x, g1)) (e2 : h g1 = some (y, g2)) (k : parOut i j x y g2 = some o) : sPar i j f h g = some o := by
  unfold sPar
  rw [e]
  show (h g1).bind _ = _
  rw [e2]
  exact k
theorem m_po {x y : Sl} (hx : okR x = true) (hy : okR y = true) (k1 : g.set i x = g1) (k2 : g1.set j y = g2) : parOut i j x y g = some (.nx g2) := by
  subst k1 k2
  cases x <;> cases y <;> first | rfl | (cases hx; done) | (cases hy; done)
theorem m_par3 {l : Nat} {f : Fa} {x y z : D} (e : f g = some ([x, y, z], g0)) (k1 : g0.set i (.v x) = g1) (k2 : g1.set j (.v y) = g2) (k3 : g2.set l (.v z) = g3) : sPar3 i j l f g = some (.nx g3) := by
  unfold sPar3
  rw [e, ← k3, ← k2, ← k1]
theorem m_av0 : avNil g = some ([], g) := rfl
theorem m_avS {f : Fv} {fs : Fav} {x : Sl} {xs : List Sl} (e : f g = some (x, g1)) (e2 : fs g1 = some (xs, g2)) : avCons f fs g = some (x :: xs, g2) := by
  unfold avCons
  rw [e]
  show (fs g1).map _ = _
  rw [e2]
  rfl
theorem m_sg0 {xs : List Sl} : setG g [] xs = g := by simp [setG]
theorem m_sgS {is : List Nat} {x : Sl} {xs : List Sl} (k : g.set i x = g1) (h : setG g1 is xs = g2) : setG g (i :: is) (x :: xs) = g2 := by rw [setG, k, h]
theorem m_parN {is : List Nat} {f : Fav} {xs : List Sl} (e : f g = some (xs, g1)) (ok : xs.all okR = true) (hl : xs.length = is.length) (k : setG g1 is xs = g2) : sParN is f g = some (.nx g2) := by
  unfold sParN
  simp only [e, Option.bind_some, ok, hl, and_self, if_true, k]
theorem m_put {fj : Fe} {f : Fv} {t : Option Addr} {ds : List D} {d : D} {k : Int} {j : Nat} (e : eV f g = some (d, g1)) (e0 : g1[i]? = some (.own t ds)) (e1 : fj g1 = some (.int k, g2)) (e2 : g2[i]? = some (.own t ds)) (e3 : L2.ixN ds.length k = some j) (k2 : g2.set i (.own t (ds.set j d)) = g3) : sPut i fj f g = some (.nx g3) := by
  rw [put_of e e0 e1 e2 e3, k2]
/- things -/
theorem m_c {d : D} : eC d g = some (d, g) := rfl
theorem m_vV {d : D} (h : g[i]? = some (.v d)) : eVar i g = some (d, g) := by
  unfold eVar
  rw [h]
theorem m_vO {ds : List D} (h : g[i]? = some (.own none ds)) (k : g.set i (.v (.list ds)) = g1) : eVar i g = some (.list ds, g1) := by
  unfold eVar
  rw [h, ← k]
theorem m_bvV {d : D} (h : g[i]? = some (.v d)) : bVar i g = some (d, g) := by
  unfold bVar
  rw [h]
theorem m_bvO {t : Option Addr} {ds : List D} (h : g[i]? = some (.own t ds)) : bVar i g = some (.list ds, g) := by
  unfold bVar
  rw [h]
theorem m_vE {f : Fe} {d : D} (e : f g = some (d, g1)) : vE f g = some (.v d, g1) := vE_of e
theorem m_eV {f : Fv} {x : Sl} {d : D} (e : f g = some (x, g1)) (k : dat x = some d) : eV f g = some (d, g1) := by
  unfold eV
  rw [e]
  show (dat x).map _ = _
  rw [k]
  rfl
theorem m_un {op : D → Option D} {f : Fe} {d d2 : D} (e : f g = some (d, g1)) (h : op d = some d2) : eUn op f g = some (d2, g1) := eUn_of e h
theorem m_bin {op : D → D → Option D} {f h : Fe} {d d2 d3 : D} (e : f g = some (d, g1)) (e2 : h g1 = some (d2, g2)) (k : op d d2 = some d3) : eBin op f h g = some (d3, g2) := eBin_of e e2 k
theorem m_ix {f : Fe} {a b d d2 : D} (e0 : slD g[i]? = some a) (e : f g = some (d, g1)) (e1 : slD g1[i]? = some b) (k : atD b d = some d2) : eIxV i f g = some (d2, g1) := ixV_v e0 e e1 k
theorem m_call {m : List D → Option Sl} {f : Fa} {ds : List D} {x : Sl} (e : f g = some (ds, g1)) (h : m ds = some x) : eCall m f g = some (x, g1) := eCall_of e h
theorem m_callI {m : List D → List D → Option (Sl × List D)} {f : Fa} {t : Option Addr} {es0 es es' ds : List D} {x : Sl} (e0 : ownD g[i]? = some es0) (e : f g = some (ds, g1)) (e1 : g1[i]? = some (.own t es)) (k : m es ds = some (x, es')) (k2 : g1.set i (.own t es') = g2) : eCallI m i f g = some (x, g2) := by
  rw [callI_of e0 e e1 k, k2]
theorem m_lst {f : Fa} {ds : List D} (e : f g = some (ds, g1)) : vLst f g = some (.own none ds, g1) := vLst_of e
theorem m_tup {f : Fa} {ds : List D} (e : f g = some (ds, g1)) : eTup f g = some (.tuple ds, g1) := eTup_of e
theorem m_an : aNil g = some ([], g) := rfl
theorem m_ac {f : Fe} {fs : Fa} {d : D} {ds : List D} (e : f g = some (d, g1)) (e2 : fs g1 = some (ds, g2)) : aCons f fs g = some (d :: ds, g2) := ar_cons e e2
theorem m_app {f : Fv} {t : Option Addr} {ds ds0 : List D} {d : D} (e0 : ownD g[i]? = some ds0) (e : eV f g = some (d, g1)) (e1 : g1[i]? = some (.own t ds)) (hl : ds.length < 1000000) (k : g1.set i (.own t (ds ++ [d])) = g2) : eApp i f g = some (.none, g2) := by
  rw [app_of e0 e e1 hl, k]
theorem m_ext {f : Fv} {t : Option Addr} {ds ds0 es : List D} (e0 : ownD g[i]? = some ds0) (e : f g = some (.own none es, g1)) (e1 : g1[i]? = some (.own t ds)) (hl : ds.length + es.length ≤ 1000000) (k : g1.set i (.own t (ds ++ es)) = g2) : eExt i f g = some (.none, g2) := by
  unfold eExt
  simp only [e0, e, e1, Option.bind_some, hl, if_true, k]
theorem m_v1 {op : D → Option (List D)} {f : Fe} {d : D} {ds : List D} (e : f g = some (d, g1)) (h : op d = some ds) : v1 op f g = some (.own none ds, g1) := by
  unfold v1
  rw [e]
  show (op d).map _ = _
  rw [h]
  rfl
theorem m_catE {f h : Fe} {xs ys : List D} (e : f g = some (.list xs, g1)) (e2 : h g1 = some (.list ys, g2)) (k : xs.length + ys.length ≤ 1000000) : vCatE f h g = some (.own none (xs ++ ys), g2) := by
  unfold vCatE
  simp only [e, e2, Option.bind_some, k, if_true]
theorem m_rep {f : Fv} {h : Fe} {xs : List D} {k : Int} (e : f g = some (.own none xs, g1)) (e2 : h g1 = some (.int k, g2)) (hk : -1000000 ≤ k ∧ k ≤ 1000000 ∧ xs.length * k.toNat ≤ 1000000) : vRep f h g = some (.own none (List.replicate k.toNat xs).flatten, g2) := by
  unfold vRep
  simp only [e, e2, Option.bind_some, hk, and_self, if_true]
theorem m_sl {fa : Fe} {fl fh : Fo} {lo hi : Option Int} {d d2 : D} (e : fa g = some (d, g1)) (e2 : fl g1 = some (lo, g2)) (e3 : fh g2 = some (hi, g3)) (k : (match d with | .tuple ds => some (.tuple (cutL ds lo hi)) | .list ds => some (.list (cutL ds lo hi)) | _ => none : Option D) = some d2) : eSlU fa fl fh g = some (d2, g3) := by
  unfold eSlU
  simp only [e, e2, e3, Option.bind_some]
  cases d <;> simp_all
theorem m_oN : oNone g = some (none, g) := rfl
theorem m_oS {f : Fe} {k : Int} (e : f g = some (.int k, g1)) : oSome f g = some (some k, g1) := oSome_of e
theorem m_seqI {f : Fe} {d : D} {ds : List D} (e : f g = some (d, g1)) (h : seqD d = some ds) : iSeq f g = some (ds, g1) := iSeq_of e h
theorem m_rg {f : Fa} {n : Nat} (e : f g = some ([.int (n : Int)], g1)) (h : n < 1000000) : iRange1 f g = some ((List.range n).map fun (i : Nat) => .int (i : Int), g1) := rng_of e h
theorem m_enum {f : Fa} {d : D} {ds : List D} (e : f g = some ([d], g1)) (h : seqD d = some ds) : iEnum' f g = some (pairL 0 ds, g1) := enum_of e h
theorem m_zip {f : Fa} {d e : D} {xs ys zs : List D} (e1 : f g = some ([d, e], g1)) (h : seqD d = some xs) (h2 : seqD e = some ys) (k : zipL xs ys = zs) : iZipU f g = some (zs, g1) := by
  unfold iZipU
  simp only [e1, h, h2, Option.bind_some, Option.map_some, k]
theorem m_zip3 {f : Fa} {d e z : D} {xs ys zs ws : List D} (e1 : f g = some ([d, e, z], g1)) (h : seqD d = some xs) (h2 : seqD e = some ys) (h3 : seqD z = some zs) (k : zipL3 xs ys zs = ws) : iZipU3 f g = some (ws, g1) := by
  unfold iZipU3
  simp only [e1, h, h2, h3, Option.bind_some, Option.map_some, k]
theorem m_eif {t : Ft} {f h : Fe} {b : Bool} {o : Option (D × G)} (e : t g = some (b, g1)) (e2 : ifK b (f g1) (h g1) = o) : eIf t f h g = o := by
  unfold eIf
  rw [e]
  exact e2
/- looks -/
theorem m_of {f : Fe} {d : D} {b : Bool} (e : f g = some (d, g1)) (k : truD d = some b) : tOf f g = some (b, g1) := by
  unfold tOf
  rw [e]
  show (truD d).map _ = _
  rw [k]
  rfl
theorem m_not {f : Ft} {b c : Bool} (e : f g = some (b, g1)) (k : (!b) = c) : Dl.tNotT f g = some (c, g1) := by rw [← k]; exact tNot_of e
theorem m_nb {b : Bool} : (!b) = !b := rfl
def andK (b : Bool) (h : Ft) (g : G) : Option (Bool × G) := if b = true then h g else some (false, g)
def orK (b : Bool) (h : Ft) (g : G) : Option (Bool × G) := if b = true then some (true, g) else h g
theorem m_tand {f h : Ft} {b : Bool} {o : Option (Bool × G)} (e : f g = some (b, g1)) (e2 : andK b h g1 = o) : Dl.tAndT f h g = o := by
  unfold Dl.tAndT
  rw [e]
  exact e2
theorem m_tor {f h : Ft} {b : Bool} {o : Option (Bool × G)} (e : f g = some (b, g1)) (e2 : orK b h g1 = o) : Dl.tOrT f h g = o := by
  unfold Dl.tOrT
  rw [e]
  exact e2
theorem m_akT {h : Ft} {o : Option (Bool × G)} (e : h g = o) : andK true h g = o := e
theorem m_akF {h : Ft} : andK false h g = some (false, g) := rfl
theorem m_akTH {b : Bool} {h : Ft} {o : Option (Bool × G)} (hb : b = true) (e : h g = o) : andK b h g = o := by rw [hb]; exact e
theorem m_akFH {b : Bool} {h : Ft} (hb : b = false) : andK b h g = some (false, g) := by rw [hb]; rfl
theorem m_akB {b c : Bool} {h : Ft} (e : b = true → h g = some (c, g)) : andK b h g = some (b && c, g) := by
  cases b with
  | false => rfl
  | true => exact e rfl
theorem m_okT {h : Ft} : orK true h g = some (true, g) := rfl
theorem m_okF {h : Ft} {o : Option (Bool × G)} (e : h g = o) : orK false h g = o := e
theorem m_okTH {b : Bool} {h : Ft} (hb : b = true) : orK b h g = some (true, g) := by rw [hb]; rfl
theorem m_okFH {b : Bool} {h : Ft} {o : Option (Bool × G)} (hb : b = false) (e : h g = o) : orK b h g = o := by rw [hb]; exact e
theorem m_okB {b c : Bool} {h : Ft} (e : b = false → h g = some (c, g)) : orK b h g = some (b || c, g) := by
  cases b with
  | true => rfl
  | false => exact e rfl
def andE (b : Bool) (h : Fe) (g : G) : Option (D × G) := if b = true then h g else some (.bool false, g)
def orE (b : Bool) (h : Fe) (g : G) : Option (D × G) := if b = true then some (.bool true, g) else h g
theorem m_and {f h : Fe} {b : Bool} {o : Option (D × G)} (e : f g = some (.bool b, g1)) (e2 : andE b h g1 = o) : eAnd f h g = o := by
  unfold eAnd
  rw [e, ← e2]
  cases b <;> rfl
theorem m_or {f h : Fe} {b : Bool} {o : Option (D × G)} (e : f g = some (.bool b, g1)) (e2 : orE b h g1 = o) : eOr f h g = o := by
  unfold eOr
  rw [e, ← e2]
  cases b <;> rfl
theorem m_aeT {h : Fe} {o : Option (D × G)} (e : h g = o) : andE true h g = o := e
theorem m_aeF {h : Fe} : andE false h g = some (.bool false, g) := rfl
theorem m_aeTH {b : Bool} {h : Fe} {o : Option (D × G)} (hb : b = true) (e : h g = o) : andE b h g = o := by rw [hb]; exact e
theorem m_aeFH {b : Bool} {h : Fe} (hb : b = false) : andE b h g = some (.bool false, g) := by rw [hb]; rfl
theorem m_aeB {b c : Bool} {h : Fe} (e : b = true → h g = some (.bool c, g)) : andE b h g = some (.bool (b && c), g) := by
  cases b with
  | false => rfl
  | true => exact e rfl
theorem m_oeT {h : Fe} : orE true h g = some (.bool true, g) := rfl
theorem m_oeF {h : Fe} {o : Option (D × G)} (e : h g = o) : orE false h g = o := e
theorem m_oeTH {b : Bool} {h : Fe} (hb : b = true) : orE b h g = some (.bool true, g) := by rw [hb]; rfl
theorem m_oeFH {b : Bool} {h : Fe} {o : Option (D × G)} (hb : b = false) (e : h g = o) : orE b h g = o := by rw [hb]; exact e
theorem m_oeB {b c : Bool} {h : Fe} (e : b = false → h g = some (.bool c, g)) : orE b h g = some (.bool (b || c), g) := by
  cases b with
  | true => rfl
  | false => exact e rfl
theorem m_chain {op op' : D → D → Option D} {fa fb fc : Fe} {d1 d2 d3 : D} {b c : Bool} (e1 : fa g = some (d1, g1)) (e2 : fb g1 = some (d2, g2)) (k1 : op d1 d2 = some (.bool b)) (e3 : b = true → fc g2 = some (d3, g2)) (k2 : b = true → op' d2 d3 = some (.bool c)) : eChain op op' fa fb fc g = some (.bool (b && c), g2) := by
  unfold eChain
  simp only [e1, e2, Option.bind_some, k1]
  cases b with
  | false => rfl
  | true => simp only [e3 rfl, Option.bind_some, k2 rfl, Option.map_some, Bool.true_and]
/- comprehensions -/
theorem m_lc {fi : Fa} {tg : Fg} {c : Ft} {f : Fe} {vs : List Nat} {ds ds' : List D} (hi : fi g = some (ds, g0)) (ok : okW g0 vs = true) (w : wipeG g0 vs = gw) (h : lcGo tg c f vs ds gw = some (ds', gw')) (hl : ds'.length ≤ 1000000) (bk : backG g0 gw' vs = g3) : vLc fi tg c f vs g = some (.own none ds', g3) := by
  rw [vLc_of hi ok (by rw [w]; exact h) hl, bk]
theorem m_lm {α : Type} {t : Fg} {c : Ft} {f : Fe} {vs : List Nat} {enc : α → D} {h : α → D} {xs : List α} (H : ∀ x ∈ xs, ∃ g1 g2, t (enc x) g = some g1 ∧ c g1 = some (true, g1) ∧ f g1 = some (h x, g2) ∧ wipeG g2 vs = g) : lcGo t c f vs (xs.map enc) g = some (xs.map h, g) := lcGo_map enc h xs H
theorem m_lmI {t : Fg} {c : Ft} {f : Fe} {vs : List Nat} {h : D → D} {ds : List D} (H : ∀ x ∈ ds, ∃ g1 g2, t x g = some g1 ∧ c g1 = some (true, g1) ∧ f g1 = some (h x, g2) ∧ wipeG g2 vs = g) : lcGo t c f vs ds g = some (ds.map h, g) := lcGo_id h ds H
theorem m_lf {α : Type} {t : Fg} {c : Ft} {f : Fe} {vs : List Nat} {enc : α → D} {h : α → D} {p : α → Bool} {xs : List α} (H : ∀ x ∈ xs, ∃ g1 g2, t (enc x) g = some g1 ∧ c g1 = some (p x, g2) ∧ wipeG g2 vs = g ∧ (p x = true → ∃ g3, f g2 = some (h x, g3) ∧ wipeG g3 vs = g)) : lcGo t c f vs (xs.map enc) g = some ((xs.filter p).map h, g) := lcGo_filt enc h p xs H
/- defs -/
def outR : Out → Option Sl
  | .ret y _ => some y
  | .nx _ => some (.v .none)
  | _ => none
theorem m_fnP {f : Fs} {N : Nat} {ds : List D} {x : Sl} {o : Out} (hg : ds.map Sl.v ++ List.replicate (N - ds.length) .no = g0) (h : f g0 = some o) (k : outR o = some x) : fnP f N ds = some x := by
  cases o with
  | ret y g' => cases k; exact fnP_ret g0 hg h
  | nx g' => cases k; exact fnP_nx g0 hg h
  | bk _ => cases k
  | ct _ => cases k
theorem m_pc {N : Nat} {d : D} {ds : List D} (h : ds.map Sl.v ++ List.replicate (N - ds.length) .no = g) : (d :: ds).map Sl.v ++ List.replicate (N + 1 - (d :: ds).length) .no = .v d :: g := by
  rw [← h]
  simp [Nat.add_sub_add_right]
theorem m_pn {N : Nat} (h : List.replicate N Sl.no = g) : ([] : List D).map Sl.v ++ List.replicate (N - ([] : List D).length) .no = g := h
theorem m_p0 : List.replicate 0 Sl.no = [] := rfl
theorem m_pS {N : Nat} (h : List.replicate N Sl.no = g) : List.replicate (N + 1) Sl.no = .no :: g := by rw [List.replicate_succ, h]
theorem m_iI {f : Fs} {N : Nat} {es ds : List D} {x : Sl} {es' : List D} (h : ∀ a : Addr, ∃ g0 g', ds.map Sl.v ++ List.replicate (N - (ds.length + 1)) .no = g0 ∧ f (.own (some a) es :: g0) = some (.ret x g') ∧ g'[0]? = some (.own (some a) es')) : fnI f N es ds = some (x, es') := fnI_ret fun a => by
  obtain ⟨g0, g', rfl, h2, h3⟩ := h a
  exact ⟨g', h2, h3⟩
theorem m_iI3 {f : Fs} {a : Addr} {g0 g' gg : G} {x : Sl} {es es' : List D} (h1 : gg = g0) (h2 : f (.own (some a) es :: g0) = some (.ret x g')) (h3 : g'[0]? = some (.own (some a) es')) : ∃ g0 g', gg = g0 ∧ f (.own (some a) es :: g0) = some (.ret x g') ∧ g'[0]? = some (.own (some a) es') := ⟨g0, g', h1, h2, h3⟩
theorem m_pcI {N : Nat} {d : D} {ds : List D} (h : ds.map Sl.v ++ List.replicate (N - (ds.length + 1)) .no = g) : (d :: ds).map Sl.v ++ List.replicate (N + 1 - ((d :: ds).length + 1)) .no = .v d :: g := by
  rw [← h]
  simp [Nat.add_sub_add_right]
theorem m_pnI {N : Nat} (h : List.replicate N Sl.no = g) : ([] : List D).map Sl.v ++ List.replicate (N + 1 - (([] : List D).length + 1)) .no = g := by simpa using h
theorem m_fnI {f : Fs} {N : Nat} {es ds : List D} {x : Sl} {es' : List D} (h : ∀ a : Addr, ∃ g', f (.own (some a) es :: (ds.map Sl.v ++ List.replicate (N - (ds.length + 1)) .no)) = some (.ret x g') ∧ g'[0]? = some (.own (some a) es')) : fnI f N es ds = some (x, es') := fnI_ret h
end
/-! ### loops over data told by a state -/
theorem forGo_fold {α σ : Type} {tg : Fg} {b : Fs} (enc : α → D) (E : σ → G) (step : σ → α → σ) (I : Nat → σ → Prop) (M : Nat) : ∀ (xs : List α) (n : Nat) (s : σ), n + xs.length ≤ M → I n s →
    (∀ x ∈ xs, ∀ n s, n < M → I n s → I (n + 1) (step s x) ∧ ∃ g1, tg (enc x) (E s) = some g1 ∧ b g1 = some (.nx (E (step s x)))) → forGo tg b (xs.map enc) (E s) = some (.nx (E (xs.foldl step s))) ∧ I (n + xs.length) (xs.foldl step s)
  | [], n, s, _, h, _ => ⟨rfl, h⟩
  | x :: xs, n, s, hM, h, H => by
    simp only [List.length_cons] at hM
    obtain ⟨h1, g1, h2, h3⟩ := H x (List.mem_cons_self ..) n s (by omega) h
    obtain ⟨k1, k2⟩ := forGo_fold enc E step I M xs (n + 1) (step s x) (by omega) h1 fun y hy => H y (List.mem_cons_of_mem _ hy)
    refine ⟨by simp [forGo, h2, h3, k1], ?_⟩
    rw [List.length_cons, Nat.add_comm xs.length, ← Nat.add_assoc]
    exact k2
/-- a loop that appends one thing a turn -/
theorem forGo_apps {α : Type} {tg : Fg} {b : Fs} (enc : α → D) (E : List D → G) (h : α → D) (M : Nat) : ∀ (xs : List α) (acc : List D), acc.length + xs.length ≤ M →
    (∀ x ∈ xs, ∀ acc, acc.length < M → ∃ g1, tg (enc x) (E acc) = some g1 ∧ b g1 = some (.nx (E (acc ++ [h x])))) → forGo tg b (xs.map enc) (E acc) = some (.nx (E (acc ++ xs.map h)))
  | [], acc, _, _ => by simp [forGo]
  | x :: xs, acc, hM, H => by
    simp only [List.length_cons] at hM
    obtain ⟨g1, h2, h3⟩ := H x (List.mem_cons_self ..) acc (by omega)
    have k1 := forGo_apps enc E h M xs (acc ++ [h x]) (by simp; omega) fun y hy => H y (List.mem_cons_of_mem _ hy)
    simp [forGo, h2, h3, k1]
end Dl
set_option Elab.async false
set_option linter.all false
set_option maxRecDepth 100000
namespace Dl
open PySem
/-! ### fractions -/
theorem gcd_fmod (a b : Int) : Int.gcd b (a.fmod b) = Int.gcd a b := by
  rw [Int.fmod_def, Int.gcd_sub_mul_left_right, Int.gcd_comm]
theorem fmod_lt (a b : Int) (h : b ≠ 0) : (a.fmod b).natAbs < b.natAbs := by
  rcases Int.lt_or_gt_of_ne h with h | h
  · have e : a.fmod b = -((-a).fmod (-b)) := by rw [Int.neg_fmod_neg]; omega
    have h1 := Int.fmod_nonneg_of_pos (-a) (b := -b) (by omega)
    have h2 := Int.fmod_lt_of_pos (-a) (b := -b) (by omega)
    omega
  · have h1 := Int.fmod_nonneg_of_pos a h
    have h2 := Int.fmod_lt_of_pos a h
    omega
def qD (r : Rat) : D := .tuple [.int r.num, .int r.den]
theorem fdiv_gcd {a b : Int} (hb : 0 < b) : a.fdiv (Int.gcd a b) = (Rat.divInt a b).num ∧ b.fdiv (Int.gcd a b) = (Rat.divInt a b).den := by
  have h1 : (0 : Int) ≤ (Int.gcd a b : Nat) := by omega
  rw [Int.fdiv_eq_ediv_of_nonneg _ h1, Int.fdiv_eq_ediv_of_nonneg _ h1, Rat.num_divInt, Rat.den_divInt]
  have h2 : b ≠ 0 := by omega
  rw [if_neg h2, Int.sign_eq_one_of_pos hb, Int.one_mul, Int.gcd_comm a b]
  refine ⟨rfl, ?_⟩
  rw [Int.natCast_ediv]
  have : (b.natAbs : Int) = b := by omega
  rw [this]
theorem gcd_okD {a b : Int} (hb : 0 < b) (hB : Int.gcd a b < 2 ^ 8900) : DivOk (Int.gcd a b) = true := by
  have h2 : 0 < Int.gcd a b := Int.gcd_pos_of_ne_zero_right _ (by omega)
  have h3 := log_lt (k := 8900) (by decide) hB
  unfold DivOk
  simp
  omega
theorem red (r : Rat) : Int.gcd r.num (r.den : Int) = 1 := by
  have := r.reduced
  simpa [Int.gcd] using this
theorem gcd_le_den (a : Int) {b : Int} (hb : 0 < b) : Int.gcd a b ≤ b.natAbs := Nat.le_of_dvd (by omega) (by rw [← Int.natAbs_natCast (Int.gcd a b)]; exact Int.natAbs_dvd_natAbs.mpr (Int.gcd_dvd_right ..))
theorem add_gcd (r s : Rat) : Int.gcd (r.num * (s.den : Int) + s.num * (r.den : Int)) ((r.den : Int) * (s.den : Int)) ≤ s.den * s.den := by
  obtain ⟨g, hg⟩ : ∃ g, g = Int.gcd (r.num * (s.den : Int) + s.num * (r.den : Int)) ((r.den : Int) * (s.den : Int)) := ⟨_, rfl⟩
  have g1 : (g : Int) ∣ r.num * (s.den : Int) + s.num * (r.den : Int) := by rw [hg]; exact Int.gcd_dvd_left ..
  have g2 : (g : Int) ∣ (r.den : Int) * (s.den : Int) := by rw [hg]; exact Int.gcd_dvd_right ..
  rw [← hg]
  have e1 : (g : Int) ∣ r.num * ((s.den : Int) * (s.den : Int)) := by
    have h1 := Int.dvd_sub (Int.dvd_mul_of_dvd_right (b := (s.den : Int)) g1) (Int.dvd_mul_of_dvd_right (b := s.num) g2)
    have e : (s.den : Int) * (r.num * (s.den : Int) + s.num * (r.den : Int)) - s.num * ((r.den : Int) * (s.den : Int)) = r.num * ((s.den : Int) * (s.den : Int)) := by grind
    rw [e] at h1
    exact h1
  have e2 : (g : Int) ∣ (r.den : Int) * ((s.den : Int) * (s.den : Int)) := by
    have h1 := Int.dvd_mul_of_dvd_right (b := (s.den : Int)) g2
    have e : (s.den : Int) * ((r.den : Int) * (s.den : Int)) = (r.den : Int) * ((s.den : Int) * (s.den : Int)) := by grind
    rw [e] at h1
    exact h1
  have e3 : g ∣ Int.gcd (r.num * ((s.den : Int) * (s.den : Int))) ((r.den : Int) * ((s.den : Int) * (s.den : Int))) := Int.dvd_gcd e1 e2
  rw [Int.gcd_mul_right, red, Nat.one_mul, Int.natAbs_mul, Int.natAbs_natCast] at e3
  exact Nat.le_of_dvd (Nat.mul_pos s.den_pos s.den_pos) e3
structure B0 (k : Nat) (r : Rat) : Prop where
  num : r.num.natAbs < 2 ^ k
  den : r.den < 2 ^ k
theorem mul_rat (r s : Rat) : Rat.divInt (r.num * s.num) ((r.den : Int) * (s.den : Int)) = r * s := by
  rw [Rat.mul_def', ← Int.natCast_mul, Rat.divInt_ofNat]
theorem add_rat (r s : Rat) : Rat.divInt (r.num * (s.den : Int) + s.num * (r.den : Int)) ((r.den : Int) * (s.den : Int)) = r + s := by
  rw [Rat.add_def', ← Int.natCast_mul, Rat.divInt_ofNat]
theorem add_rat' (r s : Rat) (h : r.den = s.den) : Rat.divInt (r.num + s.num) (r.den : Int) = r + s := by
  have hd : (r.den : Int) ≠ 0 := by have := r.den_pos; omega
  rw [← add_rat, ← h, ← Int.add_mul, Rat.divInt_mul_right hd]
theorem div_rat (r s : Rat) : Rat.divInt (r.num * (s.den : Int)) ((r.den : Int) * s.num) = r / s := by
  have h := Rat.divInt_mul_divInt r.num (s.den : Int) (d₁ := (r.den : Int)) (d₂ := s.num)
  rw [← h, Rat.num_divInt_den, Rat.div_def, Rat.inv_def]
theorem natAbs_lt {n m : Nat} (h : n < m) : ((n : Nat) : Int).natAbs < m := by rw [Int.natAbs_natCast]; exact h
theorem lt_mul2 {a b c d : Nat} (h1 : a < 2 ^ c) (h2 : b < 2 ^ d) : a * b < 2 ^ (c + d) := by
  rw [Nat.pow_add]
  exact Nat.mul_lt_mul'' h1 h2
theorem B0.add {j k : Nat} {r s : Rat} (hr : B0 j r) (hs : B0 k s) : B0 (j + k + 1) (r + s) := by
  have hrd := r.den_pos
  have hsd := s.den_pos
  rw [← add_rat]
  have hb : 0 < (r.den : Int) * (s.den : Int) := Int.mul_pos (by omega) (by omega)
  have h1 := lt_mul2 hr.num hs.den
  have h2 := lt_mul2 hs.num hr.den
  have h4 := lt_mul2 hr.den hs.den
  rw [Nat.add_comm k j] at h2
  have h3 := Int.natAbs_add_le (r.num * (s.den : Int)) (s.num * (r.den : Int))
  rw [Int.natAbs_mul, Int.natAbs_mul] at h3
  simp only [Int.natAbs_natCast] at h3
  refine ⟨?_, ?_⟩
  · rw [Rat.num_divInt, Int.sign_eq_one_of_pos hb, Int.one_mul, Nat.pow_succ]
    have := Int.natAbs_ediv_le_natAbs (r.num * (s.den : Int) + s.num * (r.den : Int)) ((Int.gcd ((r.den : Int) * (s.den : Int)) (r.num * (s.den : Int) + s.num * (r.den : Int)) : Nat) : Int)
    omega
  · rw [Rat.den_divInt, if_neg (by omega), Nat.pow_succ]
    have := Nat.div_le_self ((r.den : Int) * (s.den : Int)).natAbs (Int.gcd ((r.den : Int) * (s.den : Int)) (r.num * (s.den : Int) + s.num * (r.den : Int)))
    rw [Int.natAbs_mul, Int.natAbs_natCast, Int.natAbs_natCast] at this
    rw [Int.natAbs_mul, Int.natAbs_natCast, Int.natAbs_natCast]
    omega
theorem B0.mono {j k : Nat} {r : Rat} (h : B0 j r) (e : j ≤ k) : B0 k r := by
  have := Nat.pow_le_pow_right (n := 2) (by decide) e
  exact ⟨by have := h.num; omega, by have := h.den; omega⟩
theorem divInt_b0 {a b : Int} {k : Nat} (hb : 0 < b) (h1 : a.natAbs < 2 ^ k) (h2 : b.natAbs < 2 ^ k) : B0 k (Rat.divInt a b) := by
  refine ⟨?_, ?_⟩
  · rw [Rat.num_divInt, Int.sign_eq_one_of_pos hb, Int.one_mul]
    have := Int.natAbs_ediv_le_natAbs a ((Int.gcd b a : Nat) : Int)
    omega
  · rw [Rat.den_divInt, if_neg (by omega)]
    exact Nat.lt_of_le_of_lt (Nat.div_le_self ..) h2
theorem B0.mul {j k : Nat} {r s : Rat} (hr : B0 j r) (hs : B0 k s) : B0 (j + k) (r * s) := by
  rw [← mul_rat]
  refine divInt_b0 (Int.mul_pos (by have := r.den_pos; omega) (by have := s.den_pos; omega)) ?_ ?_
  · rw [Int.natAbs_mul]; exact lt_mul2 hr.num hs.num
  · rw [Int.natAbs_mul]; exact lt_mul2 (natAbs_lt hr.den) (natAbs_lt hs.den)
theorem B0.neg {k : Nat} {r : Rat} (h : B0 k r) : B0 k (-r) := ⟨by rw [Rat.neg_num, Int.natAbs_neg]; exact h.num, by rw [Rat.neg_den]; exact h.den⟩
theorem b0_zero {k : Nat} (hk : 1 ≤ k) : B0 k 0 := B0.mono (j := 1) ⟨by decide, by decide⟩ hk

theorem mulOk_of {j k : Nat} {a b : Int} (hj : 0 < j) (hk : 0 < k) (h1 : a.natAbs < 2 ^ j) (h2 : b.natAbs < 2 ^ k) (h : j + k ≤ 1000000) : Dl.MulOk a b = true := by
  have := log_lt hj h1
  have := log_lt hk h2
  unfold Dl.MulOk
  simp only [Bool.or_eq_true, decide_eq_true_eq]
  left; left
  omega
theorem sq_lt {d k n : Nat} (h : d < 2 ^ k) (e : k + k ≤ n) : d * d < 2 ^ n := Nat.lt_of_lt_of_le (lt_mul2 h h) (Nat.pow_le_pow_right (by decide) e)
theorem num_pos {s : Rat} (h : 0 < s) : 0 < s.num := by
  have := (Rat.lt_iff _ _).mp h
  simpa using this
theorem B0.div {j k : Nat} {r s : Rat} (hr : B0 j r) (hs : B0 k s) (h0 : 0 < s) : B0 (j + k) (r / s) := by
  rw [← div_rat]
  refine divInt_b0 (Int.mul_pos (by have := r.den_pos; omega) (num_pos h0)) ?_ ?_
  · rw [Int.natAbs_mul]; exact lt_mul2 hr.num (natAbs_lt hs.den)
  · rw [Int.natAbs_mul]; exact lt_mul2 (natAbs_lt hr.den) hs.num
theorem lay_q (r : Rat) : (qD r).canLay0 = true := by simp [qD, PyData.canLay0, PyData.canLayAll0]
theorem dep_q (r : Rat) : (qD r).depth = 1 := by simp [qD, PyData.depth, PyData.depthAll]
def S {α : Type} (f : α → Rat) : List α → Rat
  | [] => 0
  | x :: xs => f x + S f xs
theorem foldl_S {α : Type} (f : α → Rat) : ∀ (l : List α) (acc : Rat), (l.map f).foldl (· + ·) acc = acc + S f l
  | [], acc => by simp [S, Rat.add_zero]
  | x :: xs, acc => by
    simp only [List.map_cons, List.foldl_cons, S]
    rw [foldl_S f xs, Rat.add_assoc]
theorem S_congr {α : Type} {f h : α → Rat} : ∀ {l : List α}, (∀ x ∈ l, f x = h x) → S f l = S h l
  | [], _ => rfl
  | x :: xs, H => by
    simp only [S]
    rw [H x (List.mem_cons_self ..), S_congr fun y hy => H y (List.mem_cons_of_mem _ hy)]
theorem S_zero {α : Type} : ∀ (l : List α), S (fun _ => (0 : Rat)) l = 0
  | [] => rfl
  | x :: xs => by simp only [S]; rw [S_zero xs, Rat.add_zero]
theorem S_add {α : Type} (f h : α → Rat) : ∀ (l : List α), S (fun x => f x + h x) l = S f l + S h l
  | [] => by simp only [S, Rat.add_zero]
  | x :: xs => by simp only [S]; rw [S_add f h xs]; grind
theorem S_mul {α : Type} (c : Rat) (f : α → Rat) : ∀ (l : List α), S (fun x => c * f x) l = c * S f l
  | [] => by simp [S]
  | x :: xs => by simp only [S]; rw [S_mul c f xs]; grind
theorem S_swap {α β : Type} (f : α → β → Rat) (m : List β) : ∀ (l : List α), S (fun x => S (fun y => f x y) m) l = S (fun y => S (fun x => f x y) l) m
  | [] => by simp only [S]; rw [S_zero]
  | x :: xs => by simp only [S]; rw [S_swap f m xs, S_add]
theorem S_app {α : Type} (f : α → Rat) : ∀ (l m : List α), S f (l ++ m) = S f l + S f m
  | [], m => by simp [S, Rat.zero_add]
  | x :: xs, m => by simp only [S, List.cons_append]; rw [S_app f xs m]; grind
def B0L (k : Nat) (l : List Rat) : Prop := ∀ r ∈ l, B0 k r
theorem S_b0 {α : Type} {k : Nat} {f : α → Rat} : ∀ {l : List α} {acc : Rat} {j : Nat}, B0 j acc → (∀ x ∈ l, B0 k (f x)) → B0 (j + l.length * (k + 1)) (acc + S f l)
  | [], acc, j, h, _ => by simpa [S, Rat.add_zero] using h
  | x :: xs, acc, j, h, H => by
    have h1 := h.add (H x (List.mem_cons_self ..))
    have h2 := S_b0 (l := xs) h1 fun y hy => H y (List.mem_cons_of_mem _ hy)
    simp only [S]
    rw [← Rat.add_assoc]
    refine B0.mono h2 ?_
    simp only [List.length_cons, Nat.add_mul]
    omega
theorem S_b1 {α : Type} {k : Nat} {f : α → Rat} {l : List α} (h : ∀ x ∈ l, B0 k (f x)) : B0 (1 + l.length * (k + 1)) (S f l) := by
  have := S_b0 (acc := 0) (j := 1) (b0_zero (by decide)) h
  rwa [Rat.zero_add] at this
theorem q_zero : qD 0 = .tuple [.int 0, .int 1] := rfl
theorem zipU_of {α β : Type} {f : Fa} {g g1 : G} {d e : D} {F : α → D} {H : β → D} {l : List α} {m : List β} (e0 : f g = some ([d, e], g1)) (h1 : seqD d = some (l.map F)) (h2 : seqD e = some (m.map H)) :
    iZipU f g = some ((l.zip m).map fun p => .tuple [F p.1, H p.2], g1) := by
  unfold iZipU
  simp only [e0, h1, h2, Option.bind_some, Option.map_some, zipL_map]
theorem zip_self {α : Type} : ∀ l : List α, l.zip l = l.map fun d => (d, d)
  | [] => rfl
  | x :: xs => by simp [zip_self xs]
theorem gAdd {r s : Rat} (hr : B0 400000 r) (hs : B0 4400 s) : Int.gcd (r.num * (s.den : Int) + s.num * (r.den : Int)) ((r.den : Int) * (s.den : Int)) < 2 ^ 8900 := Nat.lt_of_le_of_lt (add_gcd r s) (sq_lt hs.den (by decide))
theorem gMul {r s : Rat} (hr : B0 4400 r) (hs : B0 4400 s) : Int.gcd (r.num * s.num) ((r.den : Int) * (s.den : Int)) < 2 ^ 8900 := by
  have h1 := gcd_le_den (r.num * s.num) (b := (r.den : Int) * (s.den : Int)) (Int.mul_pos (by have := r.den_pos; omega) (by have := s.den_pos; omega))
  rw [Int.natAbs_mul] at h1
  exact Nat.lt_of_le_of_lt h1 (Nat.lt_of_lt_of_le (lt_mul2 (natAbs_lt hr.den) (natAbs_lt hs.den)) (Nat.pow_le_pow_right (by decide) (by decide)))
theorem gDiv {r s : Rat} (hr : B0 4400 r) (hs : B0 4400 s) (h0 : 0 < s) : Int.gcd (r.num * (s.den : Int)) ((r.den : Int) * s.num) < 2 ^ 8900 := by
  have h1 := gcd_le_den (r.num * (s.den : Int)) (b := (r.den : Int) * s.num) (Int.mul_pos (by have := r.den_pos; omega) (num_pos h0))
  rw [Int.natAbs_mul] at h1
  exact Nat.lt_of_le_of_lt h1 (Nat.lt_of_lt_of_le (lt_mul2 (natAbs_lt hr.den) hs.num) (Nat.pow_le_pow_right (by decide) (by decide)))
theorem eqv_q (r s : Rat) : PyData.eqv (qD r) (qD s) = decide (r = s) := by
  unfold qD
  show (decide (r.num = s.num) && (decide ((r.den : Int) = s.den) && true)) = _
  rw [Bool.and_true, ← Bool.decide_and]
  exact decide_eq_decide.mpr ⟨fun h => Rat.ext h.1 (by omega), fun h => by rw [h]; exact ⟨rfl, rfl⟩⟩
theorem neD_q (r s : Rat) : neD (qD r) (qD s) = some (.bool (!decide (r = s))) := neD_sh (shaped_of (lay_q r) (by rw [dep_q]; decide)) (shaped_of (lay_q s) (by rw [dep_q]; decide)) (eqv_q r s) rfl
theorem eqD_q (r s : Rat) : eqD (qD r) (qD s) = some (.bool (decide (r = s))) := eqD_sh (shaped_of (lay_q r) (by rw [dep_q]; decide)) (shaped_of (lay_q s) (by rw [dep_q]; decide)) (eqv_q r s) rfl
theorem less_q (r s : Rat) : decide (r.num * (s.den : Int) < s.num * (r.den : Int)) = decide (r < s) := decide_eq_decide.mpr (Rat.lt_iff r s).symm
theorem mul_big {r s : Rat} {j k : Nat} (hj : 0 < j) (hk : 0 < k) (hr : B0 j r) (hs : B0 k s) (h : j + k ≤ 1000000) : Dl.MulOk r.num s.num = true ∧ Dl.MulOk r.num (s.den : Int) = true ∧ Dl.MulOk (r.den : Int) s.num = true ∧ Dl.MulOk (r.den : Int) (s.den : Int) = true :=
  ⟨mulOk_of hj hk hr.num hs.num h, mulOk_of hj hk hr.num (natAbs_lt hs.den) h, mulOk_of hj hk (natAbs_lt hr.den) hs.num h, mulOk_of hj hk (natAbs_lt hr.den) (natAbs_lt hs.den) h⟩
theorem m_sub (i j : Int) : subD (.int i) (.int j) = some (.int (i - j)) := rfl
theorem m_len {α : Type} (f : α → D) (l : List α) : lenD (.tuple (l.map f)) = some (.int (l.length : Nat)) := by simp [lenD]
theorem m_lenL {α : Type} (f : α → D) (l : List α) : lenD (.list (l.map f)) = some (.int (l.length : Nat)) := by simp [lenD]
theorem m_ntt : (!true) = false := rfl
theorem m_nff : (!false) = true := rfl
theorem ex_lm {t : Fg} {c : Ft} {f : Fe} {vs : List Nat} {g g1 g2 : G} {x y : D} (h1 : t x g = some g1) (h2 : c g1 = some (true, g1)) (h3 : f g1 = some (y, g2)) (h4 : wipeG g2 vs = g) : ∃ g1 g2, t x g = some g1 ∧ c g1 = some (true, g1) ∧ f g1 = some (y, g2) ∧ wipeG g2 vs = g := ⟨g1, g2, h1, h2, h3, h4⟩
theorem ex_lf {t : Fg} {c : Ft} {f : Fe} {vs : List Nat} {g g1 g2 g3 : G} {x y : D} {p : Bool} (h1 : t x g = some g1) (h2 : c g1 = some (p, g2)) (h3 : wipeG g2 vs = g) (h4 : p = true → f g2 = some (y, g3)) (h5 : p = true → wipeG g3 vs = g) : ∃ g1 g2, t x g = some g1 ∧ c g1 = some (p, g2) ∧ wipeG g2 vs = g ∧ (p = true → ∃ g3, f g2 = some (y, g3) ∧ wipeG g3 vs = g) := ⟨g1, g2, h1, h2, h3, fun z => ⟨g3, h4 z, h5 z⟩⟩
theorem ex_1 {α : Type} {P : α → Prop} {o : Option α} {a : α} (h : o = some a) (k : P a) : ∃ a, o = some a ∧ P a := ⟨a, h, k⟩
theorem ex_2 {α β : Type} {P : α → β → Prop} {o : Option (α × β)} {a : α} {b : β} (h : o = some (a, b)) (k : P a b) : ∃ a b, o = some (a, b) ∧ P a b := ⟨a, b, h, k⟩
theorem ex_b {t : Fg} {b : Fs} {g g1 : G} {d : D} {o : Out} (h : t d g = some g1) (k : b g1 = some o) : ∃ g1, t d g = some g1 ∧ b g1 = some o := ⟨g1, h, k⟩
theorem ex_fnI {f : Fs} {a : Addr} {g g' : G} {x : Sl} {es : List D} (h : f g = some (.ret x g')) (k : g'[0]? = some (.own (some a) es)) : ∃ g', f g = some (.ret x g') ∧ g'[0]? = some (.own (some a) es) := ⟨g', h, k⟩
theorem m_cy {g : G} : cYes g = some (true, g) := rfl
theorem m_int2 {op : Int → Int → Int} {f : Fa} {g g1 : G} {i j : Int} (e : f g = some ([.int i, .int j], g1)) : eInt2 op f g = some (.int (op i j), g1) := by
  unfold eInt2
  rw [e]
theorem m_ntF {b : Bool} (h : b = true) : (!b) = false := by rw [h]; rfl
theorem m_ntT {b : Bool} (h : b = false) : (!b) = true := by rw [h]; rfl
theorem m_trT {b : Bool} (h : b = true) : truD (.bool b) = some true := by rw [h]; rfl
theorem m_trF {b : Bool} (h : b = false) : truD (.bool b) = some false := by rw [h]; rfl
theorem m_lmY {α : Type} {t : Fg} {f : Fe} {vs : List Nat} {g : G} {enc : α → D} {h : α → D} {xs : List α} (H : ∀ x ∈ xs, ∃ g1 g2, t (enc x) g = some g1 ∧ cYes g1 = some (true, g1) ∧ f g1 = some (h x, g2) ∧ wipeG g2 vs = g) : lcGo t cYes f vs (xs.map enc) g = some (xs.map h, g) := lcGo_map enc h xs H
theorem m_lmYI {t : Fg} {f : Fe} {vs : List Nat} {g : G} {h : D → D} {ds : List D} (H : ∀ x ∈ ds, ∃ g1 g2, t x g = some g1 ∧ cYes g1 = some (true, g1) ∧ f g1 = some (h x, g2) ∧ wipeG g2 vs = g) : lcGo t cYes f vs ds g = some (ds.map h, g) := lcGo_id h ds H
theorem m_lfI {t : Fg} {c : Ft} {f : Fe} {vs : List Nat} {g : G} {h : D → D} {p : D → Bool} {xs : List D} (H : ∀ x ∈ xs, ∃ g1 g2, t x g = some g1 ∧ c g1 = some (p x, g2) ∧ wipeG g2 vs = g ∧ (p x = true → ∃ g3, f g2 = some (h x, g3) ∧ wipeG g3 vs = g)) : lcGo t c f vs xs g = some ((xs.filter p).map h, g) := by
  have := lcGo_filt (t := t) (c := c) (f := f) (vs := vs) (g := g) (fun d => d) h p xs H
  simpa using this
theorem ex_fo {t : Fg} {b : Fs} {g g1 g2 g3 : G} {d : D} (h1 : t d g = some g1) (h2 : b g1 = some (.nx g2)) (h3 : g2 = g3) : ∃ g1 g2, t d g = some g1 ∧ b g1 = some (.nx g2) ∧ g2 = g3 := ⟨g1, g2, h1, h2, h3⟩
theorem forGo_foldE {α σ : Type} {tg : Fg} {b : Fs} (enc : α → D) (E : σ → G) (step : σ → α → σ) (I : Nat → σ → Prop) (M : Nat) (xs : List α) (n : Nat) (s : σ) (hM : n + xs.length ≤ M) (h0 : I n s)
    (H : ∀ x ∈ xs, ∀ n s, n < M → I n s → I (n + 1) (step s x) ∧ ∃ g1 g2, tg (enc x) (E s) = some g1 ∧ b g1 = some (.nx g2) ∧ g2 = E (step s x)) : forGo tg b (xs.map enc) (E s) = some (.nx (E (xs.foldl step s))) ∧ I (n + xs.length) (xs.foldl step s) :=
  forGo_fold enc E step I M xs n s hM h0 fun x hx n s hn hI => by
    obtain ⟨k1, g1, g2, k2, k3, k4⟩ := H x hx n s hn hI
    exact ⟨k1, g1, k2, by rw [k3, k4]⟩
theorem rep_zero (m : Nat) : (List.replicate ((m : Nat) : Int).toNat [qD 0]).flatten = (List.replicate m (0 : Rat)).map qD := by
  rw [Int.toNat_natCast]
  induction m with
  | zero => rfl
  | succ m ih => rw [List.replicate_succ, List.flatten_cons, ih, List.replicate_succ]; rfl
theorem zipL_same {α : Type} {F H : α → D} : ∀ l : List α, zipL (l.map F) (l.map H) = l.map fun x => .tuple [F x, H x]
  | [] => rfl
  | x :: l => by simp [zipL, zipL_same l]
theorem zipL3_same {α : Type} {F H J : α → D} : ∀ l : List α, zipL3 (l.map F) (l.map H) (l.map J) = l.map fun x => .tuple [F x, H x, J x]
  | [] => rfl
  | x :: l => by simp [zipL3, zipL3_same l]
theorem zipU_same {α : Type} {f : Fa} {g g1 : G} {d e : D} {F H : α → D} {l : List α} (e0 : f g = some ([d, e], g1)) (h1 : seqD d = some (l.map F)) (h2 : seqD e = some (l.map H)) : iZipU f g = some (l.map fun x => .tuple [F x, H x], g1) := by
  unfold iZipU
  simp only [e0, h1, h2, Option.bind_some, Option.map_some, zipL_same]
theorem zipU3_same {α : Type} {f : Fa} {g g1 : G} {d e z : D} {F H J : α → D} {l : List α} (e0 : f g = some ([d, e, z], g1)) (h1 : seqD d = some (l.map F)) (h2 : seqD e = some (l.map H)) (h3 : seqD z = some (l.map J)) : iZipU3 f g = some (l.map fun x => .tuple [F x, H x, J x], g1) := by
  unfold iZipU3
  simp only [e0, h1, h2, h3, Option.bind_some, Option.map_some, zipL3_same]
theorem pairL_range {F : Nat → D} : ∀ (n i : Nat), pairL i ((List.range' i n).map F) = (List.range' i n).map fun (g : Nat) => .tuple [.int (g : Nat), F g]
  | 0, i => rfl
  | n + 1, i => by simp [List.range'_succ, pairL, pairL_range n (i + 1)]
theorem m_enumR {f : Fa} {g g1 : G} {d : D} {F : Nat → D} {m : Nat} (e : f g = some ([d], g1)) (h : seqD d = some ((List.range m).map F)) : iEnum' f g = some ((List.range m).map fun (i : Nat) => .tuple [.int (i : Nat), F i], g1) := by
  rw [enum_of e h, List.range_eq_range', pairL_range]
theorem m_enumM {α : Type} {f : Fa} {g g1 : G} {d : D} {F : α → D} {l : List α} (e : f g = some ([d], g1)) (h : seqD d = some (l.map F)) : iEnum' f g = some ((l.zipIdx 0).map fun p => .tuple [.int (p.2 : Nat), F p.1], g1) := by
  rw [enum_of e h, pairL_map]
theorem num_lt (r : Rat) : decide (r.num < 0) = decide (r < 0) := decide_eq_decide.mpr (by
  have := (Rat.num_nonneg (q := r))
  constructor
  · intro h
    exact Rat.not_le.mp fun z => by have := this.mpr z; omega
  · intro h
    exact Int.not_le.mp fun z => (Rat.not_le.mpr h) (this.mp z))
theorem sub_lt (a b : Rat) : decide ((a - b).num < 0) = decide (a < b) := by
  rw [num_lt]
  exact decide_eq_decide.mpr (by grind)
theorem zp_c {f : Fa} {g g1 : G} {d e : D} {xs ys zs : List D} (e0 : f g = some ([d, e], g1)) (h1 : seqD d = some xs) (h2 : seqD e = some ys) (k : zipL xs ys = zs) : iZipU f g = some (zs, g1) := m_zip e0 h1 h2 k
theorem zp_c3 {f : Fa} {g g1 : G} {d e z : D} {xs ys zs ws : List D} (e0 : f g = some ([d, e, z], g1)) (h1 : seqD d = some xs) (h2 : seqD e = some ys) (h3 : seqD z = some zs) (k : zipL3 xs ys zs = ws) : iZipU3 f g = some (ws, g1) := m_zip3 e0 h1 h2 h3 k
theorem zp_e {f : Fa} {g g1 : G} {d : D} {xs ys : List D} (e : f g = some ([d], g1)) (h : seqD d = some xs) (k : pairL 0 xs = ys) : iEnum' f g = some (ys, g1) := by rw [enum_of e h, k]
theorem pairR (F : Nat → D) (n : Nat) : pairL 0 ((List.range n).map F) = (List.range n).map fun (g : Nat) => .tuple [.int (g : Nat), F g] := by rw [List.range_eq_range', pairL_range]
/-! ### what raises -/
theorem m_isE {i : Nat} {a : Addr} {b : Bool} {g : G} (h : g[i]? = some (.ex a)) : eIsE i a b g = some (.bool b, g) := by
  unfold eIsE
  rw [h]
  simp
theorem xCall_of {x : List D → Option Str} {fs : Fa} {g g1 : G} {ds : List D} {r : Option Str} (e : fs g = some (ds, g1)) (h : x ds = r) : xCall x fs g = r.map fun c => (c, g1) := by
  unfold xCall
  rw [e, ← h]
  rfl
theorem xIf_of {t : Ft} {fx hx : Fx} {g g1 : G} {b : Bool} (e : t g = some (b, g1)) : xIf t fx hx g = if b = true then fx g1 else hx g1 := by
  unfold xIf
  rw [e]
  rfl
theorem xSeq_x {f : Fs} {fx hx : Fx} {g : G} {r : Str × G} (e : fx g = some r) : xSeq f fx hx g = some r := by
  unfold xSeq
  rw [e]
theorem xSeq_n {f : Fs} {fx hx : Fx} {g g1 : G} (e : fx g = none) (k : f g = some (.nx g1)) : xSeq f fx hx g = hx g1 := by
  unfold xSeq
  rw [e]
  simp only [k]
theorem fnX_of {fx : Fx} {N : Nat} {ds : List D} {g0 : G} {r : Option (Str × G)} (hg : ds.map Sl.v ++ List.replicate (N - ds.length) .no = g0) (h : fx g0 = r) : fnX fx N ds = r.map (·.1) := by
  unfold fnX
  rw [hg, h]
theorem m_tryN {i : Nat} {cs : List Str} {f : Fs} {fx : Fx} {hs : Str → Addr → Fs} {g : G} {o : Option Out} (e : fx g = none) (k : f g = o) : sTry i cs f fx hs g = o := by rw [sTry_none e, k]
theorem m_tryX {i : Nat} {cs : List Str} {f : Fs} {fx : Fx} {hs : Str → Addr → Fs} {g g' : G} {c : Str} {o : Out} (e : fx g = some (c, g')) (hc : cs.contains c = true) (h : ∀ a, ∃ g1 o', g'.set i (.ex a) = g1 ∧ hs c a g1 = some o' ∧ unEx i o' = o) : sTry i cs f fx hs g = some o :=
  sTry_of e hc fun a => by
    obtain ⟨g1, o', rfl, h2, h3⟩ := h a
    exact ⟨o', h2, h3⟩
theorem ex_try {i : Nat} {hs : Fs} {g g1 : G} {x : Sl} {o o' : Out} (h1 : g.set i x = g1) (h2 : hs g1 = some o') (h3 : unEx i o' = o) : ∃ g1 o', g.set i x = g1 ∧ hs g1 = some o' ∧ unEx i o' = o := ⟨g1, o', h1, h2, h3⟩
theorem m_exc {l : List (Str × (Addr → Fs))} {c : Str} {a : Addr} {h : Addr → Fs} {g : G} {o : Option Out} (e : l.lookup c = some h) (k : h a g = o) : exCase l c a g = o := by
  unfold exCase
  rw [e]
  exact k
theorem m_uxN {i : Nat} {g g1 : G} (k : g.set i .no = g1) : unEx i (.nx g) = .nx g1 := by rw [unEx, k]
theorem m_uxR {i : Nat} {x : Sl} {g g1 : G} (k : g.set i .no = g1) : unEx i (.ret x g) = .ret x g1 := by rw [unEx, k]
/-! ### the hand -/
def handL (cs : List Int) (p q r s : Int) : List D := [.list (cs.map .int), .int p, .int q, .int r, .int s]
def Hand (es : List D) : Prop := ∃ (cs : List Int) (p q r s : Int), es = handL cs p q r s ∧ 0 ≤ p ∧ 0 ≤ q
theorem ten18 : powD (.int 10) (.int 18) = some (.int 1000000000000000000) := by
  show (if (0 : Int) ≤ 18 ∧ (18 : Int) ≤ 1000000 ∧ Int.natAbs 10 < 2 ^ 64 then some (PyData.int (10 ^ (18 : Int).toNat)) else none) = _
  rw [if_pos (by decide)]
  rfl
theorem fmod_rng (a : Int) {m : Int} (hm : 0 < m) : 0 ≤ a.fmod m ∧ a.fmod m < m := ⟨Int.fmod_nonneg_of_pos a hm, Int.fmod_lt_of_pos a hm⟩
theorem fm_lt (a : Int) {m : Int} (hm : 0 < m) (h : m ≤ 18446744073709551616) : (a.fmod m).natAbs < 2 ^ 64 := by
  have := fmod_rng a hm
  omega
theorem atI_mem {l : List D} {x : Int} (h0 : 0 ≤ x) (h : x < (l.length : Nat)) : ∃ d, L2.atI l x = some d ∧ d ∈ l := by
  obtain ⟨n, rfl⟩ := Int.eq_ofNat_of_zero_le h0
  have hn : n < l.length := by omega
  have := atI_map (f := id) (l := l) (i := n) (a := l[n]) (List.getElem?_eq_getElem hn)
  rw [List.map_id] at this
  exact ⟨l[n], this, List.getElem_mem hn⟩
theorem ex_dr {o : Option (Sl × List D)} {x : Int} {es : List D} {P : Int → List D → Prop} (h : o = some (.v (.int x), es)) (k : P x es) : ∃ x es, o = some (.v (.int x), es) ∧ P x es := ⟨x, es, h, k⟩
theorem ex_dv {o : Option (Sl × List D)} {x : Sl} {es : List D} {P : Sl → List D → Prop} (h : o = some (x, es)) (k : P x es) : ∃ x es, o = some (x, es) ∧ P x es := ⟨x, es, h, k⟩
def slK (d : D) (lo hi : Option Int) : Option D := match d with
  | .tuple ds => some (.tuple (cutL ds lo hi))
  | .list ds => some (.list (cutL ds lo hi))
  | _ => none
theorem m_slU {fa : Fe} {fl fh : Fo} {g g1 g2 g3 : G} {lo hi : Option Int} {d d2 : D} (e : fa g = some (d, g1)) (e2 : fl g1 = some (lo, g2)) (e3 : fh g2 = some (hi, g3)) (k : slK d lo hi = some d2) : eSlU fa fl fh g = some (d2, g3) := by
  unfold eSlU
  simp only [e, e2, e3, Option.bind_some]
  cases d <;> first | exact congrArg _ k | (cases k; rfl) | cases k
theorem slK_l {α : Type} {f : α → D} {l : List α} {lo hi : Option Int} : slK (.list (l.map f)) lo hi = some (.list ((cutL l lo hi).map f)) := by rw [slK, cutL_map]
theorem slK_t {α : Type} {f : α → D} {l : List α} {lo hi : Option Int} : slK (.tuple (l.map f)) lo hi = some (.tuple ((cutL l lo hi).map f)) := by rw [slK, cutL_map]
theorem cut_len {α : Type} (l : List α) (lo hi : Option Int) : (cutL l lo hi).length ≤ l.length := by
  unfold cutL
  simp only [List.length_take, List.length_drop]
  omega
theorem ex_ow {o : Option Sl} {es : List D} {P : List D → Prop} (h : o = some (.own none es)) (k : P es) : ∃ es, o = some (.own none es) ∧ P es := ⟨es, h, k⟩
theorem ex_vd {o : Option Sl} {d : D} {P : D → Prop} (h : o = some (.v d)) (k : P d) : ∃ d, o = some (.v d) ∧ P d := ⟨d, h, k⟩
theorem ex_id {o : Option (Sl × List D)} {x : D} {es : List D} {P : D → List D → Prop} (h : o = some (.v x, es)) (k : P x es) : ∃ x es, o = some (.v x, es) ∧ P x es := ⟨x, es, h, k⟩
theorem ex_io {o : Option (Sl × List D)} {x : List D} {es : List D} {P : List D → List D → Prop} (h : o = some (.own none x, es)) (k : P x es) : ∃ x es, o = some (.own none x, es) ∧ P x es := ⟨x, es, h, k⟩
def rngL (i : Int) : Option (List D) := if SmI i then some (rangeL 0 i.toNat) else none
theorem m_rgK {f : Fa} {g g1 : G} {i : Int} {ds : List D} (e : f g = some ([.int i], g1)) (k : rngL i = some ds) : iRange1 f g = some (ds, g1) := by
  unfold iRange1
  rw [e]
  unfold rngL at k
  split at k
  · rename_i h
    cases k
    simp only [h, if_true]
  · cases k
theorem rg_n {n : Nat} (h : n < 1000000) : rngL (n : Int) = some ((List.range n).map fun (i : Nat) => .int (i : Int)) := by
  have hs : SmI (n : Int) := by unfold SmI; omega
  unfold rngL
  simp [hs, rangeL]
theorem rg_i {i : Int} (h : 0 ≤ i ∧ i < 1000000) : rngL i = some ((List.range i.toNat).map fun (i : Nat) => .int (i : Int)) := by
  obtain ⟨n, rfl⟩ := Int.eq_ofNat_of_zero_le h.1
  rw [Int.toNat_natCast]
  exact rg_n (by omega)
end Dl
set_option Elab.async false
set_option linter.all false
set_option maxRecDepth 100000
/-! Dl, the ms tactic's gates: one lemma for each kind of equation (an apply that fails costs less than a show that fails). -/
namespace Dl
theorem q_Out {o x : Option Out} (h : o = x) : o = x := h
theorem q_DG {o x : Option (D × G)} (h : o = x) : o = x := h
theorem q_SG {o x : Option (Sl × G)} (h : o = x) : o = x := h
theorem q_BG {o x : Option (Bool × G)} (h : o = x) : o = x := h
theorem q_LG {o x : Option (List D × G)} (h : o = x) : o = x := h
theorem q_LSG {o x : Option (List Sl × G)} (h : o = x) : o = x := h
theorem q_Nat {o x : Nat} (h : o = x) : o = x := h
theorem q_OG {o x : Option G} (h : o = x) : o = x := h
theorem q_OD {o x : Option D} (h : o = x) : o = x := h
theorem q_G {o x : G} (h : o = x) : o = x := h
theorem q_OSl {o x : Option Sl} (h : o = x) : o = x := h
theorem q_SLD {o x : Option (Sl × List D)} (h : o = x) : o = x := h
theorem q_B {o x : Bool} (h : o = x) : o = x := h
theorem q_OB {o x : Option Bool} (h : o = x) : o = x := h
theorem q_OLD {o x : Option (List D)} (h : o = x) : o = x := h
theorem q_o {o x : Out} (h : o = x) : o = x := h
theorem q_OIG {o x : Option (Option Int × G)} (h : o = x) : o = x := h
theorem q_ON {o x : Option Nat} (h : o = x) : o = x := h
theorem q_lenD_ {a} {r} (h : lenD a = r) : lenD a = r := h
theorem q_revD_ {a} {r} (h : revD a = r) : revD a = r := h
theorem q_tupD_ {a} {r} (h : tupD a = r) : tupD a = r := h
theorem q_negD_ {a} {r} (h : negD a = r) : negD a = r := h
theorem q_absD_ {a} {r} (h : absD a = r) : absD a = r := h
theorem q_intD_ {a} {r} (h : Dl.intD a = r) : Dl.intD a = r := h
theorem q_notD_ {a} {r} (h : notD a = r) : notD a = r := h
theorem q_seqD_ {a} {r} (h : seqD a = r) : seqD a = r := h
theorem q_cntBD_ {a b} {r} (h : cntBD a b = r) : cntBD a b = r := h
theorem q_idxBD_ {a b} {r} (h : idxBD a b = r) : idxBD a b = r := h
theorem q_isND_ {a b} {r} (h : isND a b = r) : isND a b = r := h
theorem q_notND_ {a b} {r} (h : notND a b = r) : notND a b = r := h
theorem q_isBD_ {a b} {r} (h : isBD a b = r) : isBD a b = r := h
theorem q_notBD_ {a b} {r} (h : notBD a b = r) : notBD a b = r := h
theorem q_catTD_ {a b} {r} (h : catTD a b = r) : catTD a b = r := h
theorem q_atD_ {a b} {r} (h : atD a b = r) : atD a b = r := h
theorem q_slK_ {a b c} {r} (h : slK a b c = r) : slK a b c = r := h
theorem q_slD_ {a} {r} (h : slD a = r) : slD a = r := h
theorem q_dat_ {a} {r} (h : dat a = r) : dat a = r := h
theorem q_truD_ {a} {r} (h : truD a = r) : truD a = r := h
theorem q_outR_ {a} {r} (h : outR a = r) : outR a = r := h
theorem q_ownD_ {a} {r} (h : ownD a = r) : ownD a = r := h
theorem q_wipeG_ {a b} {r} (h : wipeG a b = r) : wipeG a b = r := h
theorem q_backG_ {a b c} {r} (h : backG a b c = r) : backG a b c = r := h
theorem q_setG_ {a b c} {r} (h : setG a b c = r) : setG a b c = r := h
theorem q_okW_ {a b} {r} (h : okW a b = r) : okW a b = r := h
theorem q_okR_ {a} {r} (h : okR a = r) : okR a = r := h
theorem q_dec_ {p : Prop} [i : Decidable p] {b : Bool} (h : decide p = b) : decide p = b := h
end Dl
set_option Elab.async false
set_option linter.all false
set_option maxRecDepth 100000
namespace Dl
open PySem
/-! ### fractions over one bottom -/
/-- r is a / N with |a| ≤ A -/
def Fq (N A : Nat) (r : Rat) : Prop := ∃ a : Int, r * ((N : Nat) : Int) = (a : Rat) ∧ a.natAbs ≤ A
theorem Fq.add {N A B : Nat} {r s : Rat} (hr : Fq N A r) (hs : Fq N B s) : Fq N (A + B) (r + s) := by
  obtain ⟨a, ea, la⟩ := hr
  obtain ⟨b, eb, lb⟩ := hs
  exact ⟨a + b, by rw [Rat.intCast_add, ← ea, ← eb]; grind, by omega⟩
theorem Fq.neg {N A : Nat} {r : Rat} (hr : Fq N A r) : Fq N A (-r) := by
  obtain ⟨a, ea, la⟩ := hr
  exact ⟨-a, by rw [Rat.intCast_neg, ← ea]; grind, by omega⟩
theorem Fq.sub {N A B : Nat} {r s : Rat} (hr : Fq N A r) (hs : Fq N B s) : Fq N (A + B) (r - s) := by
  rw [Rat.sub_eq_add_neg]; exact hr.add hs.neg
theorem Fq.mul {N M A B : Nat} {r s : Rat} (hr : Fq N A r) (hs : Fq M B s) : Fq (N * M) (A * B) (r * s) := by
  obtain ⟨a, ea, la⟩ := hr
  obtain ⟨b, eb, lb⟩ := hs
  refine ⟨a * b, ?_, by rw [Int.natAbs_mul]; exact Nat.mul_le_mul la lb⟩
  rw [Rat.intCast_mul, ← ea, ← eb, Int.natCast_mul, Rat.intCast_mul]
  grind
theorem Fq.mono {N A B : Nat} {r : Rat} (hr : Fq N A r) (h : A ≤ B) : Fq N B r := by
  obtain ⟨a, ea, la⟩ := hr
  exact ⟨a, ea, by omega⟩
theorem Fq.up {N A : Nat} {r : Rat} (hr : Fq N A r) (c : Nat) : Fq (N * c) (A * c) r := by
  obtain ⟨a, ea, la⟩ := hr
  refine ⟨a * (c : Int), ?_, by rw [Int.natAbs_mul, Int.natAbs_natCast]; exact Nat.mul_le_mul_right _ la⟩
  rw [Rat.intCast_mul, ← ea, Int.natCast_mul, Rat.intCast_mul]
  grind
theorem fq_zero (N : Nat) : Fq N 0 0 := ⟨0, by simp, by simp⟩
theorem fq_int (i : Int) : Fq 1 i.natAbs (i : Rat) := ⟨i, by simp, Nat.le_refl _⟩
theorem fq_div {a b : Int} {N c : Nat} (hb : 0 < b) (h : b * c = N) : Fq N (a.natAbs * c) (Rat.divInt a b) := by
  refine ⟨a * (c : Int), ?_, by rw [Int.natAbs_mul, Int.natAbs_natCast]; exact Nat.le_refl _⟩
  have h0 : (b : Rat) ≠ 0 := by
    intro z
    have : b = 0 := by exact_mod_cast z
    omega
  have e : Rat.divInt a b = (a : Rat) / (b : Rat) := by rw [Rat.divInt_eq_div]
  rw [e, ← h, Rat.intCast_mul, Rat.intCast_mul]
  rw [Rat.div_def]
  have : (b : Rat)⁻¹ * (b : Rat) = 1 := Rat.inv_mul_cancel _ h0
  grind
theorem Fq.b0 {N A k : Nat} {r : Rat} (h : Fq N A r) (hN : 0 < N) (hN2 : N < 2 ^ k) (hA : A < 2 ^ k) : B0 k r := by
  obtain ⟨a, ea, la⟩ := h
  have hNI : (0 : Int) < (N : Int) := by omega
  have h0 : ((N : Int) : Rat) ≠ 0 := by
    intro z
    have : (N : Int) = 0 := by exact_mod_cast z
    omega
  have e : r = Rat.divInt a (N : Int) := by
    rw [Rat.divInt_eq_div, ← ea, Rat.div_def, Rat.mul_assoc, Rat.mul_inv_cancel _ h0, Rat.mul_one]
  rw [e]
  exact divInt_b0 hNI (by omega) (by omega)
theorem fq_S {α : Type} {N A : Nat} {f : α → Rat} : ∀ {l : List α}, (∀ x ∈ l, Fq N A (f x)) → Fq N (l.length * A) (S f l)
  | [], _ => (fq_zero N).mono (by omega)
  | x :: xs, h => by
    have h1 := (h x (List.mem_cons_self ..)).add (fq_S (l := xs) fun y hy => h y (List.mem_cons_of_mem _ hy))
    simp only [S, List.length_cons, Nat.add_mul]
    exact h1.mono (by omega)
theorem divInt_nonneg {a b : Int} (ha : 0 ≤ a) (hb : 0 < b) : 0 ≤ Rat.divInt a b := by
  rw [Rat.divInt_nonneg_iff_of_pos_right hb]; exact ha
/-! ### comprehensions and loops that draw -/
theorem lcGo_draw {α : Type} {tg : Fg} {f : Fe} {vs : List Nat} (enc : α → D) (P : D → Prop) (E : Option Addr → List D → G) : ∀ (xs : List α), (∀ x ∈ xs, ∀ es, Hand es → ∃ d es', P d ∧ Hand es' ∧ ∀ t, ∃ g1 g2, tg (enc x) (E t es) = some g1 ∧ cYes g1 = some (true, g1) ∧ f g1 = some (d, g2) ∧ wipeG g2 vs = E t es') →
    ∀ es, Hand es → ∃ ds es', ds.length = xs.length ∧ (∀ d ∈ ds, P d) ∧ Hand es' ∧ ∀ t, lcGo tg cYes f vs (xs.map enc) (E t es) = some (ds, E t es')
  | [], _, es, h => ⟨[], es, rfl, by simp, h, fun t => rfl⟩
  | x :: xs, H, es, h => by
    obtain ⟨d, es1, hp, h1, k1⟩ := H x (List.mem_cons_self ..) es h
    obtain ⟨ds, es', hl, hps, h', k2⟩ := lcGo_draw enc P E xs (fun y hy => H y (List.mem_cons_of_mem _ hy)) es1 h1
    refine ⟨d :: ds, es', by simp [hl], fun z hz => ?_, h', fun t => ?_⟩
    · rcases List.mem_cons.mp hz with rfl | hz
      · exact hp
      · exact hps z hz
    · obtain ⟨g1, g2, a, b, c, e⟩ := k1 t
      have := k2 t
      simp [lcGo, a, b, c, e, this]
theorem forGo_draw {α σ : Type} {tg : Fg} {b : Fs} (enc : α → D) (E : Option Addr → List D → σ → G) (I : Nat → σ → Prop) (M : Nat) : ∀ (xs : List α) (n : Nat) (s : σ) (es : List D), n + xs.length ≤ M → I n s → Hand es →
    (∀ x ∈ xs, ∀ n s es, n < M → I n s → Hand es → ∃ s' es', I (n + 1) s' ∧ Hand es' ∧ ∀ t, ∃ g1, tg (enc x) (E t es s) = some g1 ∧ b g1 = some (.nx (E t es' s'))) →
    ∃ s' es', I (n + xs.length) s' ∧ Hand es' ∧ ∀ t, forGo tg b (xs.map enc) (E t es s) = some (.nx (E t es' s'))
  | [], n, s, es, _, hI, h, _ => ⟨s, es, hI, h, fun t => rfl⟩
  | x :: xs, n, s, es, hM, hI, h, H => by
    simp only [List.length_cons] at hM
    obtain ⟨s1, es1, i1, h1, k1⟩ := H x (List.mem_cons_self ..) n s es (by omega) hI h
    obtain ⟨s', es', i2, h2, k2⟩ := forGo_draw enc E I M xs (n + 1) s1 es1 (by omega) i1 h1 fun y hy => H y (List.mem_cons_of_mem _ hy)
    refine ⟨s', es', by rw [List.length_cons, Nat.add_comm xs.length, ← Nat.add_assoc]; exact i2, h2, fun t => ?_⟩
    obtain ⟨g1, a, b⟩ := k1 t
    have := k2 t
    simp [forGo, a, b, this]
theorem ex_lmE {t : Fg} {c : Ft} {f : Fe} {vs : List Nat} {g g1 g2 g3 : G} {x y : D} (h1 : t x g = some g1) (h2 : c g1 = some (true, g1)) (h3 : f g1 = some (y, g2)) (h4 : wipeG g2 vs = g3) : ∃ g1 g2, t x g = some g1 ∧ c g1 = some (true, g1) ∧ f g1 = some (y, g2) ∧ wipeG g2 vs = g3 := ⟨g1, g2, h1, h2, h3, h4⟩
/-! ### rows over a range, changed in one place -/
theorem ixNat {n g : Nat} (h : g < n) : L2.ixN n (g : Int) = some g := by
  unfold L2.ixN
  rw [if_pos (by omega), if_pos (by omega)]
  simp
theorem atSetL {ds : List D} {g : Nat} {d : D} (h : g < ds.length) : atD (.list (ds.set g d)) (.int (g : Int)) = some d := by
  show L2.atI (ds.set g d) (g : Int) = _
  unfold L2.atI
  rw [ixNat (by rw [List.length_set]; exact h)]
  show (ds.set g d)[g]? = _
  rw [List.getElem?_set_self h]
theorem set_range {m g : Nat} (F : Nat → D) (d : D) : ((List.range m).map F).set g d = (List.range m).map fun i => if i = g then d else F i := by
  refine List.ext_getElem (by simp) fun i h1 h2 => ?_
  by_cases h : g = i
  · subst h; simp
  · rw [List.getElem_set_ne h]; simp [Ne.symm h]
theorem atRangeL {m g : Nat} (F : Nat → D) (h : g < m) : atD (.list ((List.range m).map F)) (.int (g : Int)) = some (F g) := atD_mapL (f := F) (by rw [List.getElem?_range h])
theorem atRangeT {m g : Nat} (F : Nat → D) (h : g < m) : atD (.tuple ((List.range m).map F)) (.int (g : Int)) = some (F g) := atD_map (f := F) (by rw [List.getElem?_range h])
theorem m_enz {f : Fa} {g g1 : G} {zs ys : List D} (e : iZipU f g = some (zs, g1)) (k : pairL 0 zs = ys) : iEnumZip f g = some (ys, g1) := by
  unfold iEnumZip
  rw [e, ← k]
  rfl
/-- a step that touches one place, over all places -/
theorem fold_range {α : Type} (N : Nat → α → α) (st : (Nat → α) → Nat → (Nat → α)) (hs : ∀ h g, st h g = fun i => if i = g then N g (h g) else h i) (h : Nat → α) : ∀ n, (List.range n).foldl st h = fun i => if i < n then N i (h i) else h i
  | 0 => by simp
  | n + 1 => by
    rw [List.range_succ, List.foldl_append, fold_range N st hs h n]
    simp only [List.foldl_cons, List.foldl_nil, hs]
    funext i
    by_cases h1 : i = n
    · subst h1; simp
    · by_cases h2 : i < n
      · simp [h1, h2, show i < n + 1 by omega]
      · simp [h1, h2, show ¬ i < n + 1 by omega]
theorem lcGo_tOw {α : Type} {sl : Nat} {x : Sl} {t : Fg} {c : Ft} {f : Fe} {vs : List Nat} {g : G} (enc : α → D) (h : α → D) (hx : g[sl]? = some x) (xs : List α) (H : ∀ x ∈ xs, ∃ g1 g2, t (enc x) g = some g1 ∧ c g1 = some (true, g1) ∧ f g1 = some (h x, g2) ∧ wipeG g2 vs = g) : lcGo (tOw sl x t) c f vs (xs.map enc) g = some (xs.map h, g) :=
  lcGo_map enc h xs fun y hy => by
    obtain ⟨g1, g2, h1, h2, h3, h4⟩ := H y hy
    exact ⟨g1, g2, tOw_of hx h1, h2, h3, h4⟩
theorem m_lcN {α : Type} {i : Nat} {tg : Option Addr} {t : Fg} {c : Ft} {f : Fe} {vs : List Nat} {g gw g3 : G} {xs : List α} {enc h : α → D} (h0 : g[i]? = some (.own tg (xs.map enc))) (ok : okW g vs = true) (w : wipeG g vs = gw) (hw : gw[i]? = some (.own tg (xs.map enc)))
    (H : ∀ x ∈ xs, ∃ g1 g2, t (enc x) gw = some g1 ∧ c g1 = some (true, g1) ∧ f g1 = some (h x, g2) ∧ wipeG g2 vs = gw) (hl : (xs.map h).length ≤ 1000000) (bk : backG g gw vs = g3) : vLcN i t c f vs g = some (.own none (xs.map h), g3) := by
  have e := lcGo_tOw enc h hw xs H
  unfold vLcN
  rw [h0]
  show vLcO i tg (xs.map enc) t c f vs g = _
  unfold vLcO
  rw [if_pos ok, w, e]
  simp only [Option.bind_some, hw, hl, and_self, if_true, bk]
end Dl
set_option Elab.async false
set_option linter.all false
set_option maxRecDepth 100000
namespace Dl
open PySem
/-! ### data whose repr is told -/
structure Rp (n k : Nat) (d : D) : Prop where
  dep : d.depth ≤ n
  ln : lnD d ≤ k
  rp : rpD d = true
theorem Rp.mono {n k n' k' : Nat} {d : D} (h : Rp n k d) (h1 : n ≤ n') (h2 : k ≤ k') : Rp n' k' d := ⟨Nat.le_trans h.dep h1, Nat.le_trans h.ln h2, h.rp⟩
theorem Rp.tup {n k c : Nat} {ds : List D} (h : ∀ d ∈ ds, Rp n k d) (hc : ds.length ≤ c) : Rp (n + 1) ((k + 2) * c + 3) (.tuple ds) := by
  have h1 := depthAll_of fun d hd => (h d hd).dep
  have h2 := lnAll_of fun d hd => (h d hd).ln
  have h3 : (k + 2) * ds.length ≤ (k + 2) * c := Nat.mul_le_mul_left _ hc
  exact ⟨by simp only [PyData.depth]; omega, by simp only [lnD]; omega, by simp only [rpD]; exact rpAll_of fun d hd => (h d hd).rp⟩
theorem Rp.lst {n k c : Nat} {ds : List D} (h : ∀ d ∈ ds, Rp n k d) (hc : ds.length ≤ c) : Rp (n + 1) ((k + 2) * c + 3) (.list ds) := by
  have h1 := depthAll_of fun d hd => (h d hd).dep
  have h2 := lnAll_of fun d hd => (h d hd).ln
  have h3 : (k + 2) * ds.length ≤ (k + 2) * c := Nat.mul_le_mul_left _ hc
  exact ⟨by simp only [PyData.depth]; omega, by simp only [lnD]; omega, by simp only [rpD]; exact rpAll_of fun d hd => (h d hd).rp⟩
theorem lt1900 {j n : Nat} (hj : j ≤ 1900) (h : n < 2 ^ j) : n < 2 ^ 1900 := Nat.lt_of_lt_of_le h (Nat.pow_le_pow_right (by decide) hj)
theorem rp_int {j : Nat} (hj : j ≤ 1900) {i : Int} (h : i.natAbs < 2 ^ j) : Rp 0 600 (.int i) := ⟨Nat.le_refl _, Nat.le_refl _, by simp only [rpD, decide_eq_true_eq]; exact lt1900 hj h⟩
theorem rp_nat {i : Nat} (h : i < 2 ^ 64) : Rp 0 600 (.int (i : Int)) := rp_int (j := 64) (by decide) (by omega)
theorem rp_none : Rp 0 600 .none := ⟨Nat.le_refl _, by simp [lnD], rfl⟩
theorem rp_bool (b : Bool) : Rp 0 600 (.bool b) := ⟨Nat.le_refl _, by simp [lnD], rfl⟩
theorem rp_q {j : Nat} (hj : j ≤ 1900) {r : Rat} (h : B0 j r) : Rp 1 1300 (qD r) := by
  have := Rp.tup (n := 0) (k := 600) (c := 2) (ds := [.int r.num, .int r.den]) (fun d hd => by
    simp only [List.mem_cons, List.not_mem_nil, or_false] at hd
    rcases hd with rfl | rfl
    · exact rp_int hj h.num
    · exact rp_int hj (natAbs_lt h.den)) (by simp)
  exact this.mono (by decide) (by decide)
theorem Rp.reprT {n k : Nat} {ds : List D} (h : Rp n k (.tuple ds)) (hn : n ≤ 60) (hk : k ≤ 16000000) : reprD (.tuple ds) = some (.str (PyData.tuple ds).shown) := reprD_of h.rp (Nat.le_trans h.dep hn) rfl (Nat.le_trans h.ln hk)
theorem Rp.reprL {n k : Nat} {ds : List D} (h : Rp n k (.list ds)) (hn : n ≤ 60) (hk : k ≤ 16000000) : reprD (.list ds) = some (.str (PyData.list ds).shown) := reprD_of h.rp (Nat.le_trans h.dep hn) rfl (Nat.le_trans h.ln hk)
theorem Rp.str {n k : Nat} {d : D} (h : Rp n k d) (hn : n ≤ 60) (hk : k ≤ 16000000) : reprD d = some (.str d.shown) := by
  obtain ⟨h1, h2⟩ := show_rp d h.rp
  have h3 := shown_ln d h.rp
  have h4 := h.dep
  have h5 := h.ln
  unfold reprD
  rw [if_pos ⟨h1, .inl h2, by omega, by rw [sizeLine_eq]; omega⟩]
theorem eqD_self (s : Str) : eqD (.str s) (.str s) = some (.bool true) := by rw [eqD_ss]; simp
theorem neD_self (s : Str) : neD (.str s) (.str s) = some (.bool false) := by rw [neD_ss]; simp
/-! ### slices and parts put in their place -/
theorem cut_mem {α : Type} {l : List α} {lo hi : Option Int} {x : α} (h : x ∈ cutL l lo hi) : x ∈ l := by
  unfold cutL at h
  exact List.mem_of_mem_drop (List.mem_of_mem_take h)
/-- one thing put in the place of another -/
def splA {α : Type} (l : List α) (i : Nat) (x : α) : List α := cutL l none (some (i : Int)) ++ [x] ++ cutL l (some ((i : Int) + 1)) none
theorem splA_len {α : Type} {l : List α} {i : Nat} {x : α} (h : i < l.length) : (splA l i x).length = l.length := by
  unfold splA
  have e : ((i : Int) + 1) = ((i + 1 : Nat) : Int) := by omega
  rw [cut_take (by omega), e, cut_drop (by omega)]
  simp
  omega
theorem splA_mem {α : Type} {l : List α} {i : Nat} {x y : α} (h : y ∈ splA l i x) : y = x ∨ y ∈ l := by
  unfold splA at h
  rcases List.mem_append.mp h with h | h
  · rcases List.mem_append.mp h with h | h
    · exact .inr (cut_mem h)
    · rw [List.mem_singleton] at h; exact .inl h
  · exact .inr (cut_mem h)
theorem splA_map {α : Type} {f : α → D} {l : List α} {i : Nat} {x : α} : (cutL l none (some (i : Int))).map f ++ [f x] ++ (cutL l (some ((i : Int) + 1)) none).map f = (splA l i x).map f := by
  unfold splA
  simp
end Dl
set_option Elab.async false
set_option linter.all false
set_option maxRecDepth 100000
namespace Dl
open PySem
/-! ### things with ints below 2^k, tuples and lists no longer than c -/
mutual
def gs (k c : Nat) : D → Bool
  | .int i => decide (i.natAbs < 2 ^ k)
  | .list ds => decide (ds.length ≤ c) && gsAll k c ds
  | .tuple ds => decide (ds.length ≤ c) && gsAll k c ds
  | .dict [] => true
  | .dict (_ :: _) => false
  | .none => true
  | .bool _ => true
  | .str _ => true
def gsAll (k c : Nat) : List D → Bool
  | [] => true
  | d :: ds => gs k c d && gsAll k c ds
end
theorem gsAll_mem {k c : Nat} : ∀ {ds : List D}, gsAll k c ds = true ↔ ∀ d ∈ ds, gs k c d = true
  | [] => by simp [gsAll]
  | d :: ds => by simp [gsAll, gsAll_mem (ds := ds)]
theorem gs_tup {k c : Nat} {ds : List D} : gs k c (.tuple ds) = true ↔ ds.length ≤ c ∧ ∀ d ∈ ds, gs k c d = true := by simp [gs, gsAll_mem]
theorem gs_lst {k c : Nat} {ds : List D} : gs k c (.list ds) = true ↔ ds.length ≤ c ∧ ∀ d ∈ ds, gs k c d = true := by simp [gs, gsAll_mem]
mutual
theorem gs_gd {k c : Nat} (hc : c ≤ 1000) : ∀ d : D, gs k c d = true → gd k d = true
  | .int i, h => by simpa [gs, gd] using h
  | .list ds, h => by
    simp only [gs, Bool.and_eq_true, decide_eq_true_eq] at h
    simp only [gd, Bool.and_eq_true, decide_eq_true_eq]
    exact ⟨by omega, gs_gdAll hc ds h.2⟩
  | .tuple ds, h => by
    simp only [gs, Bool.and_eq_true, decide_eq_true_eq] at h
    simp only [gd, Bool.and_eq_true, decide_eq_true_eq]
    exact ⟨by omega, gs_gdAll hc ds h.2⟩
  | .dict [], _ => rfl
  | .dict (_ :: _), h => by simp [gs] at h
  | .none, _ => rfl
  | .bool _, _ => rfl
  | .str _, _ => rfl
theorem gs_gdAll {k c : Nat} (hc : c ≤ 1000) : ∀ ds : List D, gsAll k c ds = true → gdAll k ds = true
  | [], _ => rfl
  | x :: ds, h => by
    simp only [gsAll, Bool.and_eq_true] at h
    simp only [gdAll, Bool.and_eq_true]
    exact ⟨gs_gd hc x h.1, gs_gdAll hc ds h.2⟩
end
mutual
theorem gs_mono {k k' c c' : Nat} (hk : k ≤ k') (hc : c ≤ c') : ∀ d : D, gs k c d = true → gs k' c' d = true
  | .int i, h => by
    have := Nat.pow_le_pow_right (n := 2) (by decide) hk
    simp only [gs, decide_eq_true_eq] at h ⊢
    omega
  | .list ds, h => by
    simp only [gs, Bool.and_eq_true, decide_eq_true_eq] at h ⊢
    exact ⟨by omega, gs_monoAll hk hc ds h.2⟩
  | .tuple ds, h => by
    simp only [gs, Bool.and_eq_true, decide_eq_true_eq] at h ⊢
    exact ⟨by omega, gs_monoAll hk hc ds h.2⟩
  | .dict [], _ => rfl
  | .dict (_ :: _), h => by simp [gs] at h
  | .none, _ => rfl
  | .bool _, _ => rfl
  | .str _, _ => rfl
theorem gs_monoAll {k k' c c' : Nat} (hk : k ≤ k') (hc : c ≤ c') : ∀ ds : List D, gsAll k c ds = true → gsAll k' c' ds = true
  | [], _ => rfl
  | x :: ds, h => by
    simp only [gsAll, Bool.and_eq_true] at h ⊢
    exact ⟨gs_mono hk hc x h.1, gs_monoAll hk hc ds h.2⟩
end
theorem gs_q {k c : Nat} {r : Rat} (h : B0 k r) (hc : 2 ≤ c) : gs k c (qD r) = true := gs_tup.mpr ⟨by simpa using hc, fun d hd => by
  simp only [List.mem_cons, List.not_mem_nil, or_false] at hd
  rcases hd with rfl | rfl
  · simp only [gs, decide_eq_true_eq]; exact h.num
  · simp only [gs, decide_eq_true_eq]; exact natAbs_lt h.den⟩
theorem gs_map {α : Type} {k c : Nat} {f : α → D} {l : List α} (hl : l.length ≤ c) (h : ∀ x ∈ l, gs k c (f x) = true) : gs k c (.tuple (l.map f)) = true := gs_tup.mpr ⟨by simpa using hl, fun d hd => by
  obtain ⟨x, hx, rfl⟩ := List.mem_map.mp hd
  exact h x hx⟩
theorem gs_nat {k c n : Nat} (h : n < 2 ^ k) : gs k c (.int (n : Int)) = true := by simp only [gs, decide_eq_true_eq]; omega
/-- tuple times seven -/
theorem repT7 {ds : List D} (h : ds.length ≤ 1000) : ∃ l : List D, repTD (.tuple ds) (.int 7) = some (.tuple l) ∧ l.length = 7 * ds.length ∧ ∀ d ∈ l, d ∈ ds := by
  by_cases h0 : ds = []
  · subst h0
    exact ⟨[], by simp only [repTD]; rw [if_pos ⟨.inl trivial, by decide, by decide⟩], rfl, by simp⟩
  · refine ⟨(List.replicate (7 : Int).toNat ds).flatten, ?_, ?_, fun d hd => ?_⟩
    · simp only [repTD]
      rw [if_neg (by simp [h0]), if_pos ⟨h0, by decide, by decide, h⟩]
    · simp [List.length_flatten, List.map_replicate]
      omega
    · obtain ⟨l, hl, hd⟩ := List.mem_flatten.mp hd
      rw [(List.mem_replicate.mp hl).2] at hd
      exact hd
end Dl
set_option Elab.async false
set_option linter.all false
set_option maxRecDepth 100000
namespace K80
open PySem PySem.Spec PyProof.Rows L2 Dl
def topS (i : Nat) : Stmt := PySem.Challenge.pw_makeprice_k80_whole_courses_led_year_by.main.body.getD i (.Pass ⟨0, 0, 0, 0⟩)
abbrev s_is_integer : Stmt := topS 6
theorem sc_is_integer : FnScope ["thing"] ["thing"] (defScope s_is_integer) := ⟨rfl, rfl, rfl, by decide +kernel, rfl, by decide +kernel, by decide +kernel⟩
abbrev s_is_sized : Stmt := topS 8
theorem sc_is_sized : FnScope ["thing", "low", "high"] ["thing", "low", "high"] (defScope s_is_sized) := ⟨rfl, rfl, rfl, by decide +kernel, rfl, by decide +kernel, by decide +kernel⟩
abbrev s_common : Stmt := topS 9
theorem sc_common : FnScope ["one", "other"] ["one", "other"] (defScope s_common) := ⟨rfl, rfl, rfl, by decide +kernel, rfl, by decide +kernel, by decide +kernel⟩
abbrev s_is_less : Stmt := topS 15
theorem sc_is_less : FnScope ["one", "other"] ["one", "other"] (defScope s_is_less) := ⟨rfl, rfl, rfl, by decide +kernel, rfl, by decide +kernel, by decide +kernel⟩
abbrev s__law_hand : Stmt := topS 36
theorem sc__law_hand : FnScope ["script", "cells", "cell"] ["script"] (defScope s__law_hand) := ⟨rfl, rfl, rfl, by decide +kernel, rfl, by decide +kernel, by decide +kernel⟩
abbrev s__law_draw : Stmt := topS 37
theorem sc__law_draw : FnScope ["hand", "many", "cell", "digit", "number"] ["hand", "many"] (defScope s__law_draw) := ⟨rfl, rfl, rfl, by decide +kernel, rfl, by decide +kernel, by decide +kernel⟩
abbrev s__law_low : Stmt := topS 39
theorem sc__law_low : FnScope ["top", "bottom", "one", "other"] ["top", "bottom"] (defScope s__law_low) := ⟨rfl, rfl, rfl, by decide +kernel, rfl, by decide +kernel, by decide +kernel⟩
abbrev s__law_less : Stmt := topS 43
theorem sc__law_less : FnScope ["one", "other"] ["one", "other"] (defScope s__law_less) := ⟨rfl, rfl, rfl, by decide +kernel, rfl, by decide +kernel, by decide +kernel⟩
abbrev s__law_is_whole : Stmt := topS 46
theorem sc__law_is_whole : FnScope ["thing"] ["thing"] (defScope s__law_is_whole) := ⟨rfl, rfl, rfl, by decide +kernel, rfl, by decide +kernel, by decide +kernel⟩
abbrev s_is_within : Stmt := topS 7
theorem sc_is_within : FnScope ["thing", "low", "high"] ["thing", "low", "high"] (defScope s_is_within) := ⟨rfl, rfl, rfl, by decide +kernel, rfl, by decide +kernel, by decide +kernel⟩
abbrev s_share : Stmt := topS 10
theorem sc_share : FnScope ["top", "bottom", "part"] ["top", "bottom"] (defScope s_share) := ⟨rfl, rfl, rfl, by decide +kernel, rfl, by decide +kernel, by decide +kernel⟩
abbrev s_is_share : Stmt := topS 11
theorem sc_is_share : FnScope ["thing"] ["thing"] (defScope s_is_share) := ⟨rfl, rfl, rfl, by decide +kernel, rfl, by decide +kernel, by decide +kernel⟩
abbrev s__law_any : Stmt := topS 38
theorem sc__law_any : FnScope ["hand", "some"] ["hand", "some"] (defScope s__law_any) := ⟨rfl, rfl, rfl, by decide +kernel, rfl, by decide +kernel, by decide +kernel⟩
abbrev s__law_add : Stmt := topS 40
theorem sc__law_add : FnScope ["one", "other"] ["one", "other"] (defScope s__law_add) := ⟨rfl, rfl, rfl, by decide +kernel, rfl, by decide +kernel, by decide +kernel⟩
abbrev s__law_mul : Stmt := topS 42
theorem sc__law_mul : FnScope ["one", "other"] ["one", "other"] (defScope s__law_mul) := ⟨rfl, rfl, rfl, by decide +kernel, rfl, by decide +kernel, by decide +kernel⟩
abbrev s__law_is_fraction : Stmt := topS 47
theorem sc__law_is_fraction : FnScope ["thing", "one"] ["thing"] (defScope s__law_is_fraction) := ⟨rfl, rfl, rfl, by decide +kernel, rfl, by decide +kernel, by decide +kernel⟩
abbrev s_plus : Stmt := topS 12
theorem sc_plus : FnScope ["one", "other"] ["one", "other"] (defScope s_plus) := ⟨rfl, rfl, rfl, by decide +kernel, rfl, by decide +kernel, by decide +kernel⟩
abbrev s_times : Stmt := topS 14
theorem sc_times : FnScope ["one", "other"] ["one", "other"] (defScope s_times) := ⟨rfl, rfl, rfl, by decide +kernel, rfl, by decide +kernel, by decide +kernel⟩
abbrev s_is_amount : Stmt := topS 20
theorem sc_is_amount : FnScope ["thing"] ["thing"] (defScope s_is_amount) := ⟨rfl, rfl, rfl, by decide +kernel, rfl, by decide +kernel, by decide +kernel⟩
abbrev s__law_sub : Stmt := topS 41
theorem sc__law_sub : FnScope ["one", "other"] ["one", "other"] (defScope s__law_sub) := ⟨rfl, rfl, rfl, by decide +kernel, rfl, by decide +kernel, by decide +kernel⟩
abbrev s__law_sum : Stmt := topS 44
theorem sc__law_sum : FnScope ["some", "found", "one"] ["some"] (defScope s__law_sum) := ⟨rfl, rfl, rfl, by decide +kernel, rfl, by decide +kernel, by decide +kernel⟩
abbrev s__law_are_amounts : Stmt := topS 48
theorem sc__law_are_amounts : FnScope ["thing", "many", "one"] ["thing", "many"] (defScope s__law_are_amounts) := ⟨rfl, rfl, rfl, by decide +kernel, rfl, by decide +kernel, by decide +kernel⟩
abbrev s__law_amount : Stmt := topS 55
theorem sc__law_amount : FnScope ["hand", "bottom"] ["hand"] (defScope s__law_amount) := ⟨rfl, rfl, rfl, by decide +kernel, rfl, by decide +kernel, by decide +kernel⟩
abbrev s_minus : Stmt := topS 13
theorem sc_minus : FnScope ["one", "other"] ["one", "other"] (defScope s_minus) := ⟨rfl, rfl, rfl, by decide +kernel, rfl, by decide +kernel, by decide +kernel⟩
abbrev s_summed : Stmt := topS 16
theorem sc_summed : FnScope ["many", "found", "one"] ["many"] (defScope s_summed) := ⟨rfl, rfl, rfl, by decide +kernel, rfl, by decide +kernel, by decide +kernel⟩
abbrev s_are_amounts : Stmt := topS 21
theorem sc_are_amounts : FnScope ["thing", "many", "part"] ["thing", "many"] (defScope s_are_amounts) := ⟨rfl, rfl, rfl, by decide +kernel, rfl, by decide +kernel, by decide +kernel⟩
abbrev s_made_by : Stmt := topS 25
theorem sc_made_by : FnScope ["book", "plan", "found", "good", "uses", "work", "amount"] ["book", "plan"] (defScope s_made_by) := ⟨rfl, rfl, rfl, by decide +kernel, rfl, by decide +kernel, by decide +kernel⟩
abbrev s_used_by : Stmt := topS 26
theorem sc_used_by : FnScope ["book", "plan", "found", "good", "uses", "work", "amount", "part", "use"] ["book", "plan"] (defScope s_used_by) := ⟨rfl, rfl, rfl, by decide +kernel, rfl, by decide +kernel, by decide +kernel⟩
abbrev s__law_dot : Stmt := topS 45
theorem sc__law_dot : FnScope ["row", "other", "one", "two"] ["row", "other"] (defScope s__law_dot) := ⟨rfl, rfl, rfl, by decide +kernel, rfl, by decide +kernel, by decide +kernel⟩
abbrev s__law_is_book : Stmt := topS 49
theorem sc__law_is_book : FnScope ["thing", "method"] ["thing"] (defScope s__law_is_book) := ⟨rfl, rfl, rfl, by decide +kernel, rfl, by decide +kernel, by decide +kernel⟩
abbrev s__law_is_course : Stmt := topS 51
theorem sc__law_is_course : FnScope ["parts", "thing", "row"] ["parts", "thing"] (defScope s__law_is_course) := ⟨rfl, rfl, rfl, by decide +kernel, rfl, by decide +kernel, by decide +kernel⟩
abbrev s__law_used : Stmt := topS 52
theorem sc__law_used : FnScope ["book", "plan", "found", "good", "method", "one"] ["book", "plan"] (defScope s__law_used) := ⟨rfl, rfl, rfl, by decide +kernel, rfl, by decide +kernel, by decide +kernel⟩
abbrev s__law_made : Stmt := topS 53
theorem sc__law_made : FnScope ["book", "plan", "found", "good", "method", "one"] ["book", "plan"] (defScope s__law_made) := ⟨rfl, rfl, rfl, by decide +kernel, rfl, by decide +kernel, by decide +kernel⟩
abbrev s__law_drawn_book : Stmt := topS 56
theorem sc__law_drawn_book : FnScope ["hand", "most", "methods", "goods", "found", "turn", "needs", "work", "good"] ["hand", "most", "methods"] (defScope s__law_drawn_book) := ⟨rfl, rfl, rfl, by decide +kernel, rfl, by decide +kernel, by decide +kernel⟩
abbrev s__law_other_courses : Stmt := topS 62
theorem sc__law_other_courses : FnScope ["hand", "parts", "course", "year", "at", "plan", "other", "found", "method"] ["hand", "parts", "course"] (defScope s__law_other_courses) := ⟨rfl, rfl, rfl, by decide +kernel, rfl, by decide +kernel, by decide +kernel⟩
abbrev s_is_method : Stmt := topS 22
theorem sc_is_method : FnScope ["goods", "thing"] ["goods", "thing"] (defScope s_is_method) := ⟨rfl, rfl, rfl, by decide +kernel, rfl, by decide +kernel, by decide +kernel⟩
abbrev s_is_plan_of : Stmt := topS 24
theorem sc_is_plan_of : FnScope ["book", "thing"] ["book", "thing"] (defScope s_is_plan_of) := ⟨rfl, rfl, rfl, by decide +kernel, rfl, by decide +kernel, by decide +kernel⟩
abbrev s_work_in : Stmt := topS 27
theorem sc_work_in : FnScope ["book", "plan", "method", "amount"] ["book", "plan"] (defScope s_work_in) := ⟨rfl, rfl, rfl, by decide +kernel, rfl, by decide +kernel, by decide +kernel⟩
abbrev s__law_is_years : Stmt := topS 50
theorem sc__law_is_years : FnScope ["thing", "goods", "many", "row"] ["thing"] (defScope s__law_is_years) := ⟨rfl, rfl, rfl, by decide +kernel, rfl, by decide +kernel, by decide +kernel⟩
abbrev s__law_led : Stmt := topS 54
theorem sc__law_led : FnScope ["parts", "course", "book", "stocks", "hands", "wants", "found", "year", "plan", "here", "used", "made", "lack", "more", "good", "one", "less", "two", "method"] ["parts", "course"] (defScope s__law_led) := ⟨rfl, rfl, rfl, by decide +kernel, rfl, by decide +kernel, by decide +kernel⟩
abbrev s__law_fitted : Stmt := topS 57
theorem sc__law_fitted : FnScope ["hand", "book", "many", "course", "hands", "wants", "year", "good", "stocks", "here", "plan", "row", "less", "more", "one", "method"] ["hand"] (defScope s__law_fitted) := ⟨rfl, rfl, rfl, by decide +kernel, rfl, by decide +kernel, by decide +kernel⟩
abbrev s_is_book : Stmt := topS 23
theorem sc_is_book : FnScope ["thing", "method"] ["thing"] (defScope s_is_book) := ⟨rfl, rfl, rfl, by decide +kernel, rfl, by decide +kernel, by decide +kernel⟩
abbrev s_is_course : Stmt := topS 32
theorem sc_is_course : FnScope ["years", "thing", "many", "plan"] ["years", "thing"] (defScope s_is_course) := ⟨rfl, rfl, rfl, by decide +kernel, rfl, by decide +kernel, by decide +kernel⟩
abbrev s_raw_led : Stmt := topS 33
theorem sc_raw_led : FnScope ["years", "course", "book", "here", "found", "year", "plan", "left", "lacks", "one", "less", "good", "part", "more", "want"] ["years", "course"] (defScope s_raw_led) := ⟨rfl, rfl, rfl, by decide +kernel, rfl, by decide +kernel, by decide +kernel⟩
abbrev s__law_drawn_years : Stmt := topS 58
theorem sc__law_drawn_years : FnScope ["hand", "parts", "book", "stocks", "hands", "wants", "kind", "one", "row"] ["hand"] (defScope s__law_drawn_years) := ⟨rfl, rfl, rfl, by decide +kernel, rfl, by decide +kernel, by decide +kernel⟩
abbrev s_is_years : Stmt := topS 30
theorem sc_is_years : FnScope ["thing", "many", "wants"] ["thing"] (defScope s_is_years) := ⟨rfl, rfl, rfl, by decide +kernel, rfl, by decide +kernel, by decide +kernel⟩
abbrev s_check_years : Stmt := topS 31
theorem sc_check_years : FnScope ["thing"] ["thing"] (defScope s_check_years) := ⟨rfl, rfl, rfl, by decide +kernel, rfl, by decide +kernel, by decide +kernel⟩
abbrev s_course_led : Stmt := topS 34
theorem sc_course_led : FnScope ["years", "course"] ["years", "course"] (defScope s_course_led) := ⟨rfl, rfl, rfl, by decide +kernel, rfl, by decide +kernel, by decide +kernel⟩
abbrev s__law_word : Stmt := topS 59
theorem sc__law_word : FnScope ["parts", "course", "found", "e", "flags"] ["parts", "course"] (defScope s__law_word) := ⟨rfl, rfl, rfl, by decide +kernel, rfl, by decide +kernel, by decide +kernel⟩
abbrev s__law_bent : Stmt := topS 60
theorem sc__law_bent : FnScope ["hand", "thing", "deep", "at", "some"] ["hand", "thing", "deep"] (defScope s__law_bent) := ⟨rfl, rfl, rfl, by decide +kernel, rfl, by decide +kernel, by decide +kernel⟩
abbrev s__law_is_led : Stmt := topS 61
theorem sc__law_is_led : FnScope ["parts", "course", "before", "due"] ["parts", "course"] (defScope s__law_is_led) := ⟨rfl, rfl, rfl, by decide +kernel, rfl, by decide +kernel, by decide +kernel⟩
abbrev s_law : Stmt := topS 63
theorem sc_law : FnScope ["script", "hand", "turn", "parts", "course", "other", "one", "again", "bent", "wrong", "due", "year"] ["script"] (defScope s_law) := ⟨rfl, rfl, rfl, by decide +kernel, rfl, by decide +kernel, by decide +kernel⟩
def k_MOST_GOODS : D := .int 6
def k_MOST_METHODS : D := .int 20
def k_MOST_YEARS : D := .int 6
def k_ZERO : D := .tuple [.int 0, .int 1]
/-- what the top has left -/
structure Txt (K : PySem.W.Frag) (mg : Str → Option Value) : Type where
  f_is_integer : Dk K mg "is_integer" "is_integer" s_is_integer ["thing"]
  f_is_sized : Dk K mg "is_sized" "is_sized" s_is_sized ["thing", "low", "high"]
  f_common : Dk K mg "common" "common" s_common ["one", "other"]
  f_is_less : Dk K mg "is_less" "is_less" s_is_less ["one", "other"]
  f__law_hand : Dk K mg "_law_hand" "_law_hand" s__law_hand ["script"]
  f__law_draw : Dk K mg "_law_draw" "_law_draw" s__law_draw ["hand", "many"]
  f__law_low : Dk K mg "_law_low" "_law_low" s__law_low ["top", "bottom"]
  f__law_less : Dk K mg "_law_less" "_law_less" s__law_less ["one", "other"]
  f__law_is_whole : Dk K mg "_law_is_whole" "_law_is_whole" s__law_is_whole ["thing"]
  f_is_within : Dk K mg "is_within" "is_within" s_is_within ["thing", "low", "high"]
  f_share : Dk K mg "share" "share" s_share ["top", "bottom"]
  f_is_share : Dk K mg "is_share" "is_share" s_is_share ["thing"]
  f__law_any : Dk K mg "_law_any" "_law_any" s__law_any ["hand", "some"]
  f__law_add : Dk K mg "_law_add" "_law_add" s__law_add ["one", "other"]
  f__law_mul : Dk K mg "_law_mul" "_law_mul" s__law_mul ["one", "other"]
  f__law_is_fraction : Dk K mg "_law_is_fraction" "_law_is_fraction" s__law_is_fraction ["thing"]
  f_plus : Dk K mg "plus" "plus" s_plus ["one", "other"]
  f_times : Dk K mg "times" "times" s_times ["one", "other"]
  f_is_amount : Dk K mg "is_amount" "is_amount" s_is_amount ["thing"]
  f__law_sub : Dk K mg "_law_sub" "_law_sub" s__law_sub ["one", "other"]
  f__law_sum : Dk K mg "_law_sum" "_law_sum" s__law_sum ["some"]
  f__law_are_amounts : Dk K mg "_law_are_amounts" "_law_are_amounts" s__law_are_amounts ["thing", "many"]
  f__law_amount : Dk K mg "_law_amount" "_law_amount" s__law_amount ["hand"]
  f_minus : Dk K mg "minus" "minus" s_minus ["one", "other"]
  f_summed : Dk K mg "summed" "summed" s_summed ["many"]
  f_are_amounts : Dk K mg "are_amounts" "are_amounts" s_are_amounts ["thing", "many"]
  f_made_by : Dk K mg "made_by" "made_by" s_made_by ["book", "plan"]
  f_used_by : Dk K mg "used_by" "used_by" s_used_by ["book", "plan"]
  f__law_dot : Dk K mg "_law_dot" "_law_dot" s__law_dot ["row", "other"]
  f__law_is_book : Dk K mg "_law_is_book" "_law_is_book" s__law_is_book ["thing"]
  f__law_is_course : Dk K mg "_law_is_course" "_law_is_course" s__law_is_course ["parts", "thing"]
  f__law_used : Dk K mg "_law_used" "_law_used" s__law_used ["book", "plan"]
  f__law_made : Dk K mg "_law_made" "_law_made" s__law_made ["book", "plan"]
  f__law_drawn_book : Dk K mg "_law_drawn_book" "_law_drawn_book" s__law_drawn_book ["hand", "most", "methods"]
  f__law_other_courses : Dk K mg "_law_other_courses" "_law_other_courses" s__law_other_courses ["hand", "parts", "course"]
  f_is_method : Dk K mg "is_method" "is_method" s_is_method ["goods", "thing"]
  f_is_plan_of : Dk K mg "is_plan_of" "is_plan_of" s_is_plan_of ["book", "thing"]
  f_work_in : Dk K mg "work_in" "work_in" s_work_in ["book", "plan"]
  f__law_is_years : Dk K mg "_law_is_years" "_law_is_years" s__law_is_years ["thing"]
  f__law_led : Dk K mg "_law_led" "_law_led" s__law_led ["parts", "course"]
  f__law_fitted : Dk K mg "_law_fitted" "_law_fitted" s__law_fitted ["hand"]
  f_is_book : Dk K mg "is_book" "is_book" s_is_book ["thing"]
  f_is_course : Dk K mg "is_course" "is_course" s_is_course ["years", "thing"]
  f_raw_led : Dk K mg "raw_led" "raw_led" s_raw_led ["years", "course"]
  f__law_drawn_years : Dk K mg "_law_drawn_years" "_law_drawn_years" s__law_drawn_years ["hand"]
  f_is_years : Dk K mg "is_years" "is_years" s_is_years ["thing"]
  f_check_years : Dk K mg "check_years" "check_years" s_check_years ["thing"]
  f_course_led : Dk K mg "course_led" "course_led" s_course_led ["years", "course"]
  f__law_word : Dk K mg "_law_word" "_law_word" s__law_word ["parts", "course"]
  f__law_bent : Dk K mg "_law_bent" "_law_bent" s__law_bent ["hand", "thing", "deep"]
  f__law_is_led : Dk K mg "_law_is_led" "_law_is_led" s__law_is_led ["parts", "course"]
  f_law : Dk K mg "law" "law" s_law ["script"]
  n_ValueError : mg "ValueError" = none
  n_abs : mg "abs" = none
  n_all : mg "all" = none
  n_bool : mg "bool" = none
  n_enumerate : mg "enumerate" = none
  n_int : mg "int" = none
  n_isinstance : mg "isinstance" = none
  n_len : mg "len" = none
  n_list : mg "list" = none
  n_range : mg "range" = none
  n_repr : mg "repr" = none
  n_str : mg "str" = none
  n_tuple : mg "tuple" = none
  n_zip : mg "zip" = none
  u_MOST_GOODS : Value
  v_MOST_GOODS : V
  c_MOST_GOODS : mg "MOST_GOODS" = some u_MOST_GOODS ∧ RelV v_MOST_GOODS u_MOST_GOODS ∧ ∀ F, Dl.Dp K F v_MOST_GOODS k_MOST_GOODS
  u_MOST_METHODS : Value
  v_MOST_METHODS : V
  c_MOST_METHODS : mg "MOST_METHODS" = some u_MOST_METHODS ∧ RelV v_MOST_METHODS u_MOST_METHODS ∧ ∀ F, Dl.Dp K F v_MOST_METHODS k_MOST_METHODS
  u_MOST_YEARS : Value
  v_MOST_YEARS : V
  c_MOST_YEARS : mg "MOST_YEARS" = some u_MOST_YEARS ∧ RelV v_MOST_YEARS u_MOST_YEARS ∧ ∀ F, Dl.Dp K F v_MOST_YEARS k_MOST_YEARS
  u_ZERO : Value
  v_ZERO : V
  c_ZERO : mg "ZERO" = some u_ZERO ∧ RelV v_ZERO u_ZERO ∧ ∀ F, Dl.Dp K F v_ZERO k_ZERO
  E_GoodsError : ExK K mg "GoodsError"
  E_NoCourse : ExK K mg "NoCourse"
  E_NoYears : ExK K mg "NoYears"
  EC_NoCourse : ExcC K E_NoCourse.C
  EC_NoYears : ExcC K E_NoYears.C
  M_NoCourse_GoodsError : PySem.W.exmOne K (.ref E_NoCourse.C) (.ref E_GoodsError.C) = some true
  M_NoYears_GoodsError : PySem.W.exmOne K (.ref E_NoYears.C) (.ref E_GoodsError.C) = some true
  I_NoCourse_NoCourse : PySem.W.kitOne K (.ref E_NoCourse.C) (.ref E_NoCourse.C) = some true
  I_NoCourse_NoYears : PySem.W.kitOne K (.ref E_NoCourse.C) (.ref E_NoYears.C) = some false
  I_NoYears_NoCourse : PySem.W.kitOne K (.ref E_NoYears.C) (.ref E_NoCourse.C) = some false
  I_NoYears_NoYears : PySem.W.kitOne K (.ref E_NoYears.C) (.ref E_NoYears.C) = some true
  J_NoCourse_ValueError : PySem.W.kitOne K (.ref E_NoCourse.C) (.type "ValueError") = some true
  J_NoYears_ValueError : PySem.W.kitOne K (.ref E_NoYears.C) (.type "ValueError") = some true
end K80
set_option Elab.async false
set_option linter.all false
set_option maxRecDepth 100000
set_option maxHeartbeats 0
namespace K80
open PySem PySem.Spec PyProof.Rows L2 Dl
def dd_is_integer : He.DefD := ⟨("is_integer", none), "is_integer", "is_integer", defArgs s_is_integer, defBody s_is_integer, defScope s_is_integer, [], []⟩
def dd_is_sized : He.DefD := ⟨("is_sized", none), "is_sized", "is_sized", defArgs s_is_sized, defBody s_is_sized, defScope s_is_sized, [], []⟩
def dd_common : He.DefD := ⟨("common", none), "common", "common", defArgs s_common, defBody s_common, defScope s_common, [], []⟩
def dd_is_less : He.DefD := ⟨("is_less", none), "is_less", "is_less", defArgs s_is_less, defBody s_is_less, defScope s_is_less, [], []⟩
def dd__law_hand : He.DefD := ⟨("_law_hand", none), "_law_hand", "_law_hand", defArgs s__law_hand, defBody s__law_hand, defScope s__law_hand, [], []⟩
def dd__law_draw : He.DefD := ⟨("_law_draw", none), "_law_draw", "_law_draw", defArgs s__law_draw, defBody s__law_draw, defScope s__law_draw, [], []⟩
def dd__law_low : He.DefD := ⟨("_law_low", none), "_law_low", "_law_low", defArgs s__law_low, defBody s__law_low, defScope s__law_low, [], []⟩
def dd__law_less : He.DefD := ⟨("_law_less", none), "_law_less", "_law_less", defArgs s__law_less, defBody s__law_less, defScope s__law_less, [], []⟩
def dd__law_is_whole : He.DefD := ⟨("_law_is_whole", none), "_law_is_whole", "_law_is_whole", defArgs s__law_is_whole, defBody s__law_is_whole, defScope s__law_is_whole, [], []⟩
def dd_is_within : He.DefD := ⟨("is_within", none), "is_within", "is_within", defArgs s_is_within, defBody s_is_within, defScope s_is_within, [], []⟩
def dd_share : He.DefD := ⟨("share", none), "share", "share", defArgs s_share, defBody s_share, defScope s_share, [], []⟩
def dd_is_share : He.DefD := ⟨("is_share", none), "is_share", "is_share", defArgs s_is_share, defBody s_is_share, defScope s_is_share, [], []⟩
def dd__law_any : He.DefD := ⟨("_law_any", none), "_law_any", "_law_any", defArgs s__law_any, defBody s__law_any, defScope s__law_any, [], []⟩
def dd__law_add : He.DefD := ⟨("_law_add", none), "_law_add", "_law_add", defArgs s__law_add, defBody s__law_add, defScope s__law_add, [], []⟩
def dd__law_mul : He.DefD := ⟨("_law_mul", none), "_law_mul", "_law_mul", defArgs s__law_mul, defBody s__law_mul, defScope s__law_mul, [], []⟩
def dd__law_is_fraction : He.DefD := ⟨("_law_is_fraction", none), "_law_is_fraction", "_law_is_fraction", defArgs s__law_is_fraction, defBody s__law_is_fraction, defScope s__law_is_fraction, [], []⟩
def dd_plus : He.DefD := ⟨("plus", none), "plus", "plus", defArgs s_plus, defBody s_plus, defScope s_plus, [], []⟩
def dd_times : He.DefD := ⟨("times", none), "times", "times", defArgs s_times, defBody s_times, defScope s_times, [], []⟩
def dd_is_amount : He.DefD := ⟨("is_amount", none), "is_amount", "is_amount", defArgs s_is_amount, defBody s_is_amount, defScope s_is_amount, [], []⟩
def dd__law_sub : He.DefD := ⟨("_law_sub", none), "_law_sub", "_law_sub", defArgs s__law_sub, defBody s__law_sub, defScope s__law_sub, [], []⟩
def dd__law_sum : He.DefD := ⟨("_law_sum", none), "_law_sum", "_law_sum", defArgs s__law_sum, defBody s__law_sum, defScope s__law_sum, [], []⟩
def dd__law_are_amounts : He.DefD := ⟨("_law_are_amounts", none), "_law_are_amounts", "_law_are_amounts", defArgs s__law_are_amounts, defBody s__law_are_amounts, defScope s__law_are_amounts, [], []⟩
def dd__law_amount : He.DefD := ⟨("_law_amount", none), "_law_amount", "_law_amount", defArgs s__law_amount, defBody s__law_amount, defScope s__law_amount, [], []⟩
def dd_minus : He.DefD := ⟨("minus", none), "minus", "minus", defArgs s_minus, defBody s_minus, defScope s_minus, [], []⟩
def dd_summed : He.DefD := ⟨("summed", none), "summed", "summed", defArgs s_summed, defBody s_summed, defScope s_summed, [], []⟩
def dd_are_amounts : He.DefD := ⟨("are_amounts", none), "are_amounts", "are_amounts", defArgs s_are_amounts, defBody s_are_amounts, defScope s_are_amounts, [], []⟩
def dd_made_by : He.DefD := ⟨("made_by", none), "made_by", "made_by", defArgs s_made_by, defBody s_made_by, defScope s_made_by, [], []⟩
def dd_used_by : He.DefD := ⟨("used_by", none), "used_by", "used_by", defArgs s_used_by, defBody s_used_by, defScope s_used_by, [], []⟩
def dd__law_dot : He.DefD := ⟨("_law_dot", none), "_law_dot", "_law_dot", defArgs s__law_dot, defBody s__law_dot, defScope s__law_dot, [], []⟩
def dd__law_is_book : He.DefD := ⟨("_law_is_book", none), "_law_is_book", "_law_is_book", defArgs s__law_is_book, defBody s__law_is_book, defScope s__law_is_book, [], []⟩
def dd__law_is_course : He.DefD := ⟨("_law_is_course", none), "_law_is_course", "_law_is_course", defArgs s__law_is_course, defBody s__law_is_course, defScope s__law_is_course, [], []⟩
def dd__law_used : He.DefD := ⟨("_law_used", none), "_law_used", "_law_used", defArgs s__law_used, defBody s__law_used, defScope s__law_used, [], []⟩
def dd__law_made : He.DefD := ⟨("_law_made", none), "_law_made", "_law_made", defArgs s__law_made, defBody s__law_made, defScope s__law_made, [], []⟩
def dd__law_drawn_book : He.DefD := ⟨("_law_drawn_book", none), "_law_drawn_book", "_law_drawn_book", defArgs s__law_drawn_book, defBody s__law_drawn_book, defScope s__law_drawn_book, [], []⟩
def dd__law_other_courses : He.DefD := ⟨("_law_other_courses", none), "_law_other_courses", "_law_other_courses", defArgs s__law_other_courses, defBody s__law_other_courses, defScope s__law_other_courses, [], []⟩
def dd_is_method : He.DefD := ⟨("is_method", none), "is_method", "is_method", defArgs s_is_method, defBody s_is_method, defScope s_is_method, [], []⟩
def dd_is_plan_of : He.DefD := ⟨("is_plan_of", none), "is_plan_of", "is_plan_of", defArgs s_is_plan_of, defBody s_is_plan_of, defScope s_is_plan_of, [], []⟩
def dd_work_in : He.DefD := ⟨("work_in", none), "work_in", "work_in", defArgs s_work_in, defBody s_work_in, defScope s_work_in, [], []⟩
def dd__law_is_years : He.DefD := ⟨("_law_is_years", none), "_law_is_years", "_law_is_years", defArgs s__law_is_years, defBody s__law_is_years, defScope s__law_is_years, [], []⟩
def dd__law_led : He.DefD := ⟨("_law_led", none), "_law_led", "_law_led", defArgs s__law_led, defBody s__law_led, defScope s__law_led, [], []⟩
def dd__law_fitted : He.DefD := ⟨("_law_fitted", none), "_law_fitted", "_law_fitted", defArgs s__law_fitted, defBody s__law_fitted, defScope s__law_fitted, [], []⟩
def dd_is_book : He.DefD := ⟨("is_book", none), "is_book", "is_book", defArgs s_is_book, defBody s_is_book, defScope s_is_book, [], []⟩
def dd_is_course : He.DefD := ⟨("is_course", none), "is_course", "is_course", defArgs s_is_course, defBody s_is_course, defScope s_is_course, [], []⟩
def dd_raw_led : He.DefD := ⟨("raw_led", none), "raw_led", "raw_led", defArgs s_raw_led, defBody s_raw_led, defScope s_raw_led, [], []⟩
def dd__law_drawn_years : He.DefD := ⟨("_law_drawn_years", none), "_law_drawn_years", "_law_drawn_years", defArgs s__law_drawn_years, defBody s__law_drawn_years, defScope s__law_drawn_years, [], []⟩
def dd_is_years : He.DefD := ⟨("is_years", none), "is_years", "is_years", defArgs s_is_years, defBody s_is_years, defScope s_is_years, [], []⟩
def dd_check_years : He.DefD := ⟨("check_years", none), "check_years", "check_years", defArgs s_check_years, defBody s_check_years, defScope s_check_years, [], []⟩
def dd_course_led : He.DefD := ⟨("course_led", none), "course_led", "course_led", defArgs s_course_led, defBody s_course_led, defScope s_course_led, [], []⟩
def dd__law_word : He.DefD := ⟨("_law_word", none), "_law_word", "_law_word", defArgs s__law_word, defBody s__law_word, defScope s__law_word, [], []⟩
def dd__law_bent : He.DefD := ⟨("_law_bent", none), "_law_bent", "_law_bent", defArgs s__law_bent, defBody s__law_bent, defScope s__law_bent, [], []⟩
def dd__law_is_led : He.DefD := ⟨("_law_is_led", none), "_law_is_led", "_law_is_led", defArgs s__law_is_led, defBody s__law_is_led, defScope s__law_is_led, [], []⟩
def dd_law : He.DefD := ⟨("law", none), "law", "law", defArgs s_law, defBody s_law, defScope s_law, [], []⟩
def hfn : List He.DefD := [dd_is_integer, dd_is_sized, dd_common, dd_is_less, dd__law_hand, dd__law_draw, dd__law_low, dd__law_less, dd__law_is_whole, dd_is_within, dd_share, dd_is_share, dd__law_any, dd__law_add, dd__law_mul, dd__law_is_fraction, dd_plus, dd_times, dd_is_amount, dd__law_sub, dd__law_sum, dd__law_are_amounts, dd__law_amount, dd_minus, dd_summed, dd_are_amounts, dd_made_by, dd_used_by, dd__law_dot, dd__law_is_book, dd__law_is_course, dd__law_used, dd__law_made, dd__law_drawn_book, dd__law_other_courses, dd_is_method, dd_is_plan_of, dd_work_in, dd__law_is_years, dd__law_led, dd__law_fitted, dd_is_book, dd_is_course, dd_raw_led, dd__law_drawn_years, dd_is_years, dd_check_years, dd_course_led, dd__law_word, dd__law_bent, dd__law_is_led, dd_law]
def hfa : List He.Fa := [.glo "is_integer", .glo "is_sized", .glo "common", .glo "is_less", .glo "_law_hand", .glo "_law_draw", .glo "_law_low", .glo "_law_less", .glo "_law_is_whole", .glo "is_within", .glo "share", .glo "is_share", .glo "_law_any", .glo "_law_add", .glo "_law_mul", .glo "_law_is_fraction", .glo "plus", .glo "times", .glo "is_amount", .glo "_law_sub", .glo "_law_sum", .glo "_law_are_amounts", .glo "_law_amount", .glo "minus", .glo "summed", .glo "are_amounts", .glo "made_by", .glo "used_by", .glo "_law_dot", .glo "_law_is_book", .glo "_law_is_course", .glo "_law_used", .glo "_law_made", .glo "_law_drawn_book", .glo "_law_other_courses", .glo "is_method", .glo "is_plan_of", .glo "work_in", .glo "_law_is_years", .glo "_law_led", .glo "_law_fitted", .glo "is_book", .glo "is_course", .glo "raw_led", .glo "_law_drawn_years", .glo "is_years", .glo "check_years", .glo "course_led", .glo "_law_word", .glo "_law_bent", .glo "_law_is_led", .glo "law", .free "ValueError", .free "abs", .free "all", .free "bool", .free "enumerate", .free "int", .free "isinstance", .free "len", .free "list", .free "range", .free "repr", .free "str", .free "tuple", .free "zip", .int "MOST_GOODS" 6, .int "MOST_METHODS" 20, .int "MOST_YEARS" 6, .glo "ZERO", .glo "GoodsError", .exc "GoodsError", .glo "NoCourse", .exc "NoCourse", .glo "NoYears", .exc "NoYears", .exm "NoCourse" "GoodsError" true, .exm "NoYears" "GoodsError" true]
def hex (K : PySem.W.Frag) : Bool := He.tupB K "ZERO" [.int 0, .int 1] && excB K "NoCourse" && excB K "NoYears" && kitRB K "NoCourse" "NoCourse" true && kitRB K "NoCourse" "NoYears" false && kitRB K "NoYears" "NoCourse" false && kitRB K "NoYears" "NoYears" true && kitTB K "NoCourse" "ValueError" true && kitTB K "NoYears" "ValueError" true
theorem txt_of {w : World} {K : PySem.W.Frag} {h : Heap} {mg : Str → Option Value} (X : K.In h) (G : h.Ns mainGlobals mg) (c : He.SaysX hfa hfn [] [] hex w h K) : Nonempty (Txt K mg) := by
  have cd := c.t.d
  obtain ⟨d0, F0⟩ := cd.def_ 0 (d := dd_is_integer) rfl
  obtain ⟨d1, F1⟩ := cd.def_ 1 (d := dd_is_sized) rfl
  obtain ⟨d2, F2⟩ := cd.def_ 2 (d := dd_common) rfl
  obtain ⟨d3, F3⟩ := cd.def_ 3 (d := dd_is_less) rfl
  obtain ⟨d4, F4⟩ := cd.def_ 4 (d := dd__law_hand) rfl
  obtain ⟨d5, F5⟩ := cd.def_ 5 (d := dd__law_draw) rfl
  obtain ⟨d6, F6⟩ := cd.def_ 6 (d := dd__law_low) rfl
  obtain ⟨d7, F7⟩ := cd.def_ 7 (d := dd__law_less) rfl
  obtain ⟨d8, F8⟩ := cd.def_ 8 (d := dd__law_is_whole) rfl
  obtain ⟨d9, F9⟩ := cd.def_ 9 (d := dd_is_within) rfl
  obtain ⟨d10, F10⟩ := cd.def_ 10 (d := dd_share) rfl
  obtain ⟨d11, F11⟩ := cd.def_ 11 (d := dd_is_share) rfl
  obtain ⟨d12, F12⟩ := cd.def_ 12 (d := dd__law_any) rfl
  obtain ⟨d13, F13⟩ := cd.def_ 13 (d := dd__law_add) rfl
  obtain ⟨d14, F14⟩ := cd.def_ 14 (d := dd__law_mul) rfl
  obtain ⟨d15, F15⟩ := cd.def_ 15 (d := dd__law_is_fraction) rfl
  obtain ⟨d16, F16⟩ := cd.def_ 16 (d := dd_plus) rfl
  obtain ⟨d17, F17⟩ := cd.def_ 17 (d := dd_times) rfl
  obtain ⟨d18, F18⟩ := cd.def_ 18 (d := dd_is_amount) rfl
  obtain ⟨d19, F19⟩ := cd.def_ 19 (d := dd__law_sub) rfl
  obtain ⟨d20, F20⟩ := cd.def_ 20 (d := dd__law_sum) rfl
  obtain ⟨d21, F21⟩ := cd.def_ 21 (d := dd__law_are_amounts) rfl
  obtain ⟨d22, F22⟩ := cd.def_ 22 (d := dd__law_amount) rfl
  obtain ⟨d23, F23⟩ := cd.def_ 23 (d := dd_minus) rfl
  obtain ⟨d24, F24⟩ := cd.def_ 24 (d := dd_summed) rfl
  obtain ⟨d25, F25⟩ := cd.def_ 25 (d := dd_are_amounts) rfl
  obtain ⟨d26, F26⟩ := cd.def_ 26 (d := dd_made_by) rfl
  obtain ⟨d27, F27⟩ := cd.def_ 27 (d := dd_used_by) rfl
  obtain ⟨d28, F28⟩ := cd.def_ 28 (d := dd__law_dot) rfl
  obtain ⟨d29, F29⟩ := cd.def_ 29 (d := dd__law_is_book) rfl
  obtain ⟨d30, F30⟩ := cd.def_ 30 (d := dd__law_is_course) rfl
  obtain ⟨d31, F31⟩ := cd.def_ 31 (d := dd__law_used) rfl
  obtain ⟨d32, F32⟩ := cd.def_ 32 (d := dd__law_made) rfl
  obtain ⟨d33, F33⟩ := cd.def_ 33 (d := dd__law_drawn_book) rfl
  obtain ⟨d34, F34⟩ := cd.def_ 34 (d := dd__law_other_courses) rfl
  obtain ⟨d35, F35⟩ := cd.def_ 35 (d := dd_is_method) rfl
  obtain ⟨d36, F36⟩ := cd.def_ 36 (d := dd_is_plan_of) rfl
  obtain ⟨d37, F37⟩ := cd.def_ 37 (d := dd_work_in) rfl
  obtain ⟨d38, F38⟩ := cd.def_ 38 (d := dd__law_is_years) rfl
  obtain ⟨d39, F39⟩ := cd.def_ 39 (d := dd__law_led) rfl
  obtain ⟨d40, F40⟩ := cd.def_ 40 (d := dd__law_fitted) rfl
  obtain ⟨d41, F41⟩ := cd.def_ 41 (d := dd_is_book) rfl
  obtain ⟨d42, F42⟩ := cd.def_ 42 (d := dd_is_course) rfl
  obtain ⟨d43, F43⟩ := cd.def_ 43 (d := dd_raw_led) rfl
  obtain ⟨d44, F44⟩ := cd.def_ 44 (d := dd__law_drawn_years) rfl
  obtain ⟨d45, F45⟩ := cd.def_ 45 (d := dd_is_years) rfl
  obtain ⟨d46, F46⟩ := cd.def_ 46 (d := dd_check_years) rfl
  obtain ⟨d47, F47⟩ := cd.def_ 47 (d := dd_course_led) rfl
  obtain ⟨d48, F48⟩ := cd.def_ 48 (d := dd__law_word) rfl
  obtain ⟨d49, F49⟩ := cd.def_ 49 (d := dd__law_bent) rfl
  obtain ⟨d50, F50⟩ := cd.def_ 50 (d := dd__law_is_led) rfl
  obtain ⟨d51, F51⟩ := cd.def_ 51 (d := dd_law) rfl
  obtain ⟨t0, e0⟩ := He.int_ok X G (cd.fact 66 (f := .int "MOST_GOODS" 6) rfl)
  obtain ⟨t1, e1⟩ := He.int_ok X G (cd.fact 67 (f := .int "MOST_METHODS" 20) rfl)
  obtain ⟨t2, e2⟩ := He.int_ok X G (cd.fact 68 (f := .int "MOST_YEARS" 6) rfl)
  have ex : hex K = true := c.more
  unfold hex at ex
  simp only [Bool.and_eq_true] at ex
  exact ⟨{
    f_is_integer := Dk.mk' ⟨d0, F0⟩ (He.glo_ok X G (cd.fact 0 (f := .glo "is_integer") rfl)) fun _ _ _ _ _ _ us hl => match us, hl with | [_], _ => rfl
    f_is_sized := Dk.mk' ⟨d1, F1⟩ (He.glo_ok X G (cd.fact 1 (f := .glo "is_sized") rfl)) fun _ _ _ _ _ _ us hl => match us, hl with | [_, _, _], _ => rfl
    f_common := Dk.mk' ⟨d2, F2⟩ (He.glo_ok X G (cd.fact 2 (f := .glo "common") rfl)) fun _ _ _ _ _ _ us hl => match us, hl with | [_, _], _ => rfl
    f_is_less := Dk.mk' ⟨d3, F3⟩ (He.glo_ok X G (cd.fact 3 (f := .glo "is_less") rfl)) fun _ _ _ _ _ _ us hl => match us, hl with | [_, _], _ => rfl
    f__law_hand := Dk.mk' ⟨d4, F4⟩ (He.glo_ok X G (cd.fact 4 (f := .glo "_law_hand") rfl)) fun _ _ _ _ _ _ us hl => match us, hl with | [_], _ => rfl
    f__law_draw := Dk.mk' ⟨d5, F5⟩ (He.glo_ok X G (cd.fact 5 (f := .glo "_law_draw") rfl)) fun _ _ _ _ _ _ us hl => match us, hl with | [_, _], _ => rfl
    f__law_low := Dk.mk' ⟨d6, F6⟩ (He.glo_ok X G (cd.fact 6 (f := .glo "_law_low") rfl)) fun _ _ _ _ _ _ us hl => match us, hl with | [_, _], _ => rfl
    f__law_less := Dk.mk' ⟨d7, F7⟩ (He.glo_ok X G (cd.fact 7 (f := .glo "_law_less") rfl)) fun _ _ _ _ _ _ us hl => match us, hl with | [_, _], _ => rfl
    f__law_is_whole := Dk.mk' ⟨d8, F8⟩ (He.glo_ok X G (cd.fact 8 (f := .glo "_law_is_whole") rfl)) fun _ _ _ _ _ _ us hl => match us, hl with | [_], _ => rfl
    f_is_within := Dk.mk' ⟨d9, F9⟩ (He.glo_ok X G (cd.fact 9 (f := .glo "is_within") rfl)) fun _ _ _ _ _ _ us hl => match us, hl with | [_, _, _], _ => rfl
    f_share := Dk.mk' ⟨d10, F10⟩ (He.glo_ok X G (cd.fact 10 (f := .glo "share") rfl)) fun _ _ _ _ _ _ us hl => match us, hl with | [_, _], _ => rfl
    f_is_share := Dk.mk' ⟨d11, F11⟩ (He.glo_ok X G (cd.fact 11 (f := .glo "is_share") rfl)) fun _ _ _ _ _ _ us hl => match us, hl with | [_], _ => rfl
    f__law_any := Dk.mk' ⟨d12, F12⟩ (He.glo_ok X G (cd.fact 12 (f := .glo "_law_any") rfl)) fun _ _ _ _ _ _ us hl => match us, hl with | [_, _], _ => rfl
    f__law_add := Dk.mk' ⟨d13, F13⟩ (He.glo_ok X G (cd.fact 13 (f := .glo "_law_add") rfl)) fun _ _ _ _ _ _ us hl => match us, hl with | [_, _], _ => rfl
    f__law_mul := Dk.mk' ⟨d14, F14⟩ (He.glo_ok X G (cd.fact 14 (f := .glo "_law_mul") rfl)) fun _ _ _ _ _ _ us hl => match us, hl with | [_, _], _ => rfl
    f__law_is_fraction := Dk.mk' ⟨d15, F15⟩ (He.glo_ok X G (cd.fact 15 (f := .glo "_law_is_fraction") rfl)) fun _ _ _ _ _ _ us hl => match us, hl with | [_], _ => rfl
    f_plus := Dk.mk' ⟨d16, F16⟩ (He.glo_ok X G (cd.fact 16 (f := .glo "plus") rfl)) fun _ _ _ _ _ _ us hl => match us, hl with | [_, _], _ => rfl
    f_times := Dk.mk' ⟨d17, F17⟩ (He.glo_ok X G (cd.fact 17 (f := .glo "times") rfl)) fun _ _ _ _ _ _ us hl => match us, hl with | [_, _], _ => rfl
    f_is_amount := Dk.mk' ⟨d18, F18⟩ (He.glo_ok X G (cd.fact 18 (f := .glo "is_amount") rfl)) fun _ _ _ _ _ _ us hl => match us, hl with | [_], _ => rfl
    f__law_sub := Dk.mk' ⟨d19, F19⟩ (He.glo_ok X G (cd.fact 19 (f := .glo "_law_sub") rfl)) fun _ _ _ _ _ _ us hl => match us, hl with | [_, _], _ => rfl
    f__law_sum := Dk.mk' ⟨d20, F20⟩ (He.glo_ok X G (cd.fact 20 (f := .glo "_law_sum") rfl)) fun _ _ _ _ _ _ us hl => match us, hl with | [_], _ => rfl
    f__law_are_amounts := Dk.mk' ⟨d21, F21⟩ (He.glo_ok X G (cd.fact 21 (f := .glo "_law_are_amounts") rfl)) fun _ _ _ _ _ _ us hl => match us, hl with | [_, _], _ => rfl
    f__law_amount := Dk.mk' ⟨d22, F22⟩ (He.glo_ok X G (cd.fact 22 (f := .glo "_law_amount") rfl)) fun _ _ _ _ _ _ us hl => match us, hl with | [_], _ => rfl
    f_minus := Dk.mk' ⟨d23, F23⟩ (He.glo_ok X G (cd.fact 23 (f := .glo "minus") rfl)) fun _ _ _ _ _ _ us hl => match us, hl with | [_, _], _ => rfl
    f_summed := Dk.mk' ⟨d24, F24⟩ (He.glo_ok X G (cd.fact 24 (f := .glo "summed") rfl)) fun _ _ _ _ _ _ us hl => match us, hl with | [_], _ => rfl
    f_are_amounts := Dk.mk' ⟨d25, F25⟩ (He.glo_ok X G (cd.fact 25 (f := .glo "are_amounts") rfl)) fun _ _ _ _ _ _ us hl => match us, hl with | [_, _], _ => rfl
    f_made_by := Dk.mk' ⟨d26, F26⟩ (He.glo_ok X G (cd.fact 26 (f := .glo "made_by") rfl)) fun _ _ _ _ _ _ us hl => match us, hl with | [_, _], _ => rfl
    f_used_by := Dk.mk' ⟨d27, F27⟩ (He.glo_ok X G (cd.fact 27 (f := .glo "used_by") rfl)) fun _ _ _ _ _ _ us hl => match us, hl with | [_, _], _ => rfl
    f__law_dot := Dk.mk' ⟨d28, F28⟩ (He.glo_ok X G (cd.fact 28 (f := .glo "_law_dot") rfl)) fun _ _ _ _ _ _ us hl => match us, hl with | [_, _], _ => rfl
    f__law_is_book := Dk.mk' ⟨d29, F29⟩ (He.glo_ok X G (cd.fact 29 (f := .glo "_law_is_book") rfl)) fun _ _ _ _ _ _ us hl => match us, hl with | [_], _ => rfl
    f__law_is_course := Dk.mk' ⟨d30, F30⟩ (He.glo_ok X G (cd.fact 30 (f := .glo "_law_is_course") rfl)) fun _ _ _ _ _ _ us hl => match us, hl with | [_, _], _ => rfl
    f__law_used := Dk.mk' ⟨d31, F31⟩ (He.glo_ok X G (cd.fact 31 (f := .glo "_law_used") rfl)) fun _ _ _ _ _ _ us hl => match us, hl with | [_, _], _ => rfl
    f__law_made := Dk.mk' ⟨d32, F32⟩ (He.glo_ok X G (cd.fact 32 (f := .glo "_law_made") rfl)) fun _ _ _ _ _ _ us hl => match us, hl with | [_, _], _ => rfl
    f__law_drawn_book := Dk.mk' ⟨d33, F33⟩ (He.glo_ok X G (cd.fact 33 (f := .glo "_law_drawn_book") rfl)) fun _ _ _ _ _ _ us hl => match us, hl with | [_, _, _], _ => rfl
    f__law_other_courses := Dk.mk' ⟨d34, F34⟩ (He.glo_ok X G (cd.fact 34 (f := .glo "_law_other_courses") rfl)) fun _ _ _ _ _ _ us hl => match us, hl with | [_, _, _], _ => rfl
    f_is_method := Dk.mk' ⟨d35, F35⟩ (He.glo_ok X G (cd.fact 35 (f := .glo "is_method") rfl)) fun _ _ _ _ _ _ us hl => match us, hl with | [_, _], _ => rfl
    f_is_plan_of := Dk.mk' ⟨d36, F36⟩ (He.glo_ok X G (cd.fact 36 (f := .glo "is_plan_of") rfl)) fun _ _ _ _ _ _ us hl => match us, hl with | [_, _], _ => rfl
    f_work_in := Dk.mk' ⟨d37, F37⟩ (He.glo_ok X G (cd.fact 37 (f := .glo "work_in") rfl)) fun _ _ _ _ _ _ us hl => match us, hl with | [_, _], _ => rfl
    f__law_is_years := Dk.mk' ⟨d38, F38⟩ (He.glo_ok X G (cd.fact 38 (f := .glo "_law_is_years") rfl)) fun _ _ _ _ _ _ us hl => match us, hl with | [_], _ => rfl
    f__law_led := Dk.mk' ⟨d39, F39⟩ (He.glo_ok X G (cd.fact 39 (f := .glo "_law_led") rfl)) fun _ _ _ _ _ _ us hl => match us, hl with | [_, _], _ => rfl
    f__law_fitted := Dk.mk' ⟨d40, F40⟩ (He.glo_ok X G (cd.fact 40 (f := .glo "_law_fitted") rfl)) fun _ _ _ _ _ _ us hl => match us, hl with | [_], _ => rfl
    f_is_book := Dk.mk' ⟨d41, F41⟩ (He.glo_ok X G (cd.fact 41 (f := .glo "is_book") rfl)) fun _ _ _ _ _ _ us hl => match us, hl with | [_], _ => rfl
    f_is_course := Dk.mk' ⟨d42, F42⟩ (He.glo_ok X G (cd.fact 42 (f := .glo "is_course") rfl)) fun _ _ _ _ _ _ us hl => match us, hl with | [_, _], _ => rfl
    f_raw_led := Dk.mk' ⟨d43, F43⟩ (He.glo_ok X G (cd.fact 43 (f := .glo "raw_led") rfl)) fun _ _ _ _ _ _ us hl => match us, hl with | [_, _], _ => rfl
    f__law_drawn_years := Dk.mk' ⟨d44, F44⟩ (He.glo_ok X G (cd.fact 44 (f := .glo "_law_drawn_years") rfl)) fun _ _ _ _ _ _ us hl => match us, hl with | [_], _ => rfl
    f_is_years := Dk.mk' ⟨d45, F45⟩ (He.glo_ok X G (cd.fact 45 (f := .glo "is_years") rfl)) fun _ _ _ _ _ _ us hl => match us, hl with | [_], _ => rfl
    f_check_years := Dk.mk' ⟨d46, F46⟩ (He.glo_ok X G (cd.fact 46 (f := .glo "check_years") rfl)) fun _ _ _ _ _ _ us hl => match us, hl with | [_], _ => rfl
    f_course_led := Dk.mk' ⟨d47, F47⟩ (He.glo_ok X G (cd.fact 47 (f := .glo "course_led") rfl)) fun _ _ _ _ _ _ us hl => match us, hl with | [_, _], _ => rfl
    f__law_word := Dk.mk' ⟨d48, F48⟩ (He.glo_ok X G (cd.fact 48 (f := .glo "_law_word") rfl)) fun _ _ _ _ _ _ us hl => match us, hl with | [_, _], _ => rfl
    f__law_bent := Dk.mk' ⟨d49, F49⟩ (He.glo_ok X G (cd.fact 49 (f := .glo "_law_bent") rfl)) fun _ _ _ _ _ _ us hl => match us, hl with | [_, _, _], _ => rfl
    f__law_is_led := Dk.mk' ⟨d50, F50⟩ (He.glo_ok X G (cd.fact 50 (f := .glo "_law_is_led") rfl)) fun _ _ _ _ _ _ us hl => match us, hl with | [_, _], _ => rfl
    f_law := Dk.mk' ⟨d51, F51⟩ (He.glo_ok X G (cd.fact 51 (f := .glo "law") rfl)) fun _ _ _ _ _ _ us hl => match us, hl with | [_], _ => rfl
    n_ValueError := He.free_ok X G (cd.fact 52 (f := .free "ValueError") rfl)
    n_abs := He.free_ok X G (cd.fact 53 (f := .free "abs") rfl)
    n_all := He.free_ok X G (cd.fact 54 (f := .free "all") rfl)
    n_bool := He.free_ok X G (cd.fact 55 (f := .free "bool") rfl)
    n_enumerate := He.free_ok X G (cd.fact 56 (f := .free "enumerate") rfl)
    n_int := He.free_ok X G (cd.fact 57 (f := .free "int") rfl)
    n_isinstance := He.free_ok X G (cd.fact 58 (f := .free "isinstance") rfl)
    n_len := He.free_ok X G (cd.fact 59 (f := .free "len") rfl)
    n_list := He.free_ok X G (cd.fact 60 (f := .free "list") rfl)
    n_range := He.free_ok X G (cd.fact 61 (f := .free "range") rfl)
    n_repr := He.free_ok X G (cd.fact 62 (f := .free "repr") rfl)
    n_str := He.free_ok X G (cd.fact 63 (f := .free "str") rfl)
    n_tuple := He.free_ok X G (cd.fact 64 (f := .free "tuple") rfl)
    n_zip := He.free_ok X G (cd.fact 65 (f := .free "zip") rfl)
    u_MOST_GOODS := .int 6 t0
    v_MOST_GOODS := .int 6
    c_MOST_GOODS := ⟨e0, ⟨_, rfl⟩, fun _ => .int _⟩
    u_MOST_METHODS := .int 20 t1
    v_MOST_METHODS := .int 20
    c_MOST_METHODS := ⟨e1, ⟨_, rfl⟩, fun _ => .int _⟩
    u_MOST_YEARS := .int 6 t2
    v_MOST_YEARS := .int 6
    c_MOST_YEARS := ⟨e2, ⟨_, rfl⟩, fun _ => .int _⟩
    u_ZERO := .ref (He.ga K "ZERO")
    v_ZERO := .ref (He.ga K "ZERO")
    c_ZERO := ⟨He.glo_ok X G (cd.fact 69 (f := .glo "ZERO") rfl), rfl, fun F => .tup (He.tupB_ok ex.1.1.1.1.1.1.1.1 F) (.cons (.int _) (.cons (.int _) .nil))⟩
    E_GoodsError := exK_of (He.glo_ok X G (cd.fact 70 (f := .glo "GoodsError") rfl)) (cd.fact 71 (f := .exc "GoodsError") rfl)
    E_NoCourse := exK_of (He.glo_ok X G (cd.fact 72 (f := .glo "NoCourse") rfl)) (cd.fact 73 (f := .exc "NoCourse") rfl)
    E_NoYears := exK_of (He.glo_ok X G (cd.fact 74 (f := .glo "NoYears") rfl)) (cd.fact 75 (f := .exc "NoYears") rfl)
    EC_NoCourse := excB_ok ex.1.1.1.1.1.1.1.2
    EC_NoYears := excB_ok ex.1.1.1.1.1.1.2
    M_NoCourse_GoodsError := He.exm_ok (cd.fact 76 (f := .exm "NoCourse" "GoodsError" true) rfl)
    M_NoYears_GoodsError := He.exm_ok (cd.fact 77 (f := .exm "NoYears" "GoodsError" true) rfl)
    I_NoCourse_NoCourse := kitRB_ok ex.1.1.1.1.1.2
    I_NoCourse_NoYears := kitRB_ok ex.1.1.1.1.2
    I_NoYears_NoCourse := kitRB_ok ex.1.1.1.2
    I_NoYears_NoYears := kitRB_ok ex.1.1.2
    J_NoCourse_ValueError := kitTB_ok ex.1.2
    J_NoYears_ValueError := kitTB_ok ex.2
  }⟩
def hl0 : List PySem.Str := ["GoodsError", "NoCourse", "NoYears", "ZERO", "is_integer", "is_within", "is_sized", "common", "share", "is_share", "plus", "minus", "times", "is_less", "summed", "MOST_GOODS", "MOST_METHODS", "is_amount", "are_amounts", "is_method", "is_book", "is_plan_of", "made_by", "used_by", "work_in", "MOST_YEARS", "is_years", "check_years", "is_course", "raw_led"]
def hl1 : List PySem.Str := ["course_led", "_law_hand", "_law_draw", "_law_any", "_law_low", "_law_add", "_law_sub", "_law_mul", "_law_less", "_law_sum", "_law_dot", "_law_is_whole", "_law_is_fraction", "_law_are_amounts", "_law_is_book", "_law_is_years", "_law_is_course", "_law_used", "_law_made", "_law_led", "_law_amount", "_law_drawn_book", "_law_fitted", "_law_drawn_years", "_law_word", "_law_bent", "_law_is_led", "_law_other_courses"]
def hloose : List PySem.Str := hl0 ++ hl1
abbrev hR : PySem.W.OpenRow := PySem.W.OpenLaw.row PySem.Challenge.rw_makeprice_k80_whole_courses_led_year_by
abbrev hk : PySem.W.Hook := He.hookX 4 hfa hfn [] [] hex
def hob (s : PySem.W.SharedT) : He.AlX := He.obsX 4 hfa hfn [] [] hex (HandSHeadRun.getT s)
theorem hob_eq (s : PySem.W.SharedT) : hob s = hk.obs s.abs := He.obsX_eq (HandSHeadRun.getT_eq s)
theorem hrun (w : World) : HandSHeadRun.RunEq hR (PySem.W.view hR.prog [63]) hk hob 4000 hloose w := by
  intro os
  kernel_rfl
end K80
set_option Elab.async false
set_option linter.all false
set_option maxRecDepth 100000
namespace K80
open PySem PySem.Spec PyProof.Rows L2 Dl
noncomputable def b_is_integer : Fs := (sRet (vE (eAnd (eUn (isiD "int") (eVar 0)) (eUn notD (eUn (isiD "bool") (eVar 0))))))
@[irreducible] noncomputable def m_is_integer : List D → Option Sl := fnP b_is_integer 1
noncomputable def b_is_sized : Fs := (sRet (vE (eAnd (eUn (isiD "tuple") (eVar 0)) (eChain leD leD (eVar 1) (eUn lenD (bVar 0)) (eVar 2)))))
@[irreducible] noncomputable def m_is_sized : List D → Option Sl := fnP b_is_sized 3
noncomputable def l_common_1 : Fs := (sPar 0 1 (vE (eVar 1)) (vE (eBin modD (eVar 0) (eVar 1))))
noncomputable def b_common : Fs := (sSeq (sWhile (tOf (eBin neD (eVar 1) (eC (.int 0)))) l_common_1)
    (sRet (vE (eUn absD (bVar 0)))))
@[irreducible] noncomputable def m_common : List D → Option Sl := fnP b_common 2
noncomputable def b_is_less : Fs := (sRet (vE (eBin ltD (eBin mulD (eIxV 0 (eC (.int 0))) (eIxV 1 (eC (.int 1)))) (eBin mulD (eIxV 1 (eC (.int 0))) (eIxV 0 (eC (.int 1)))))))
@[irreducible] noncomputable def m_is_less : List D → Option Sl := fnP b_is_less 2
noncomputable def b__law_hand : Fs := (sSeq (sSet 1 (vLc (iSeq (eSlU (eVar 0) oNone (oSome (eC (.int 63))))) (gVar 2) cYes (eUn absD (eUn intD (bVar 2))) [2]))
    (sRet (vLst (aCons (eVar 1) (aCons (eC (.int 0)) (aCons (eC (.int 0)) (aCons (eBin addA (eC (.int 83)) (eBin mulD (eC (.int 5)) (eUn lenD (bVar 1)))) (aCons (eC (.int 0)) aNil))))))))
@[irreducible] noncomputable def m__law_hand : List D → Option Sl := fnP b__law_hand 3
noncomputable def b__law_draw : Fs := (sSeq (sIf (tAndT (tOf (eBin eqD (eIxV 0 (eC (.int 2))) (eC (.int 0)))) (tOf (eBin ltD (eIxV 0 (eC (.int 1))) (eUn lenD (eIxV 0 (eC (.int 0))))))) (sSeq (sSet 2 (vE (eBin atD (eIxV 0 (eC (.int 0))) (eIxV 0 (eC (.int 1))))))
    (sSeq (sPut 0 (eC (.int 1)) (vE (eBin addA (eIxV 0 (eC (.int 1))) (eC (.int 1)))))
    (sSeq (sPut 0 (eC (.int 3)) (vE (eBin modD (eUn intD (eBin addA (eBin addA (eBin mulD (eIxV 0 (eC (.int 3))) (eC (.int 69621))) (eBin mulD (eVar 2) (eC (.int 40692)))) (eC (.int 17)))) (eC (.int 2147483629)))))
    (sIf (tOf (eBin geD (eVar 2) (eBin powD (eC (.int 10)) (eC (.int 18))))) (sPut 0 (eC (.int 2)) (vE (eVar 2))) sNil)))) sNil)
    (sSeq (sIf (tOf (eBin gtD (eIxV 0 (eC (.int 2))) (eC (.int 0)))) (sSeq (sSet 3 (vE (eBin modD (eUn intD (eIxV 0 (eC (.int 2)))) (eVar 1))))
    (sSeq (sPut 0 (eC (.int 2)) (vE (eBin fdivD (eIxV 0 (eC (.int 2))) (eVar 1))))
    (sRetV 3))) sNil)
    (sSeq (sPut 0 (eC (.int 4)) (vE (eBin addA (eIxV 0 (eC (.int 4))) (eC (.int 1)))))
    (sSeq (sSet 4 (vE (eBin modD (eUn intD (eBin mulD (eUn intD (eBin addA (eIxV 0 (eC (.int 3))) (eBin mulD (eC (.int 7919)) (eIxV 0 (eC (.int 4)))))) (eC (.int 48271)))) (eC (.int 2147483647)))))
    (sSeq (sSet 4 (vE (eBin modD (eUn intD (eBin mulD (eVar 4) (eBin addA (eBin fdivD (eVar 4) (eC (.int 1009))) (eC (.int 69621))))) (eC (.int 2147483647)))))
    (sSeq (sSet 4 (vE (eBin modD (eUn intD (eBin mulD (eVar 4) (eBin addA (eBin fdivD (eVar 4) (eC (.int 2003))) (eC (.int 40014))))) (eC (.int 2147483563)))))
    (sRet (vE (eBin modD (eUn intD (eBin fdivD (eVar 4) (eC (.int 16)))) (eVar 1))))))))))
@[irreducible] noncomputable def m__law_draw : List D → List D → Option (Sl × List D) := fnI b__law_draw 5
noncomputable def l__law_low_1 : Fs := (sPar 2 3 (vE (eVar 3)) (vE (eBin modD (eUn intD (bVar 2)) (eVar 3))))
noncomputable def b__law_low : Fs := (sSeq (sPar 2 3 (vE (eUn absD (bVar 0))) (vE (eUn absD (bVar 1))))
    (sSeq (sWhile (tOf (eBin neD (eVar 3) (eC (.int 0)))) l__law_low_1)
    (sRet (vE (eIf (tOf (eBin gtD (eVar 1) (eC (.int 0)))) (eTup (aCons (eBin fdivD (eVar 0) (eVar 2)) (aCons (eBin fdivD (eVar 1) (eVar 2)) aNil))) (eTup (aCons (eBin subD (eC (.int 0)) (eBin fdivD (eVar 0) (eVar 2))) (aCons (eBin subD (eC (.int 0)) (eBin fdivD (eVar 1) (eVar 2))) aNil))))))))
@[irreducible] noncomputable def m__law_low : List D → Option Sl := fnP b__law_low 4
noncomputable def b__law_less : Fs := (sRet (vE (eBin ltD (eBin mulD (eIxV 0 (eC (.int 0))) (eIxV 1 (eC (.int 1)))) (eBin mulD (eIxV 1 (eC (.int 0))) (eIxV 0 (eC (.int 1)))))))
@[irreducible] noncomputable def m__law_less : List D → Option Sl := fnP b__law_less 2
noncomputable def b__law_is_whole : Fs := (sRet (vE (eAnd (eUn (isiD "int") (eVar 0)) (eUn notD (eUn (isiD "bool") (eVar 0))))))
@[irreducible] noncomputable def m__law_is_whole : List D → Option Sl := fnP b__law_is_whole 1
noncomputable def b_is_within : Fs := (sRet (vE (eAnd (eV (eCall m_is_integer (aCons (eVar 0) aNil))) (eChain leD leD (eVar 1) (eVar 0) (eVar 2)))))
@[irreducible] noncomputable def m_is_within : List D → Option Sl := fnP b_is_within 3
noncomputable def b_share : Fs := (sSeq (sSet 2 (eCall m_common (aCons (eVar 0) (aCons (eVar 1) aNil))))
    (sSeq (sIf (tOf (eBin ltD (eVar 1) (eC (.int 0)))) (sSet 2 (vE (eUn negD (eVar 2)))) sNil)
    (sRet (vE (eTup (aCons (eBin fdivD (eVar 0) (eVar 2)) (aCons (eBin fdivD (eVar 1) (eVar 2)) aNil)))))))
@[irreducible] noncomputable def m_share : List D → Option Sl := fnP b_share 3
noncomputable def b_is_share : Fs := (sSeq (sIf (tOrT (tNotT (tOf (eV (eCall m_is_sized (aCons (eVar 0) (aCons (eC (.int 2)) (aCons (eC (.int 2)) aNil))))))) (tOrT (tNotT (tOf (eV (eCall m_is_integer (aCons (eIxV 0 (eC (.int 0))) aNil))))) (tNotT (tOf (eV (eCall m_is_integer (aCons (eIxV 0 (eC (.int 1))) aNil))))))) (sRet (vE (eC (.bool false)))) sNil)
    (sRet (vE (eAnd (eBin gtD (eIxV 0 (eC (.int 1))) (eC (.int 0))) (eBin eqD (eV (eCall m_common (aCons (eIxV 0 (eC (.int 0))) (aCons (eIxV 0 (eC (.int 1))) aNil)))) (eC (.int 1)))))))
@[irreducible] noncomputable def m_is_share : List D → Option Sl := fnP b_is_share 1
noncomputable def b__law_any : Fs := (sRet (vE (eIxV 1 (eV (eCallI m__law_draw 0 (aCons (eUn lenD (bVar 1)) aNil))))))
@[irreducible] noncomputable def m__law_any : List D → List D → Option (Sl × List D) := fnI b__law_any 2
noncomputable def b__law_add : Fs := (sRet (eCall m__law_low (aCons (eBin addA (eBin mulD (eIxV 0 (eC (.int 0))) (eIxV 1 (eC (.int 1)))) (eBin mulD (eIxV 1 (eC (.int 0))) (eIxV 0 (eC (.int 1))))) (aCons (eBin mulD (eIxV 0 (eC (.int 1))) (eIxV 1 (eC (.int 1)))) aNil))))
@[irreducible] noncomputable def m__law_add : List D → Option Sl := fnP b__law_add 2
noncomputable def b__law_mul : Fs := (sRet (eCall m__law_low (aCons (eBin mulD (eIxV 0 (eC (.int 0))) (eIxV 1 (eC (.int 0)))) (aCons (eBin mulD (eIxV 0 (eC (.int 1))) (eIxV 1 (eC (.int 1)))) aNil))))
@[irreducible] noncomputable def m__law_mul : List D → Option Sl := fnP b__law_mul 2
noncomputable def b__law_is_fraction : Fs := (sSeq (sIf (tOrT (tNotT (tOf (eUn (isiD "tuple") (eVar 0)))) (tOrT (tOf (eBin neD (eUn lenD (bVar 0)) (eC (.int 2)))) (tNotT (tOf (eUn allD (eV (vLc (iSeq (eVar 0)) (gVar 1) cYes (eV (eCall m__law_is_whole (aCons (eVar 1) aNil))) [1]))))))) (sRet (vE (eC (.bool false)))) sNil)
    (sRet (vE (eAnd (eBin gtD (eIxV 0 (eC (.int 1))) (eC (.int 0))) (eBin eqD (eV (eCall m__law_low (aCons (eIxV 0 (eC (.int 0))) (aCons (eIxV 0 (eC (.int 1))) aNil)))) (eVar 0))))))
@[irreducible] noncomputable def m__law_is_fraction : List D → Option Sl := fnP b__law_is_fraction 2
noncomputable def b_plus : Fs := (sSeq (sIf (tOf (eBin eqD (eIxV 0 (eC (.int 1))) (eIxV 1 (eC (.int 1))))) (sRet (eCall m_share (aCons (eBin addA (eIxV 0 (eC (.int 0))) (eIxV 1 (eC (.int 0)))) (aCons (eIxV 0 (eC (.int 1))) aNil)))) sNil)
    (sRet (eCall m_share (aCons (eBin addA (eBin mulD (eIxV 0 (eC (.int 0))) (eIxV 1 (eC (.int 1)))) (eBin mulD (eIxV 1 (eC (.int 0))) (eIxV 0 (eC (.int 1))))) (aCons (eBin mulD (eIxV 0 (eC (.int 1))) (eIxV 1 (eC (.int 1)))) aNil)))))
@[irreducible] noncomputable def m_plus : List D → Option Sl := fnP b_plus 2
noncomputable def b_times : Fs := (sRet (eCall m_share (aCons (eBin mulD (eIxV 0 (eC (.int 0))) (eIxV 1 (eC (.int 0)))) (aCons (eBin mulD (eIxV 0 (eC (.int 1))) (eIxV 1 (eC (.int 1)))) aNil))))
@[irreducible] noncomputable def m_times : List D → Option Sl := fnP b_times 2
noncomputable def b_is_amount : Fs := (sRet (vE (eAnd (eV (eCall m_is_share (aCons (eVar 0) aNil))) (eBin geD (eIxV 0 (eC (.int 0))) (eC (.int 0))))))
@[irreducible] noncomputable def m_is_amount : List D → Option Sl := fnP b_is_amount 1
noncomputable def b__law_sub : Fs := (sRet (eCall m__law_add (aCons (eVar 0) (aCons (eTup (aCons (eBin subD (eC (.int 0)) (eIxV 1 (eC (.int 0)))) (aCons (eIxV 1 (eC (.int 1))) aNil))) aNil))))
@[irreducible] noncomputable def m__law_sub : List D → Option Sl := fnP b__law_sub 2
noncomputable def l__law_sum_1 : Fs := (sWp [2] (sSet 1 (eCall m__law_add (aCons (eVar 1) (aCons (eVar 2) aNil)))))
noncomputable def b__law_sum : Fs := (sSeq (sSet 1 (vE (eTup (aCons (eC (.int 0)) (aCons (eC (.int 1)) aNil)))))
    (sSeq (sFor (iSeq (eVar 0)) (gVar 2) l__law_sum_1)
    (sRetV 1)))
@[irreducible] noncomputable def m__law_sum : List D → Option Sl := fnP b__law_sum 3
noncomputable def b__law_are_amounts : Fs := (sSeq (sIf (tOrT (tNotT (tOf (eUn (isiD "tuple") (eVar 0)))) (tOrT (tOf (eBin neD (eUn lenD (bVar 0)) (eVar 1))) (tNotT (tOf (eUn allD (eV (vLc (iSeq (eVar 0)) (gVar 2) cYes (eV (eCall m__law_is_fraction (aCons (eVar 2) aNil))) [2]))))))) (sRet (vE (eC (.bool false)))) sNil)
    (sRet (vE (eUn allD (eV (vLc (iSeq (eVar 0)) (gVar 2) cYes (eBin geD (eIxV 2 (eC (.int 0))) (eC (.int 0))) [2]))))))
@[irreducible] noncomputable def m__law_are_amounts : List D → Option Sl := fnP b__law_are_amounts 3
noncomputable def b__law_amount : Fs := (sSeq (sSet 1 (eCallI m__law_any 0 (aCons (eV (vLst (aCons (eC (.int 1)) (aCons (eC (.int 1)) (aCons (eC (.int 2)) (aCons (eC (.int 3)) (aCons (eC (.int 4)) (aCons (eC (.int 10)) aNil)))))))) aNil)))
    (sRet (eCall m__law_low (aCons (eV (eCallI m__law_draw 0 (aCons (eBin addA (eBin mulD (eC (.int 3)) (eVar 1)) (eC (.int 1))) aNil))) (aCons (eVar 1) aNil)))))
@[irreducible] noncomputable def m__law_amount : List D → List D → Option (Sl × List D) := fnI b__law_amount 2
noncomputable def b_minus : Fs := (sRet (eCall m_plus (aCons (eVar 0) (aCons (eTup (aCons (eUn negD (eIxV 1 (eC (.int 0)))) (aCons (eIxV 1 (eC (.int 1))) aNil))) aNil))))
@[irreducible] noncomputable def m_minus : List D → Option Sl := fnP b_minus 2
noncomputable def l_summed_1 : Fs := (sWp [2] (sSet 1 (eCall m_plus (aCons (eVar 1) (aCons (eVar 2) aNil)))))
noncomputable def b_summed : Fs := (sSeq (sSet 1 (vE (eC k_ZERO)))
    (sSeq (sFor (iSeq (eVar 0)) (gVar 2) l_summed_1)
    (sRetV 1)))
@[irreducible] noncomputable def m_summed : List D → Option Sl := fnP b_summed 3
noncomputable def b_are_amounts : Fs := (sRet (vE (eAnd (eV (eCall m_is_sized (aCons (eVar 0) (aCons (eVar 1) (aCons (eVar 1) aNil))))) (eUn allD (eV (vLc (iSeq (eVar 0)) (gVar 2) cYes (eV (eCall m_is_amount (aCons (eVar 2) aNil))) [2]))))))
@[irreducible] noncomputable def m_are_amounts : List D → Option Sl := fnP b_are_amounts 3
noncomputable def l_made_by_1 : Fs := (sWp [3, 4, 5, 6] (sPut 2 (eVar 3) (eCall m_plus (aCons (eIxV 2 (eVar 3)) (aCons (eVar 6) aNil)))))
noncomputable def b_made_by : Fs := (sSeq (sSet 2 (vRep (vLst (aCons (eC k_ZERO) aNil)) (eIxV 0 (eC (.int 0)))))
    (sSeq (sFor (iZipU (aCons (eIxV 0 (eC (.int 1))) (aCons (eVar 1) aNil))) (gTup (gsCons (gTup (gsCons (gVar 3) (gsCons (gVar 4) (gsCons (gVar 5) gsNil))) 3) (gsCons (gVar 6) gsNil)) 2) l_made_by_1)
    (sRet (vE (eUn tupD (bVar 2))))))
@[irreducible] noncomputable def m_made_by : List D → Option Sl := fnP b_made_by 7
noncomputable def l_used_by_1 : Fs := (sWp [3, 4, 5, 6, 7, 8] (sIf (tOf (eBin neD (eVar 6) (eC k_ZERO))) (sSet 2 (vLc (iZipU (aCons (eVar 2) (aCons (eVar 4) aNil))) (gTup (gsCons (gVar 7) (gsCons (gVar 8) gsNil)) 2) cYes (eV (eCall m_plus (aCons (eVar 7) (aCons (eV (eCall m_times (aCons (eVar 6) (aCons (eVar 8) aNil)))) aNil)))) [7, 8])) sNil))
noncomputable def b_used_by : Fs := (sSeq (sSet 2 (vRep (vLst (aCons (eC k_ZERO) aNil)) (eIxV 0 (eC (.int 0)))))
    (sSeq (sFor (iZipU (aCons (eIxV 0 (eC (.int 1))) (aCons (eVar 1) aNil))) (gTup (gsCons (gTup (gsCons (gVar 3) (gsCons (gVar 4) (gsCons (gVar 5) gsNil))) 3) (gsCons (gVar 6) gsNil)) 2) l_used_by_1)
    (sRet (vE (eUn tupD (bVar 2))))))
@[irreducible] noncomputable def m_used_by : List D → Option Sl := fnP b_used_by 9
noncomputable def b__law_dot : Fs := (sRet (eCall m__law_sum (aCons (eV (vLc (iZipU (aCons (eVar 0) (aCons (eVar 1) aNil))) (gTup (gsCons (gVar 2) (gsCons (gVar 3) gsNil)) 2) cYes (eV (eCall m__law_mul (aCons (eVar 2) (aCons (eVar 3) aNil)))) [2, 3])) aNil)))
@[irreducible] noncomputable def m__law_dot : List D → Option Sl := fnP b__law_dot 4
noncomputable def l__law_is_book_1 : Fs := (sWp [1] (sSeq (sIf (tOrT (tNotT (tOf (eUn (isiD "tuple") (eVar 1)))) (tOrT (tOf (eBin neD (eUn lenD (bVar 1)) (eC (.int 3)))) (tNotT (tOf (eV (eCall m__law_is_whole (aCons (eIxV 1 (eC (.int 0))) aNil))))))) (sRet (vE (eC (.bool false)))) sNil)
    (sSeq (sIf (tOrT (tNotT (tOf (eChain leD ltD (eC (.int 0)) (eIxV 1 (eC (.int 0))) (eIxV 0 (eC (.int 0)))))) (tNotT (tOf (eV (eCall m__law_are_amounts (aCons (eIxV 1 (eC (.int 1))) (aCons (eIxV 0 (eC (.int 0))) aNil))))))) (sRet (vE (eC (.bool false)))) sNil)
    (sIf (tNotT (tOf (eV (eCall m__law_are_amounts (aCons (eTup (aCons (eIxV 1 (eC (.int 2))) aNil)) (aCons (eC (.int 1)) aNil)))))) (sRet (vE (eC (.bool false)))) sNil))))
noncomputable def b__law_is_book : Fs := (sSeq (sIf (tOrT (tNotT (tOf (eUn (isiD "tuple") (eVar 0)))) (tOrT (tOf (eBin neD (eUn lenD (bVar 0)) (eC (.int 2)))) (tOrT (tNotT (tOf (eV (eCall m__law_is_whole (aCons (eIxV 0 (eC (.int 0))) aNil))))) (tNotT (tOf (eChain leD leD (eC (.int 1)) (eIxV 0 (eC (.int 0))) (eC (.int 6)))))))) (sRet (vE (eC (.bool false)))) sNil)
    (sSeq (sIf (tOrT (tNotT (tOf (eUn (isiD "tuple") (eIxV 0 (eC (.int 1)))))) (tNotT (tOf (eChain leD leD (eC (.int 1)) (eUn lenD (eIxV 0 (eC (.int 1)))) (eC (.int 20)))))) (sRet (vE (eC (.bool false)))) sNil)
    (sSeq (sFor (iSeq (eIxV 0 (eC (.int 1)))) (gVar 1) l__law_is_book_1)
    (sRet (vE (eC (.bool true)))))))
@[irreducible] noncomputable def m__law_is_book : List D → Option Sl := fnP b__law_is_book 2
noncomputable def b__law_is_course : Fs := (sSeq (sIf (tOrT (tNotT (tOf (eUn (isiD "tuple") (eVar 1)))) (tOf (eBin neD (eUn lenD (bVar 1)) (eUn lenD (eIxV 0 (eC (.int 2))))))) (sRet (vE (eC (.bool false)))) sNil)
    (sRet (vE (eUn allD (eV (vLc (iSeq (eVar 1)) (gVar 2) cYes (eV (eCall m__law_are_amounts (aCons (eVar 2) (aCons (eUn lenD (eBin atD (eIxV 0 (eC (.int 0))) (eC (.int 1)))) aNil)))) [2]))))))
@[irreducible] noncomputable def m__law_is_course : List D → Option Sl := fnP b__law_is_course 3
noncomputable def l__law_used_1 : Fs := (sWp [3, 4, 5] (sEx (eApp 2 (eCall m__law_sum (aCons (eV (vLc (iZipU (aCons (eIxV 0 (eC (.int 1))) (aCons (eVar 1) aNil))) (gTup (gsCons (gVar 4) (gsCons (gVar 5) gsNil)) 2) cYes (eV (eCall m__law_mul (aCons (eBin atD (eIxV 4 (eC (.int 1))) (eVar 3)) (aCons (eVar 5) aNil)))) [4, 5])) aNil)))))
noncomputable def b__law_used : Fs := (sSeq (sSet 2 (vLst aNil))
    (sSeq (sFor (iRange1 (aCons (eIxV 0 (eC (.int 0))) aNil)) (gVar 3) l__law_used_1)
    (sRetV 2)))
@[irreducible] noncomputable def m__law_used : List D → Option Sl := fnP b__law_used 6
noncomputable def l__law_made_1 : Fs := (sWp [3, 4, 5] (sEx (eApp 2 (eCall m__law_sum (aCons (eV (vLc (iZipU (aCons (eIxV 0 (eC (.int 1))) (aCons (eVar 1) aNil))) (gTup (gsCons (gVar 4) (gsCons (gVar 5) gsNil)) 2) (tOf (eBin eqD (eIxV 4 (eC (.int 0))) (eVar 3))) (eVar 5) [4, 5])) aNil)))))
noncomputable def b__law_made : Fs := (sSeq (sSet 2 (vLst aNil))
    (sSeq (sFor (iRange1 (aCons (eIxV 0 (eC (.int 0))) aNil)) (gVar 3) l__law_made_1)
    (sRetV 2)))
@[irreducible] noncomputable def m__law_made : List D → Option Sl := fnP b__law_made 6
noncomputable def l__law_drawn_book_1 : Fs := (sWp [5, 6, 7, 8] (sSeq (sSet 6 (vLc (iRange1 (aCons (eVar 3) aNil)) (gVar 8) cYes (eV (eCallI m__law_any 0 (aCons (eV (vLst (aCons (eTup (aCons (eC (.int 0)) (aCons (eC (.int 1)) aNil))) (aCons (eTup (aCons (eC (.int 0)) (aCons (eC (.int 1)) aNil))) (aCons (eTup (aCons (eC (.int 1)) (aCons (eC (.int 2)) aNil))) (aCons (eTup (aCons (eC (.int 1)) (aCons (eC (.int 4)) aNil))) (aCons (eTup (aCons (eC (.int 1)) (aCons (eC (.int 1)) aNil))) (aCons (eV (eCallI m__law_amount 0 aNil)) aNil)))))))) aNil))) [8]))
    (sSeq (sSet 7 (eCallI m__law_any 0 (aCons (eV (vLst (aCons (eTup (aCons (eC (.int 0)) (aCons (eC (.int 1)) aNil))) (aCons (eTup (aCons (eC (.int 1)) (aCons (eC (.int 1)) aNil))) (aCons (eTup (aCons (eC (.int 1)) (aCons (eC (.int 2)) aNil))) (aCons (eV (eCallI m__law_amount 0 aNil)) aNil)))))) aNil)))
    (sEx (eApp 4 (vE (eTup (aCons (eV (eCallI m__law_draw 0 (aCons (eVar 3) aNil))) (aCons (eUn tupD (bVar 6)) (aCons (eVar 7) aNil))))))))))
noncomputable def b__law_drawn_book : Fs := (sSeq (sPar 3 4 (vE (eBin addA (eC (.int 1)) (eV (eCallI m__law_draw 0 (aCons (eVar 1) aNil))))) (vLst aNil))
    (sSeq (sFor (iRange1 (aCons (eBin addA (eC (.int 1)) (eV (eCallI m__law_draw 0 (aCons (eVar 2) aNil)))) aNil)) (gVar 5) l__law_drawn_book_1)
    (sRet (vE (eTup (aCons (eVar 3) (aCons (eUn tupD (bVar 4)) aNil)))))))
@[irreducible] noncomputable def m__law_drawn_book : List D → List D → Option (Sl × List D) := fnI b__law_drawn_book 9
noncomputable def b__law_other_courses : Fs := (sSeq (sPar 3 4 (eCallI m__law_draw 0 (aCons (eUn lenD (bVar 2)) aNil)) (eCallI m__law_draw 0 (aCons (eUn lenD (eIxV 2 (eC (.int 0)))) aNil)))
    (sSeq (sSet 5 (vE (eIxV 2 (eVar 3))))
    (sSeq (sSet 6 (eCallI m__law_any 0 (aCons (eV (vLst (aCons (eTup (aCons (eC (.int 0)) (aCons (eC (.int 1)) aNil))) (aCons (eV (eCall m__law_add (aCons (eIxV 5 (eVar 4)) (aCons (eTup (aCons (eC (.int 1)) (aCons (eC (.int 100)) aNil))) aNil)))) (aCons (eV (eCall m__law_mul (aCons (eIxV 5 (eVar 4)) (aCons (eTup (aCons (eC (.int 9)) (aCons (eC (.int 10)) aNil))) aNil)))) (aCons (eV (eCallI m__law_amount 0 aNil)) aNil)))))) aNil)))
    (sSeq (sSet 7 (vLst (aCons (eBin addA (eBin addA (eSlU (eVar 2) oNone (oSome (eVar 3))) (eTup (aCons (eBin addA (eBin addA (eSlU (eVar 5) oNone (oSome (eVar 4))) (eTup (aCons (eVar 6) aNil))) (eSlU (eVar 5) (oSome (eBin addA (eVar 4) (eC (.int 1)))) oNone)) aNil))) (eSlU (eVar 2) (oSome (eBin addA (eVar 3) (eC (.int 1)))) oNone)) aNil)))
    (sSeq (sEx (eApp 7 (vE (eUn tupD (eV (vLc (iSeq (eIxV 1 (eC (.int 2)))) (gVar 3) cYes (eUn tupD (eV (vLc (iSeq (eBin atD (eIxV 1 (eC (.int 0))) (eC (.int 1)))) (gVar 8) cYes (eV (eCallI m__law_amount 0 aNil)) [8]))) [3]))))))
    (sRet (vCatE (eVar 7) (eV (vLst (aCons (eUn tupD (eV (vLc (iSeq (eIxV 1 (eC (.int 2)))) (gVar 3) cYes (eBin repTD (eTup (aCons (eTup (aCons (eC (.int 0)) (aCons (eC (.int 1)) aNil))) aNil)) (eUn lenD (eBin atD (eIxV 1 (eC (.int 0))) (eC (.int 1))))) [3]))) aNil))))))))))
@[irreducible] noncomputable def m__law_other_courses : List D → List D → Option (Sl × List D) := fnI b__law_other_courses 9
noncomputable def b_is_method : Fs := (sSeq (sIf (tOrT (tNotT (tOf (eV (eCall m_is_sized (aCons (eVar 1) (aCons (eC (.int 3)) (aCons (eC (.int 3)) aNil))))))) (tNotT (tOf (eV (eCall m_is_within (aCons (eIxV 1 (eC (.int 0))) (aCons (eC (.int 0)) (aCons (eBin subD (eVar 0) (eC (.int 1))) aNil)))))))) (sRet (vE (eC (.bool false)))) sNil)
    (sRet (vE (eAnd (eV (eCall m_are_amounts (aCons (eIxV 1 (eC (.int 1))) (aCons (eVar 0) aNil)))) (eV (eCall m_is_amount (aCons (eIxV 1 (eC (.int 2))) aNil)))))))
@[irreducible] noncomputable def m_is_method : List D → Option Sl := fnP b_is_method 2
noncomputable def b_is_plan_of : Fs := (sRet (eCall m_are_amounts (aCons (eVar 1) (aCons (eUn lenD (eIxV 0 (eC (.int 1)))) aNil))))
@[irreducible] noncomputable def m_is_plan_of : List D → Option Sl := fnP b_is_plan_of 2
noncomputable def b_work_in : Fs := (sRet (eCall m_summed (aCons (eV (vLc (iZipU (aCons (eIxV 0 (eC (.int 1))) (aCons (eVar 1) aNil))) (gTup (gsCons (gVar 2) (gsCons (gVar 3) gsNil)) 2) cYes (eV (eCall m_times (aCons (eVar 3) (aCons (eIxV 2 (eC (.int 2))) aNil)))) [2, 3])) aNil)))
@[irreducible] noncomputable def m_work_in : List D → Option Sl := fnP b_work_in 4
noncomputable def b__law_is_years : Fs := (sSeq (sIf (tOrT (tNotT (tOf (eUn (isiD "tuple") (eVar 0)))) (tOrT (tOf (eBin neD (eUn lenD (bVar 0)) (eC (.int 4)))) (tNotT (tOf (eV (eCall m__law_is_book (aCons (eIxV 0 (eC (.int 0))) aNil))))))) (sRet (vE (eC (.bool false)))) sNil)
    (sSeq (sPar 1 2 (vE (eBin atD (eIxV 0 (eC (.int 0))) (eC (.int 0)))) (vE (eIf (tOf (eUn (isiD "tuple") (eIxV 0 (eC (.int 2))))) (eUn lenD (eIxV 0 (eC (.int 2)))) (eC (.int 0)))))
    (sSeq (sIf (tOrT (tNotT (tOf (eV (eCall m__law_are_amounts (aCons (eIxV 0 (eC (.int 1))) (aCons (eVar 1) aNil)))))) (tOrT (tNotT (tOf (eChain leD leD (eC (.int 1)) (eVar 2) (eC (.int 6))))) (tNotT (tOf (eV (eCall m__law_are_amounts (aCons (eIxV 0 (eC (.int 2))) (aCons (eVar 2) aNil)))))))) (sRet (vE (eC (.bool false)))) sNil)
    (sSeq (sIf (tOrT (tNotT (tOf (eUn (isiD "tuple") (eIxV 0 (eC (.int 3)))))) (tOf (eBin neD (eUn lenD (eIxV 0 (eC (.int 3)))) (eVar 2)))) (sRet (vE (eC (.bool false)))) sNil)
    (sRet (vE (eUn allD (eV (vLc (iSeq (eIxV 0 (eC (.int 3)))) (gVar 3) cYes (eV (eCall m__law_are_amounts (aCons (eVar 3) (aCons (eVar 1) aNil)))) [3])))))))))
@[irreducible] noncomputable def m__law_is_years : List D → Option Sl := fnP b__law_is_years 4
noncomputable def l__law_led_1 : Fs := (sWp [7, 8, 9, 10, 11, 12, 13, 14, 15, 16, 17, 18] (sSeq (sAsg (eTup (aCons (eIxV 6 (eUn negD (eC (.int 1)))) (aCons (eV (eCall m__law_used (aCons (eVar 2) (aCons (eVar 8) aNil)))) (aCons (eV (eCall m__law_made (aCons (eVar 2) (aCons (eVar 8) aNil)))) aNil)))) (gTup (gsCons (gVar 9) (gsCons (gVar 10) (gsCons (gVar 11) gsNil))) 3))
    (sSeq (sIf (tOf (eV (eCall m__law_less (aCons (eIxV 4 (eVar 7)) (aCons (eV (eCall m__law_dot (aCons (eV (vLc (iSeq (eIxV 2 (eC (.int 1)))) (gVar 18) cYes (eIxV 18 (eC (.int 2))) [18])) (aCons (eVar 8) aNil)))) aNil))))) (sRet (vE (eTup (aCons (eC (.str (Str.ofString "hands"))) (aCons (eVar 7) aNil))))) sNil)
    (sSeq (sSet 12 (vLc (iRange1 (aCons (eIxV 2 (eC (.int 0))) aNil)) (gVar 14) (tOf (eV (eCall m__law_less (aCons (eIxV 9 (eVar 14)) (aCons (eIxV 10 (eVar 14)) aNil))))) (eVar 14) [14]))
    (sSeq (sIf (tOf (eBin gtD (eUn lenD (bVar 12)) (eC (.int 0)))) (sRet (vE (eTup (aCons (eC (.str (Str.ofString "used"))) (aCons (eVar 7) (aCons (eIxV 12 (eC (.int 0))) aNil)))))) sNil)
    (sSeq (sSet 13 (vLc (iZipU3 (aCons (eVar 9) (aCons (eVar 10) (aCons (eVar 11) aNil)))) (gTup (gsCons (gVar 15) (gsCons (gVar 16) (gsCons (gVar 17) gsNil))) 3) cYes (eV (eCall m__law_add (aCons (eV (eCall m__law_sub (aCons (eVar 15) (aCons (eVar 16) aNil)))) (aCons (eVar 17) aNil)))) [15, 16, 17]))
    (sSeq (sSet 12 (vLc (iRange1 (aCons (eIxV 2 (eC (.int 0))) aNil)) (gVar 14) (tOf (eV (eCall m__law_less (aCons (eIxV 13 (eVar 14)) (aCons (eBin atD (eIxV 5 (eVar 7)) (eVar 14)) aNil))))) (eVar 14) [14]))
    (sSeq (sIf (tOf (eBin gtD (eUn lenD (bVar 12)) (eC (.int 0)))) (sRet (vE (eTup (aCons (eC (.str (Str.ofString "taken"))) (aCons (eVar 7) (aCons (eIxV 12 (eC (.int 0))) aNil)))))) sNil)
    (sEx (eApp 6 (vE (eUn tupD (eV (vLc (iZipU (aCons (eVar 13) (aCons (eIxV 5 (eVar 7)) aNil))) (gTup (gsCons (gVar 15) (gsCons (gVar 16) gsNil)) 2) cYes (eV (eCall m__law_sub (aCons (eVar 15) (aCons (eVar 16) aNil)))) [15, 16]))))))))))))))
noncomputable def b__law_led : Fs := (sSeq (sAsg (eVar 0) (gTup (gsCons (gVar 2) (gsCons (gVar 3) (gsCons (gVar 4) (gsCons (gVar 5) gsNil)))) 4))
    (sSeq (sSet 6 (vLst (aCons (eVar 3) aNil)))
    (sSeq (sFor (iEnum' (aCons (eVar 1) aNil)) (gTup (gsCons (gVar 7) (gsCons (gVar 8) gsNil)) 2) l__law_led_1)
    (sRetV 6))))
@[irreducible] noncomputable def m__law_led : List D → Option Sl := fnP b__law_led 19
noncomputable def l__law_fitted_1 : Fs := (sWp [6, 7, 15] (sSeq (sEx (eApp 3 (vE (eUn tupD (eV (vLc (iSeq (eIxV 1 (eC (.int 1)))) (gVar 15) cYes (eV (eCallI m__law_any 0 (aCons (eV (vLst (aCons (eTup (aCons (eC (.int 0)) (aCons (eC (.int 1)) aNil))) (aCons (eV (eCallI m__law_amount 0 aNil)) aNil)))) aNil))) [15]))))))
    (sSeq (sEx (eApp 4 (eCall m__law_dot (aCons (eV (vLc (iSeq (eIxV 1 (eC (.int 1)))) (gVar 15) cYes (eIxV 15 (eC (.int 2))) [15])) (aCons (eIxV 3 (eUn negD (eC (.int 1)))) aNil)))))
    (sEx (eApp 5 (vE (eUn tupD (eV (vLc (iRange1 (aCons (eIxV 1 (eC (.int 0))) aNil)) (gVar 7) cYes (eV (eCallI m__law_any 0 (aCons (eV (vLst (aCons (eTup (aCons (eC (.int 0)) (aCons (eC (.int 1)) aNil))) (aCons (eV (eCallI m__law_amount 0 aNil)) aNil)))) aNil))) [7])))))))))
noncomputable def l__law_fitted_2 : Fs := (sWp [7, 12, 13] (sSeq (sPut 9 (eVar 7) (eCall m__law_sub (aCons (eIxV 9 (eVar 7)) (aCons (eVar 12) aNil))))
    (sSeq (sPut 8 (eVar 7) (vE (eIf (tOf (eV (eCall m__law_less (aCons (eIxV 9 (eVar 7)) (aCons (eIxV 8 (eVar 7)) aNil))))) (eIxV 9 (eVar 7)) (eIxV 8 (eVar 7)))))
    (sSeq (sPut 9 (eVar 7) (eCall m__law_sub (aCons (eV (eCall m__law_add (aCons (eIxV 9 (eVar 7)) (aCons (eVar 13) aNil)))) (aCons (eIxV 11 (eVar 7)) aNil))))
    (sPut 8 (eVar 7) (vE (eIf (tOf (eV (eCall m__law_less (aCons (eIxV 9 (eVar 7)) (aCons (eIxV 8 (eVar 7)) aNil))))) (eIxV 9 (eVar 7)) (eIxV 8 (eVar 7)))))))))
noncomputable def l__law_fitted_3 : Fs := (sWp [7, 10, 11, 12, 13] (sFor (iEnumZip (aCons (eV (eCall m__law_used (aCons (eVar 1) (aCons (eVar 10) aNil)))) (aCons (eV (eCall m__law_made (aCons (eVar 1) (aCons (eVar 10) aNil)))) aNil))) (gTup (gsCons (gVar 7) (gsCons (gTup (gsCons (gVar 12) (gsCons (gVar 13) gsNil)) 2) gsNil)) 2) l__law_fitted_2))
noncomputable def b__law_fitted : Fs := (sSeq (sPar 1 2 (eCallI m__law_drawn_book 0 (aCons (eC (.int 3)) (aCons (eC (.int 4)) aNil))) (vE (eBin addA (eC (.int 1)) (eV (eCallI m__law_draw 0 (aCons (eC (.int 3)) aNil))))))
    (sSeq (sParN [3, 4, 5] (avCons (vLst aNil) (avCons (vLst aNil) (avCons (vLst aNil) avNil))))
    (sSeq (sFor (iRange1 (aCons (eVar 2) aNil)) (gVar 6) l__law_fitted_1)
    (sSeq (sPar 8 9 (vRep (vLst (aCons (eTup (aCons (eC (.int 0)) (aCons (eC (.int 1)) aNil))) aNil)) (eIxV 1 (eC (.int 0)))) (vRep (vLst (aCons (eTup (aCons (eC (.int 0)) (aCons (eC (.int 1)) aNil))) aNil)) (eIxV 1 (eC (.int 0)))))
    (sSeq (sFor (iZipU (aCons (eVar 3) (aCons (eVar 5) aNil))) (gTup (gsCons (gVar 10) (gsCons (gVar 11) gsNil)) 2) l__law_fitted_3)
    (sSeq (sSet 8 (vE (eUn tupD (eV (vLcN 8 (gVar 14) cYes (eTup (aCons (eBin subD (eC (.int 0)) (eIxV 14 (eC (.int 0)))) (aCons (eIxV 14 (eC (.int 1))) aNil))) [14])))))
    (sRet (vE (eTup (aCons (eTup (aCons (eVar 1) (aCons (eVar 8) (aCons (eUn tupD (bVar 4)) (aCons (eUn tupD (bVar 5)) aNil))))) (aCons (eUn tupD (bVar 3)) aNil)))))))))))
@[irreducible] noncomputable def m__law_fitted : List D → List D → Option (Sl × List D) := fnI b__law_fitted 16
noncomputable def b_is_book : Fs := (sSeq (sIf (tOrT (tNotT (tOf (eV (eCall m_is_sized (aCons (eVar 0) (aCons (eC (.int 2)) (aCons (eC (.int 2)) aNil))))))) (tNotT (tOf (eV (eCall m_is_within (aCons (eIxV 0 (eC (.int 0))) (aCons (eC (.int 1)) (aCons (eC k_MOST_GOODS) aNil)))))))) (sRet (vE (eC (.bool false)))) sNil)
    (sRet (vE (eAnd (eV (eCall m_is_sized (aCons (eIxV 0 (eC (.int 1))) (aCons (eC (.int 1)) (aCons (eC k_MOST_METHODS) aNil))))) (eUn allD (eV (vLc (iSeq (eIxV 0 (eC (.int 1)))) (gVar 1) cYes (eV (eCall m_is_method (aCons (eIxV 0 (eC (.int 0))) (aCons (eVar 1) aNil)))) [1])))))))
@[irreducible] noncomputable def m_is_book : List D → Option Sl := fnP b_is_book 2
noncomputable def b_is_course : Fs := (sSeq (sSet 2 (vE (eUn lenD (eIxV 0 (eC (.int 2))))))
    (sRet (vE (eAnd (eV (eCall m_is_sized (aCons (eVar 1) (aCons (eVar 2) (aCons (eVar 2) aNil))))) (eUn allD (eV (vLc (iSeq (eVar 1)) (gVar 3) cYes (eV (eCall m_is_plan_of (aCons (eIxV 0 (eC (.int 0))) (aCons (eVar 3) aNil)))) [3])))))))
@[irreducible] noncomputable def m_is_course : List D → Option Sl := fnP b_is_course 4
noncomputable def l_raw_led_1 : Fs := (sWp [5, 6, 7, 8, 9, 10, 11, 12, 13, 14] (sSeq (sIf (tOf (eV (eCall m_is_less (aCons (eBin atD (eIxV 0 (eC (.int 2))) (eVar 5)) (aCons (eV (eCall m_work_in (aCons (eVar 2) (aCons (eVar 6) aNil)))) aNil))))) (sRet (vE (eTup (aCons (eC (.str (Str.ofString "hands"))) (aCons (eVar 5) aNil))))) sNil)
    (sSeq (sSet 7 (vLc (iZipU (aCons (eVar 3) (aCons (eV (eCall m_used_by (aCons (eVar 2) (aCons (eVar 6) aNil)))) aNil))) (gTup (gsCons (gVar 9) (gsCons (gVar 10) gsNil)) 2) cYes (eV (eCall m_minus (aCons (eVar 9) (aCons (eVar 10) aNil)))) [9, 10]))
    (sSeq (sSet 8 (vLc (iEnum' (aCons (eVar 7) aNil)) (gTup (gsCons (gVar 11) (gsCons (gVar 12) gsNil)) 2) (tOf (eBin ltD (eIxV 12 (eC (.int 0))) (eC (.int 0)))) (eVar 11) [11, 12]))
    (sSeq (sIf (tOf (bVar 8)) (sRet (vE (eTup (aCons (eC (.str (Str.ofString "used"))) (aCons (eVar 5) (aCons (eIxV 8 (eC (.int 0))) aNil)))))) sNil)
    (sSeq (sSet 3 (vLc (iZipU3 (aCons (eVar 7) (aCons (eV (eCall m_made_by (aCons (eVar 2) (aCons (eVar 6) aNil)))) (aCons (eBin atD (eIxV 0 (eC (.int 3))) (eVar 5)) aNil)))) (gTup (gsCons (gVar 9) (gsCons (gVar 13) (gsCons (gVar 14) gsNil))) 3) cYes (eV (eCall m_minus (aCons (eV (eCall m_plus (aCons (eVar 9) (aCons (eVar 13) aNil)))) (aCons (eVar 14) aNil)))) [9, 13, 14]))
    (sSeq (sSet 8 (vLc (iEnum' (aCons (eVar 3) aNil)) (gTup (gsCons (gVar 11) (gsCons (gVar 12) gsNil)) 2) (tOf (eBin ltD (eIxV 12 (eC (.int 0))) (eC (.int 0)))) (eVar 11) [11, 12]))
    (sSeq (sIf (tOf (bVar 8)) (sRet (vE (eTup (aCons (eC (.str (Str.ofString "taken"))) (aCons (eVar 5) (aCons (eIxV 8 (eC (.int 0))) aNil)))))) sNil)
    (sEx (eApp 4 (vE (eUn tupD (bVar 3)))))))))))))
noncomputable def b_raw_led : Fs := (sSeq (sParN [2, 3, 4] (avCons (vE (eIxV 0 (eC (.int 0)))) (avCons (vE (eIxV 0 (eC (.int 1)))) (avCons (vLst (aCons (eIxV 0 (eC (.int 1))) aNil)) avNil))))
    (sSeq (sFor (iEnum' (aCons (eVar 1) aNil)) (gTup (gsCons (gVar 5) (gsCons (gVar 6) gsNil)) 2) l_raw_led_1)
    (sRetV 4)))
@[irreducible] noncomputable def m_raw_led : List D → Option Sl := fnP b_raw_led 15
noncomputable def b__law_drawn_years : Fs := (sSeq (sSet 1 (vE (eBin atD (eV (eCallI m__law_fitted 0 aNil)) (eC (.int 0)))))
    (sSeq (sAsg (eVar 1) (gTup (gsCons (gVar 2) (gsCons (gVar 3) (gsCons (gVar 4) (gsCons (gVar 5) gsNil)))) 4))
    (sSeq (sSet 6 (eCallI m__law_draw 0 (aCons (eC (.int 4)) aNil)))
    (sSeq (sIf (tOf (eBin eqD (eVar 6) (eC (.int 0)))) (sSet 4 (vE (eUn tupD (eV (vLc (iSeq (eVar 4)) (gVar 7) cYes (eV (eCall m__law_mul (aCons (eVar 7) (aCons (eV (eCallI m__law_any 0 (aCons (eV (vLst (aCons (eTup (aCons (eC (.int 0)) (aCons (eC (.int 1)) aNil))) (aCons (eTup (aCons (eC (.int 1)) (aCons (eC (.int 2)) aNil))) (aCons (eTup (aCons (eC (.int 1)) (aCons (eC (.int 1)) aNil))) aNil))))) aNil))) aNil)))) [7]))))) (sIf (tOf (eBin eqD (eVar 6) (eC (.int 1)))) (sSet 3 (vE (eUn tupD (eV (vLc (iSeq (eVar 3)) (gVar 7) cYes (eV (eCall m__law_mul (aCons (eVar 7) (aCons (eV (eCallI m__law_any 0 (aCons (eV (vLst (aCons (eTup (aCons (eC (.int 0)) (aCons (eC (.int 1)) aNil))) (aCons (eTup (aCons (eC (.int 1)) (aCons (eC (.int 2)) aNil))) (aCons (eTup (aCons (eC (.int 1)) (aCons (eC (.int 1)) aNil))) aNil))))) aNil))) aNil)))) [7]))))) (sIf (tOf (eBin eqD (eVar 6) (eC (.int 2)))) (sSet 5 (vE (eUn tupD (eV (vLc (iSeq (eVar 5)) (gVar 8) cYes (eUn tupD (eV (vLc (iSeq (eVar 8)) (gVar 7) cYes (eV (eCall m__law_mul (aCons (eVar 7) (aCons (eV (eCallI m__law_any 0 (aCons (eV (vLst (aCons (eTup (aCons (eC (.int 1)) (aCons (eC (.int 1)) aNil))) (aCons (eTup (aCons (eC (.int 3)) (aCons (eC (.int 2)) aNil))) aNil)))) aNil))) aNil)))) [7]))) [8]))))) sNil)))
    (sRet (vE (eTup (aCons (eVar 2) (aCons (eVar 3) (aCons (eVar 4) (aCons (eVar 5) aNil)))))))))))
@[irreducible] noncomputable def m__law_drawn_years : List D → List D → Option (Sl × List D) := fnI b__law_drawn_years 9
noncomputable def b_is_years : Fs := (sSeq (sIf (tOrT (tNotT (tOf (eV (eCall m_is_sized (aCons (eVar 0) (aCons (eC (.int 4)) (aCons (eC (.int 4)) aNil))))))) (tOrT (tNotT (tOf (eV (eCall m_is_book (aCons (eIxV 0 (eC (.int 0))) aNil))))) (tNotT (tOf (eV (eCall m_are_amounts (aCons (eIxV 0 (eC (.int 1))) (aCons (eBin atD (eIxV 0 (eC (.int 0))) (eC (.int 0))) aNil)))))))) (sRet (vE (eC (.bool false)))) sNil)
    (sSeq (sIf (tOrT (tNotT (tOf (eV (eCall m_is_sized (aCons (eIxV 0 (eC (.int 2))) (aCons (eC (.int 1)) (aCons (eC k_MOST_YEARS) aNil))))))) (tNotT (tOf (eV (eCall m_are_amounts (aCons (eIxV 0 (eC (.int 2))) (aCons (eUn lenD (eIxV 0 (eC (.int 2)))) aNil))))))) (sRet (vE (eC (.bool false)))) sNil)
    (sSeq (sSet 1 (vE (eUn lenD (eIxV 0 (eC (.int 2))))))
    (sRet (vE (eAnd (eV (eCall m_is_sized (aCons (eIxV 0 (eC (.int 3))) (aCons (eVar 1) (aCons (eVar 1) aNil))))) (eUn allD (eV (vLc (iSeq (eIxV 0 (eC (.int 3)))) (gVar 2) cYes (eV (eCall m_are_amounts (aCons (eVar 2) (aCons (eBin atD (eIxV 0 (eC (.int 0))) (eC (.int 0))) aNil)))) [2])))))))))
@[irreducible] noncomputable def m_is_years : List D → Option Sl := fnP b_is_years 3
noncomputable def xb_check_years : Fx := (xIf (tNotT (tOf (eV (eCall m_is_years (aCons (eVar 0) aNil))))) (xRaise "NoYears") xNo)
noncomputable def x_check_years : List D → Option Str := fnX xb_check_years 1
noncomputable def b_check_years : Fs := (sIf (tNotT (tOf (eV (eCall m_is_years (aCons (eVar 0) aNil))))) sNo sNil)
@[irreducible] noncomputable def m_check_years : List D → Option Sl := fnP b_check_years 1
noncomputable def xb_course_led : Fx := (xSeq (sEx (eV (eCall m_check_years (aCons (eVar 0) aNil)))) (xCall x_check_years (aCons (eVar 0) aNil))
    (xSeq (sIf (tNotT (tOf (eV (eCall m_is_course (aCons (eVar 0) (aCons (eVar 1) aNil)))))) sNo sNil) (xIf (tNotT (tOf (eV (eCall m_is_course (aCons (eVar 0) (aCons (eVar 1) aNil)))))) (xRaise "NoCourse") xNo)
    xNo))
noncomputable def x_course_led : List D → Option Str := fnX xb_course_led 2
noncomputable def b_course_led : Fs := (sSeq (sEx (eV (eCall m_check_years (aCons (eVar 0) aNil))))
    (sSeq (sIf (tNotT (tOf (eV (eCall m_is_course (aCons (eVar 0) (aCons (eVar 1) aNil)))))) sNo sNil)
    (sRet (eCall m_raw_led (aCons (eVar 0) (aCons (eVar 1) aNil))))))
@[irreducible] noncomputable def m_course_led : List D → Option Sl := fnP b_course_led 2
noncomputable def hs__law_word_1 : List (Str × (Addr → Fs)) := [("NoCourse", fun ea => (sSeq (sSet 4 (vLst (aCons (eIsE 3 ea false) (aCons (eIsE 3 ea true) aNil))))
    (sSeq (sSet 2 (vE (eC (.str (Str.ofString "other")))))
    (sIf (tAndT (tOf (eBin eqD (eBin cntBD (eVar 4) (eC (.bool true))) (eC (.int 1)))) (tOf (eIsE 3 ea true))) (sSet 2 (vE (eBin atD (eV (vLst (aCons (eC (.str (Str.ofString "years"))) (aCons (eC (.str (Str.ofString "course"))) aNil)))) (eBin idxBD (eVar 4) (eC (.bool true)))))) sNil)))),
      ("NoYears", fun ea => (sSeq (sSet 4 (vLst (aCons (eIsE 3 ea true) (aCons (eIsE 3 ea false) aNil))))
    (sSeq (sSet 2 (vE (eC (.str (Str.ofString "other")))))
    (sIf (tAndT (tOf (eBin eqD (eBin cntBD (eVar 4) (eC (.bool true))) (eC (.int 1)))) (tOf (eIsE 3 ea true))) (sSet 2 (vE (eBin atD (eV (vLst (aCons (eC (.str (Str.ofString "years"))) (aCons (eC (.str (Str.ofString "course"))) aNil)))) (eBin idxBD (eVar 4) (eC (.bool true)))))) sNil))))]
noncomputable def b__law_word : Fs := (sSeq (sSet 2 (vE (eC (.str (Str.ofString "let")))))
    (sSeq (sTry 3 ["NoCourse", "NoYears"] (sEx (eV (eCall m_course_led (aCons (eVar 0) (aCons (eVar 1) aNil))))) (xCall x_course_led (aCons (eVar 0) (aCons (eVar 1) aNil))) (exCase hs__law_word_1))
    (sRetV 2)))
@[irreducible] noncomputable def m__law_word : List D → Option Sl := fnP b__law_word 5
noncomputable def b__law_bent (me : List D → List D → Option (Sl × List D)) : Fs := (sSeq (sIf (tAndT (tOf (eUn (isiD "tuple") (eVar 1))) (tAndT (tOf (eBin gtD (eUn lenD (bVar 1)) (eC (.int 0)))) (tAndT (tOf (eBin gtD (eVar 2) (eC (.int 0)))) (tOf (eBin gtD (eV (eCallI m__law_draw 0 (aCons (eC (.int 6)) aNil))) (eC (.int 0))))))) (sSeq (sSet 3 (eCallI m__law_draw 0 (aCons (eUn lenD (bVar 1)) aNil)))
    (sRet (vE (eBin addA (eBin addA (eSlU (eVar 1) oNone (oSome (eVar 3))) (eTup (aCons (eV (eCallI me 0 (aCons (eIxV 1 (eVar 3)) (aCons (eBin subD (eVar 2) (eC (.int 1))) aNil)))) aNil))) (eSlU (eVar 1) (oSome (eBin addA (eVar 3) (eC (.int 1)))) oNone))))) sNil)
    (sSeq (sIf (tAndT (tOf (eUn (isiD "tuple") (eVar 1))) (tOf (eBin eqD (eV (eCallI m__law_draw 0 (aCons (eC (.int 2)) aNil))) (eC (.int 0))))) (sSeq (sSet 3 (eCallI m__law_draw 0 (aCons (eBin addA (eUn lenD (bVar 1)) (eC (.int 1))) aNil)))
    (sSeq (sSet 4 (vLst (aCons (eV (v1 seqD (bVar 1))) (aCons (eBin addA (eSlU (eVar 1) oNone (oSome (eVar 3))) (eSlU (eVar 1) (oSome (eBin addA (eVar 3) (eC (.int 1)))) oNone)) (aCons (eBin addA (eVar 1) (eSlU (eVar 1) oNone (oSome (eC (.int 1))))) (aCons (eBin repTD (eVar 1) (eC (.int 7))) (aCons (eTup aNil) (aCons (eUn revD (eVar 1)) aNil))))))))
    (sRet (eCallI m__law_any 0 (aCons (eVar 4) aNil))))) sNil)
    (sSeq (sIf (tOf (eV (eCall m__law_is_whole (aCons (eVar 1) aNil)))) (sRet (eCallI m__law_any 0 (aCons (eV (vLst (aCons (eBin addA (eVar 1) (eC (.int 1))) (aCons (eBin subD (eVar 1) (eC (.int 1))) (aCons (eBin subD (eC (.int 0)) (eVar 1)) (aCons (eBin mulD (eC (.int 2)) (eVar 1)) (aCons (eUn boolD (bVar 1)) (aCons (eUn strD (bVar 1)) (aCons (eC (.int 0)) (aCons (eTup (aCons (eVar 1) (aCons (eC (.int 1)) aNil))) aNil)))))))))) aNil))) sNil)
    (sRet (eCallI m__law_any 0 (aCons (eV (vLst (aCons (eC .none) (aCons (eTup aNil) (aCons (eTup (aCons (eC (.int 0)) (aCons (eC (.int 1)) aNil))) (aCons (eTup (aCons (eC (.int 1)) (aCons (eC (.int 0)) aNil))) (aCons (eTup (aCons (eC (.int 2)) (aCons (eC (.int 4)) aNil))) (aCons (eTup (aCons (eUn negD (eC (.int 1))) (aCons (eC (.int 2)) aNil))) (aCons (eC (.str (Str.ofString "0"))) (aCons (eC (.dict [])) (aCons (eC (.int 0)) (aCons (eC (.bool true)) (aCons (eV (vLst (aCons (eV (vLst (aCons (eV (vLst (aCons (eV (vLst aNil)) aNil))) aNil))) aNil))) aNil))))))))))))) aNil))))))
noncomputable def mr__law_bent : Nat → List D → List D → Option (Sl × List D)
  | 0 => fun _ _ => none
  | n + 1 => fnI (b__law_bent (mr__law_bent n)) 5
@[irreducible] noncomputable def m__law_bent : List D → List D → Option (Sl × List D) := mr__law_bent 8
noncomputable def b__law_is_led : Fs := (sSeq (sPar 2 3 (vE (eUn reprD (eTup (aCons (eVar 0) (aCons (eVar 1) aNil))))) (eCall m__law_led (aCons (eVar 0) (aCons (eVar 1) aNil))))
    (sRet (vE (eAnd (eBin eqD (eUn reprD (eV (eCall m_course_led (aCons (eVar 0) (aCons (eVar 1) aNil))))) (eUn reprD (bVar 3))) (eBin eqD (eUn reprD (eTup (aCons (eVar 0) (aCons (eVar 1) aNil)))) (eVar 2))))))
@[irreducible] noncomputable def m__law_is_led : List D → Option Sl := fnP b__law_is_led 4
noncomputable def l_law_1 : Fs := (sWp [6] (sIf (tNotT (tOf (eV (eCall m__law_is_led (aCons (eVar 3) (aCons (eVar 6) aNil)))))) (sRet (vE (eC (.bool false)))) sNil))
noncomputable def l_law_2 : Fs := (sWp [6] (sIf (tNotT (tOf (eV (eCall m__law_is_led (aCons (eVar 5) (aCons (eVar 6) aNil)))))) (sRet (vE (eC (.bool false)))) sNil))
noncomputable def l_law_3 : Fs := (sWp [7, 8, 9, 10] (sSeq (sPar 8 9 (eCallI m__law_bent 1 (aCons (eVar 3) (aCons (eC (.int 5)) aNil))) (eCallI m__law_bent 1 (aCons (eVar 4) (aCons (eC (.int 3)) aNil))))
    (sSeq (sIf (tOf (eBin neD (eUn reprD (eV (eCall m_is_years (aCons (eVar 8) aNil)))) (eUn reprD (eV (eCall m__law_is_years (aCons (eVar 8) aNil)))))) (sRet (vE (eC (.bool false)))) sNil)
    (sSeq (sSet 10 (vE (eIf (tNotT (tOf (eV (eCall m__law_is_years (aCons (eVar 8) aNil))))) (eC (.str (Str.ofString "years"))) (eIf (tOf (eV (eCall m__law_is_course (aCons (eVar 8) (aCons (eVar 9) aNil))))) (eC (.str (Str.ofString "let"))) (eC (.str (Str.ofString "course")))))))
    (sSeq (sIf (tOf (eBin neD (eV (eCall m__law_word (aCons (eVar 8) (aCons (eVar 9) aNil)))) (eVar 10))) (sRet (vE (eC (.bool false)))) sNil)
    (sIf (tOf (eBin neD (eV (eCall m__law_word (aCons (eVar 3) (aCons (eVar 9) aNil)))) (eIf (tOf (eV (eCall m__law_is_course (aCons (eVar 3) (aCons (eVar 9) aNil))))) (eC (.str (Str.ofString "let"))) (eC (.str (Str.ofString "course")))))) (sRet (vE (eC (.bool false)))) sNil))))))
noncomputable def l_law_4 : Fs := (sWp [2, 3, 4, 5, 6, 7, 8, 9, 10, 11] (sSeq (sAsg (eV (eCallI m__law_fitted 1 aNil)) (gTup (gsCons (gVar 3) (gsCons (gVar 4) gsNil)) 2))
    (sSeq (sIf (tOrT (tOf (eBin notBD (eV (eCall m_is_years (aCons (eVar 3) aNil))) (eC (.bool true)))) (tNotT (tOf (eUn (isiD "list") (eV (eCall m_course_led (aCons (eVar 3) (aCons (eVar 4) aNil)))))))) (sRet (vE (eC (.bool false)))) sNil)
    (sSeq (sSet 5 (eCallI m__law_drawn_years 1 aNil))
    (sSeq (sFor (iSeq (eV (vCatE (eV (vLst (aCons (eVar 4) aNil))) (eV (eCallI m__law_other_courses 1 (aCons (eVar 3) (aCons (eVar 4) aNil))))))) (gVar 6) l_law_1)
    (sSeq (sFor (iSeq (eV (eCallI m__law_other_courses 1 (aCons (eVar 5) (aCons (eUn tupD (eV (vLc (iSeq (eIxV 5 (eC (.int 2)))) (gVar 11) cYes (eBin repTD (eTup (aCons (eTup (aCons (eC (.int 1)) (aCons (eC (.int 1)) aNil))) aNil)) (eUn lenD (eBin atD (eIxV 5 (eC (.int 0))) (eC (.int 1))))) [11]))) aNil))))) (gVar 6) l_law_2)
    (sFor (iRange1 (aCons (eC (.int 5)) aNil)) (gVar 7) l_law_3)))))))
noncomputable def b_law : Fs := (sSeq (sSet 1 (eCall m__law_hand (aCons (eVar 0) aNil)))
    (sSeq (sFor (iRange1 (aCons (eC (.int 4)) aNil)) (gVar 2) l_law_4)
    (sRet (vE (eC (.bool true))))))
@[irreducible] noncomputable def m_law : List D → Option Sl := fnP b_law 12
end K80
set_option Elab.async false
set_option linter.all false
set_option maxRecDepth 100000
set_option maxHeartbeats 4000000
namespace K80
open PySem PySem.Spec PyProof.Rows L2 Dl
section
variable {P : Program} {w : World} {K : PySem.W.Frag} {mg : Str → Option Value} {base : Heap}
theorem ok_is_integer (T : Txt K mg) : FnG P w K mg base 1 T.f_is_integer.f T.f_is_integer.fd ["thing"] (spP K 1 m_is_integer) := by
  unfold m_is_integer
  refine fnP_ok (b := b_is_integer) (N := ["thing"]) (n := 1) T.f_is_integer.F sc_is_integer rfl ?_
  intro cd A outer st H room gd
  unfold b_is_integer
  exact (dss_one (ds_ret (dv_de (de_and (de_isi (n := "int") rfl T.n_isinstance rfl T.n_int (by decide +kernel) (de_var 0)) (de_one (de_not (db_de (de_isi (n := "bool") rfl T.n_isinstance rfl T.n_bool (by decide +kernel) (de_var 0)))))))))
theorem ok_is_sized (T : Txt K mg) : FnG P w K mg base 1 T.f_is_sized.f T.f_is_sized.fd ["thing", "low", "high"] (spP K 3 m_is_sized) := by
  unfold m_is_sized
  refine fnP_ok (b := b_is_sized) (N := ["thing", "low", "high"]) (n := 3) T.f_is_sized.F sc_is_sized rfl ?_
  intro cd A outer st H room gd
  unfold b_is_sized
  exact (dss_one (ds_ret (dv_de (de_and (de_isi (n := "tuple") rfl T.n_isinstance rfl T.n_tuple (by decide +kernel) (de_var 0)) (de_one (de_chain op_le op_le ok_cmp ok_cmp (de_var 1) (de_len rfl T.n_len (db_var 0)) (de_var 2)))))))
theorem ok_common (T : Txt K mg) : FnG P w K mg base 1 T.f_common.f T.f_common.fd ["one", "other"] (spP K 2 m_common) := by
  unfold m_common
  refine fnP_ok (b := b_common) (N := ["one", "other"]) (n := 2) T.f_common.F sc_common rfl ?_
  intro cd A outer st H room gd
  unfold b_common
  exact (dss_cons (ds_while PassesOwn.never (dt_ne (hu64 room) (de_var 1) de_int) (dss_one (ds_par 0 1 rfl sc_common.nd (dv_de (de_var 1)) (dv_de (de_mod (de_var 0) (de_var 1))))))
    (dss_one (ds_ret (dv_de (de_abs rfl T.n_abs (db_var 0))))))
theorem ok_is_less (T : Txt K mg) : FnG P w K mg base 1 T.f_is_less.f T.f_is_less.fd ["one", "other"] (spP K 2 m_is_less) := by
  unfold m_is_less
  refine fnP_ok (b := b_is_less) (N := ["one", "other"]) (n := 2) T.f_is_less.F sc_is_less rfl ?_
  intro cd A outer st H room gd
  unfold b_is_less
  exact (dss_one (ds_ret (dv_de (de_lt (de_mul (de_ixV 0 de_int) (de_ixV 1 de_int)) (de_mul (de_ixV 1 de_int) (de_ixV 0 de_int))))))
theorem ok__law_hand (T : Txt K mg) : FnG P w K mg base 1 T.f__law_hand.f T.f__law_hand.fd ["script"] (spP K 1 m__law_hand) := by
  unfold m__law_hand
  refine fnP_ok (b := b__law_hand) (N := ["script", "cells", "cell"]) (n := 1) T.f__law_hand.F sc__law_hand rfl ?_
  intro cd A outer st H room gd
  unfold b__law_hand
  exact (dss_cons (ds_setLc 1 [("cell", 2)] rfl sc__law_hand.nd (di_seq (de_sl (de_var 0) do_none (do_some de_int))) rfl (fun _ _ _ _ _ => (dg_name 2 sc__law_hand.nd)) (fun _ _ _ _ _ => dcs_nil) (fun _ _ _ _ _ => (de_abs rfl T.n_abs (db_de (de_int1 rfl T.n_int (db_var 2))))) (sw_true rfl rfl rfl rfl))
    (dss_one (ds_ret (dv_lst (da_cons (de_var 1) (da_cons de_int (da_cons de_int (da_cons (de_addA de_int (de_mul de_int (de_len rfl T.n_len (db_var 1)))) (da_cons de_int da_nil))))) (lenCons (lenCons (lenCons (lenCons (lenCons lenNil)))))))))
theorem ok__law_draw (T : Txt K mg) : FnG P w K mg base 1 T.f__law_draw.f T.f__law_draw.fd ["hand", "many"] (spI K 2 m__law_draw) := by
  unfold m__law_draw
  refine fnI_ok (b := b__law_draw) (N := ["hand", "many", "cell", "digit", "number"]) (n := 2) T.f__law_draw.F sc__law_draw rfl ?_
  intro cd A outer st H room gd
  unfold b__law_draw
  exact (dss_cons (ds_if (dt_w (dw_and (dt_eq (hu64 room) (de_ixV 0 de_int) de_int) (dw_and1 (dt_lt (de_ixV 0 de_int) (de_len rfl T.n_len (db_de (de_ixV 0 de_int))))))) (dss_cons (ds_set 2 sc__law_draw.nd (dv_de (de_ix (de_ixV 0 de_int) (de_ixV 0 de_int))))
    (dss_cons (ds_put 0 (dv_de (de_addA (de_ixV 0 de_int) de_int)) de_int)
    (dss_cons (ds_put 0 (dv_de (de_mod (de_int1 rfl T.n_int (db_de (de_addA (de_addA (de_mul (de_ixV 0 de_int) de_int) (de_mul (de_var 2) de_int)) de_int))) de_int)) de_int)
    (dss_one (ds_if (dt_ge (de_var 2) (de_pow de_int de_int)) (dss_one (ds_put 0 (dv_de (de_var 2)) de_int)) dss_nil))))) dss_nil)
    (dss_cons (ds_if (dt_gt (de_ixV 0 de_int) de_int) (dss_cons (ds_set 3 sc__law_draw.nd (dv_de (de_mod (de_int1 rfl T.n_int (db_de (de_ixV 0 de_int))) (de_var 1))))
    (dss_cons (ds_put 0 (dv_de (de_fdiv (de_ixV 0 de_int) (de_var 1))) de_int)
    (dss_one (ds_retV 3)))) dss_nil)
    (dss_cons (ds_put 0 (dv_de (de_addA (de_ixV 0 de_int) de_int)) de_int)
    (dss_cons (ds_set 4 sc__law_draw.nd (dv_de (de_mod (de_int1 rfl T.n_int (db_de (de_mul (de_int1 rfl T.n_int (db_de (de_addA (de_ixV 0 de_int) (de_mul de_int (de_ixV 0 de_int))))) de_int))) de_int)))
    (dss_cons (ds_set 4 sc__law_draw.nd (dv_de (de_mod (de_int1 rfl T.n_int (db_de (de_mul (de_var 4) (de_addA (de_fdiv (de_var 4) de_int) de_int)))) de_int)))
    (dss_cons (ds_set 4 sc__law_draw.nd (dv_de (de_mod (de_int1 rfl T.n_int (db_de (de_mul (de_var 4) (de_addA (de_fdiv (de_var 4) de_int) de_int)))) de_int)))
    (dss_one (ds_ret (dv_de (de_mod (de_int1 rfl T.n_int (db_de (de_fdiv (de_var 4) de_int))) (de_var 1)))))))))))
theorem ok__law_low (T : Txt K mg) : FnG P w K mg base 1 T.f__law_low.f T.f__law_low.fd ["top", "bottom"] (spP K 2 m__law_low) := by
  unfold m__law_low
  refine fnP_ok (b := b__law_low) (N := ["top", "bottom", "one", "other"]) (n := 2) T.f__law_low.F sc__law_low rfl ?_
  intro cd A outer st H room gd
  unfold b__law_low
  exact (dss_cons (ds_par 2 3 rfl sc__law_low.nd (dv_de (de_abs rfl T.n_abs (db_var 0))) (dv_de (de_abs rfl T.n_abs (db_var 1))))
    (dss_cons (ds_while PassesOwn.never (dt_ne (hu64 room) (de_var 3) de_int) (dss_one (ds_par 2 3 rfl sc__law_low.nd (dv_de (de_var 3)) (dv_de (de_mod (de_int1 rfl T.n_int (db_var 2)) (de_var 3))))))
    (dss_one (ds_ret (dv_de (de_if (dt_gt (de_var 1) de_int) (de_tup (da_cons (de_fdiv (de_var 0) (de_var 2)) (da_cons (de_fdiv (de_var 1) (de_var 2)) da_nil)) (lenCons (lenCons lenNil))) (de_tup (da_cons (de_sub de_int (de_fdiv (de_var 0) (de_var 2))) (da_cons (de_sub de_int (de_fdiv (de_var 1) (de_var 2))) da_nil)) (lenCons (lenCons lenNil)))))))))
theorem ok__law_less (T : Txt K mg) : FnG P w K mg base 1 T.f__law_less.f T.f__law_less.fd ["one", "other"] (spP K 2 m__law_less) := by
  unfold m__law_less
  refine fnP_ok (b := b__law_less) (N := ["one", "other"]) (n := 2) T.f__law_less.F sc__law_less rfl ?_
  intro cd A outer st H room gd
  unfold b__law_less
  exact (dss_one (ds_ret (dv_de (de_lt (de_mul (de_ixV 0 de_int) (de_ixV 1 de_int)) (de_mul (de_ixV 1 de_int) (de_ixV 0 de_int))))))
theorem ok__law_is_whole (T : Txt K mg) : FnG P w K mg base 1 T.f__law_is_whole.f T.f__law_is_whole.fd ["thing"] (spP K 1 m__law_is_whole) := by
  unfold m__law_is_whole
  refine fnP_ok (b := b__law_is_whole) (N := ["thing"]) (n := 1) T.f__law_is_whole.F sc__law_is_whole rfl ?_
  intro cd A outer st H room gd
  unfold b__law_is_whole
  exact (dss_one (ds_ret (dv_de (de_and (de_isi (n := "int") rfl T.n_isinstance rfl T.n_int (by decide +kernel) (de_var 0)) (de_one (de_not (db_de (de_isi (n := "bool") rfl T.n_isinstance rfl T.n_bool (by decide +kernel) (de_var 0)))))))))
theorem ok_is_within (T : Txt K mg) : FnG P w K mg base 2 T.f_is_within.f T.f_is_within.fd ["thing", "low", "high"] (spP K 3 m_is_within) := by
  unfold m_is_within
  refine fnP_ok (b := b_is_within) (N := ["thing", "low", "high"]) (n := 3) T.f_is_within.F sc_is_within rfl ?_
  intro cd A outer st H room gd
  unfold b_is_within
  exact (dss_one (ds_ret (dv_de (de_and (de_dv (dv_call (ok_is_integer T) (room.mono (by decide)) gd rfl T.f_is_integer.g T.f_is_integer.F.kp T.f_is_integer.b (da_cons (de_var 0) da_nil) (lenCons lenNil))) (de_one (de_chain op_le op_le ok_cmp ok_cmp (de_var 1) (de_var 0) (de_var 2)))))))
theorem ok_share (T : Txt K mg) : FnG P w K mg base 2 T.f_share.f T.f_share.fd ["top", "bottom"] (spP K 2 m_share) := by
  unfold m_share
  refine fnP_ok (b := b_share) (N := ["top", "bottom", "part"]) (n := 2) T.f_share.F sc_share rfl ?_
  intro cd A outer st H room gd
  unfold b_share
  exact (dss_cons (ds_set 2 sc_share.nd (dv_call (ok_common T) (room.mono (by decide)) gd rfl T.f_common.g T.f_common.F.kp T.f_common.b (da_cons (de_var 0) (da_cons (de_var 1) da_nil)) (lenCons (lenCons lenNil))))
    (dss_cons (ds_if (dt_lt (de_var 1) de_int) (dss_one (ds_set 2 sc_share.nd (dv_de (de_neg (de_var 2))))) dss_nil)
    (dss_one (ds_ret (dv_de (de_tup (da_cons (de_fdiv (de_var 0) (de_var 2)) (da_cons (de_fdiv (de_var 1) (de_var 2)) da_nil)) (lenCons (lenCons lenNil))))))))
theorem ok_is_share (T : Txt K mg) : FnG P w K mg base 2 T.f_is_share.f T.f_is_share.fd ["thing"] (spP K 1 m_is_share) := by
  unfold m_is_share
  refine fnP_ok (b := b_is_share) (N := ["thing"]) (n := 1) T.f_is_share.F sc_is_share rfl ?_
  intro cd A outer st H room gd
  unfold b_is_share
  exact (dss_cons (ds_if (dt_w (dw_or (dt_not (dt_of (db_dv (dv_call (ok_is_sized T) (room.mono (by decide)) gd rfl T.f_is_sized.g T.f_is_sized.F.kp T.f_is_sized.b (da_cons (de_var 0) (da_cons de_int (da_cons de_int da_nil))) (lenCons (lenCons (lenCons lenNil))))))) (dw_or (dt_not (dt_of (db_dv (dv_call (ok_is_integer T) (room.mono (by decide)) gd rfl T.f_is_integer.g T.f_is_integer.F.kp T.f_is_integer.b (da_cons (de_ixV 0 de_int) da_nil) (lenCons lenNil))))) (dw_or1 (dt_not (dt_of (db_dv (dv_call (ok_is_integer T) (room.mono (by decide)) gd rfl T.f_is_integer.g T.f_is_integer.F.kp T.f_is_integer.b (da_cons (de_ixV 0 de_int) da_nil) (lenCons lenNil))))))))) (dss_one (ds_ret (dv_de de_bl))) dss_nil)
    (dss_one (ds_ret (dv_de (de_and (de_gt (de_ixV 0 de_int) de_int) (de_one (de_eq (hu64 room) (de_dv (dv_call (ok_common T) (room.mono (by decide)) gd rfl T.f_common.g T.f_common.F.kp T.f_common.b (da_cons (de_ixV 0 de_int) (da_cons (de_ixV 0 de_int) da_nil)) (lenCons (lenCons lenNil)))) de_int)))))))
theorem ok__law_any (T : Txt K mg) : FnG P w K mg base 2 T.f__law_any.f T.f__law_any.fd ["hand", "some"] (spI K 2 m__law_any) := by
  unfold m__law_any
  refine fnI_ok (b := b__law_any) (N := ["hand", "some"]) (n := 2) T.f__law_any.F sc__law_any rfl ?_
  intro cd A outer st H room gd
  unfold b__law_any
  exact (dss_one (ds_ret (dv_de (de_ixV 1 (de_dv (dv_callI 0 (ok__law_draw T) (room.mono (by decide)) gd rfl T.f__law_draw.g T.f__law_draw.F.kp T.f__law_draw.b (da_cons (de_len rfl T.n_len (db_var 1)) da_nil) (lenCons lenNil)))))))
theorem ok__law_add (T : Txt K mg) : FnG P w K mg base 2 T.f__law_add.f T.f__law_add.fd ["one", "other"] (spP K 2 m__law_add) := by
  unfold m__law_add
  refine fnP_ok (b := b__law_add) (N := ["one", "other"]) (n := 2) T.f__law_add.F sc__law_add rfl ?_
  intro cd A outer st H room gd
  unfold b__law_add
  exact (dss_one (ds_ret (dv_call (ok__law_low T) (room.mono (by decide)) gd rfl T.f__law_low.g T.f__law_low.F.kp T.f__law_low.b (da_cons (de_addA (de_mul (de_ixV 0 de_int) (de_ixV 1 de_int)) (de_mul (de_ixV 1 de_int) (de_ixV 0 de_int))) (da_cons (de_mul (de_ixV 0 de_int) (de_ixV 1 de_int)) da_nil)) (lenCons (lenCons lenNil)))))
theorem ok__law_mul (T : Txt K mg) : FnG P w K mg base 2 T.f__law_mul.f T.f__law_mul.fd ["one", "other"] (spP K 2 m__law_mul) := by
  unfold m__law_mul
  refine fnP_ok (b := b__law_mul) (N := ["one", "other"]) (n := 2) T.f__law_mul.F sc__law_mul rfl ?_
  intro cd A outer st H room gd
  unfold b__law_mul
  exact (dss_one (ds_ret (dv_call (ok__law_low T) (room.mono (by decide)) gd rfl T.f__law_low.g T.f__law_low.F.kp T.f__law_low.b (da_cons (de_mul (de_ixV 0 de_int) (de_ixV 1 de_int)) (da_cons (de_mul (de_ixV 0 de_int) (de_ixV 1 de_int)) da_nil)) (lenCons (lenCons lenNil)))))
theorem ok__law_is_fraction (T : Txt K mg) : FnG P w K mg base 2 T.f__law_is_fraction.f T.f__law_is_fraction.fd ["thing"] (spP K 1 m__law_is_fraction) := by
  unfold m__law_is_fraction
  refine fnP_ok (b := b__law_is_fraction) (N := ["thing", "one"]) (n := 1) T.f__law_is_fraction.F sc__law_is_fraction rfl ?_
  intro cd A outer st H room gd
  unfold b__law_is_fraction
  exact (dss_cons (ds_if (dt_w (dw_or (dt_not (dt_of (db_de (de_isi (n := "tuple") rfl T.n_isinstance rfl T.n_tuple (by decide +kernel) (de_var 0))))) (dw_or (dt_ne (hu64 room) (de_len rfl T.n_len (db_var 0)) de_int) (dw_or1 (dt_not (dt_of (db_de (de_all rfl rfl T.n_all (db_dv (dv_lc [("one", 1)] rfl sc__law_is_fraction.nd (di_seq (de_var 0)) rfl (fun _ _ _ _ _ => (dg_name 1 sc__law_is_fraction.nd)) (fun _ _ _ _ _ => dcs_nil) (fun _ _ _ _ _ => (de_dv (dv_call (ok__law_is_whole T) (room.mono (by decide)) gd rfl T.f__law_is_whole.g T.f__law_is_whole.F.kp T.f__law_is_whole.b (da_cons (de_var 1) da_nil) (lenCons lenNil)))))))))))))) (dss_one (ds_ret (dv_de de_bl))) dss_nil)
    (dss_one (ds_ret (dv_de (de_and (de_gt (de_ixV 0 de_int) de_int) (de_one (de_eq (hu64 room) (de_dv (dv_call (ok__law_low T) (room.mono (by decide)) gd rfl T.f__law_low.g T.f__law_low.F.kp T.f__law_low.b (da_cons (de_ixV 0 de_int) (da_cons (de_ixV 0 de_int) da_nil)) (lenCons (lenCons lenNil)))) (de_var 0))))))))
theorem ok_plus (T : Txt K mg) : FnG P w K mg base 3 T.f_plus.f T.f_plus.fd ["one", "other"] (spP K 2 m_plus) := by
  unfold m_plus
  refine fnP_ok (b := b_plus) (N := ["one", "other"]) (n := 2) T.f_plus.F sc_plus rfl ?_
  intro cd A outer st H room gd
  unfold b_plus
  exact (dss_cons (ds_if (dt_eq (hu64 room) (de_ixV 0 de_int) (de_ixV 1 de_int)) (dss_one (ds_ret (dv_call (ok_share T) (room.mono (by decide)) gd rfl T.f_share.g T.f_share.F.kp T.f_share.b (da_cons (de_addA (de_ixV 0 de_int) (de_ixV 1 de_int)) (da_cons (de_ixV 0 de_int) da_nil)) (lenCons (lenCons lenNil))))) dss_nil)
    (dss_one (ds_ret (dv_call (ok_share T) (room.mono (by decide)) gd rfl T.f_share.g T.f_share.F.kp T.f_share.b (da_cons (de_addA (de_mul (de_ixV 0 de_int) (de_ixV 1 de_int)) (de_mul (de_ixV 1 de_int) (de_ixV 0 de_int))) (da_cons (de_mul (de_ixV 0 de_int) (de_ixV 1 de_int)) da_nil)) (lenCons (lenCons lenNil))))))
theorem ok_times (T : Txt K mg) : FnG P w K mg base 3 T.f_times.f T.f_times.fd ["one", "other"] (spP K 2 m_times) := by
  unfold m_times
  refine fnP_ok (b := b_times) (N := ["one", "other"]) (n := 2) T.f_times.F sc_times rfl ?_
  intro cd A outer st H room gd
  unfold b_times
  exact (dss_one (ds_ret (dv_call (ok_share T) (room.mono (by decide)) gd rfl T.f_share.g T.f_share.F.kp T.f_share.b (da_cons (de_mul (de_ixV 0 de_int) (de_ixV 1 de_int)) (da_cons (de_mul (de_ixV 0 de_int) (de_ixV 1 de_int)) da_nil)) (lenCons (lenCons lenNil)))))
theorem ok_is_amount (T : Txt K mg) : FnG P w K mg base 3 T.f_is_amount.f T.f_is_amount.fd ["thing"] (spP K 1 m_is_amount) := by
  unfold m_is_amount
  refine fnP_ok (b := b_is_amount) (N := ["thing"]) (n := 1) T.f_is_amount.F sc_is_amount rfl ?_
  intro cd A outer st H room gd
  unfold b_is_amount
  exact (dss_one (ds_ret (dv_de (de_and (de_dv (dv_call (ok_is_share T) (room.mono (by decide)) gd rfl T.f_is_share.g T.f_is_share.F.kp T.f_is_share.b (da_cons (de_var 0) da_nil) (lenCons lenNil))) (de_one (de_ge (de_ixV 0 de_int) de_int))))))
theorem ok__law_sub (T : Txt K mg) : FnG P w K mg base 3 T.f__law_sub.f T.f__law_sub.fd ["one", "other"] (spP K 2 m__law_sub) := by
  unfold m__law_sub
  refine fnP_ok (b := b__law_sub) (N := ["one", "other"]) (n := 2) T.f__law_sub.F sc__law_sub rfl ?_
  intro cd A outer st H room gd
  unfold b__law_sub
  exact (dss_one (ds_ret (dv_call (ok__law_add T) (room.mono (by decide)) gd rfl T.f__law_add.g T.f__law_add.F.kp T.f__law_add.b (da_cons (de_var 0) (da_cons (de_tup (da_cons (de_sub de_int (de_ixV 1 de_int)) (da_cons (de_ixV 1 de_int) da_nil)) (lenCons (lenCons lenNil))) da_nil)) (lenCons (lenCons lenNil)))))
theorem ok__law_sum (T : Txt K mg) : FnG P w K mg base 3 T.f__law_sum.f T.f__law_sum.fd ["some"] (spP K 1 m__law_sum) := by
  unfold m__law_sum
  refine fnP_ok (b := b__law_sum) (N := ["some", "found", "one"]) (n := 1) T.f__law_sum.F sc__law_sum rfl ?_
  intro cd A outer st H room gd
  unfold b__law_sum
  exact (dss_cons (ds_set 1 sc__law_sum.nd (dv_de (de_tup (da_cons de_int (da_cons de_int da_nil)) (lenCons (lenCons lenNil)))))
    (dss_cons (ds_for PassesOwn.never rfl (di_seq (de_var 0)) (dg_name 2 sc__law_sum.nd) (dss_wp [2] (dss_one (ds_set 1 sc__law_sum.nd (dv_call (ok__law_add T) (room.mono (by decide)) gd rfl T.f__law_add.g T.f__law_add.F.kp T.f__law_add.b (da_cons (de_var 1) (da_cons (de_var 2) da_nil)) (lenCons (lenCons lenNil)))))))
    (dss_one (ds_retV 1))))
theorem ok__law_are_amounts (T : Txt K mg) : FnG P w K mg base 3 T.f__law_are_amounts.f T.f__law_are_amounts.fd ["thing", "many"] (spP K 2 m__law_are_amounts) := by
  unfold m__law_are_amounts
  refine fnP_ok (b := b__law_are_amounts) (N := ["thing", "many", "one"]) (n := 2) T.f__law_are_amounts.F sc__law_are_amounts rfl ?_
  intro cd A outer st H room gd
  unfold b__law_are_amounts
  exact (dss_cons (ds_if (dt_w (dw_or (dt_not (dt_of (db_de (de_isi (n := "tuple") rfl T.n_isinstance rfl T.n_tuple (by decide +kernel) (de_var 0))))) (dw_or (dt_ne (hu64 room) (de_len rfl T.n_len (db_var 0)) (de_var 1)) (dw_or1 (dt_not (dt_of (db_de (de_all rfl rfl T.n_all (db_dv (dv_lc [("one", 2)] rfl sc__law_are_amounts.nd (di_seq (de_var 0)) rfl (fun _ _ _ _ _ => (dg_name 2 sc__law_are_amounts.nd)) (fun _ _ _ _ _ => dcs_nil) (fun _ _ _ _ _ => (de_dv (dv_call (ok__law_is_fraction T) (room.mono (by decide)) gd rfl T.f__law_is_fraction.g T.f__law_is_fraction.F.kp T.f__law_is_fraction.b (da_cons (de_var 2) da_nil) (lenCons lenNil)))))))))))))) (dss_one (ds_ret (dv_de de_bl))) dss_nil)
    (dss_one (ds_ret (dv_de (de_all rfl rfl T.n_all (db_dv (dv_lc [("one", 2)] rfl sc__law_are_amounts.nd (di_seq (de_var 0)) rfl (fun _ _ _ _ _ => (dg_name 2 sc__law_are_amounts.nd)) (fun _ _ _ _ _ => dcs_nil) (fun _ _ _ _ _ => (de_ge (de_ixV 2 de_int) de_int)))))))))
theorem ok__law_amount (T : Txt K mg) : FnG P w K mg base 3 T.f__law_amount.f T.f__law_amount.fd ["hand"] (spI K 1 m__law_amount) := by
  unfold m__law_amount
  refine fnI_ok (b := b__law_amount) (N := ["hand", "bottom"]) (n := 1) T.f__law_amount.F sc__law_amount rfl ?_
  intro cd A outer st H room gd
  unfold b__law_amount
  exact (dss_cons (ds_set 1 sc__law_amount.nd (dv_callI 0 (ok__law_any T) (room.mono (by decide)) gd rfl T.f__law_any.g T.f__law_any.F.kp T.f__law_any.b (da_cons (de_dv (dv_lst (da_cons de_int (da_cons de_int (da_cons de_int (da_cons de_int (da_cons de_int (da_cons de_int da_nil)))))) (lenCons (lenCons (lenCons (lenCons (lenCons (lenCons lenNil)))))))) da_nil) (lenCons lenNil)))
    (dss_one (ds_ret (dv_call (ok__law_low T) (room.mono (by decide)) gd rfl T.f__law_low.g T.f__law_low.F.kp T.f__law_low.b (da_cons (de_dv (dv_callI 0 (ok__law_draw T) (room.mono (by decide)) gd rfl T.f__law_draw.g T.f__law_draw.F.kp T.f__law_draw.b (da_cons (de_addA (de_mul de_int (de_var 1)) de_int) da_nil) (lenCons lenNil))) (da_cons (de_var 1) da_nil)) (lenCons (lenCons lenNil))))))
theorem ok_minus (T : Txt K mg) : FnG P w K mg base 4 T.f_minus.f T.f_minus.fd ["one", "other"] (spP K 2 m_minus) := by
  unfold m_minus
  refine fnP_ok (b := b_minus) (N := ["one", "other"]) (n := 2) T.f_minus.F sc_minus rfl ?_
  intro cd A outer st H room gd
  unfold b_minus
  exact (dss_one (ds_ret (dv_call (ok_plus T) (room.mono (by decide)) gd rfl T.f_plus.g T.f_plus.F.kp T.f_plus.b (da_cons (de_var 0) (da_cons (de_tup (da_cons (de_neg (de_ixV 1 de_int)) (da_cons (de_ixV 1 de_int) da_nil)) (lenCons (lenCons lenNil))) da_nil)) (lenCons (lenCons lenNil)))))
theorem ok_summed (T : Txt K mg) : FnG P w K mg base 4 T.f_summed.f T.f_summed.fd ["many"] (spP K 1 m_summed) := by
  unfold m_summed
  refine fnP_ok (b := b_summed) (N := ["many", "found", "one"]) (n := 1) T.f_summed.F sc_summed rfl ?_
  intro cd A outer st H room gd
  unfold b_summed
  exact (dss_cons (ds_set 1 sc_summed.nd (dv_de (de_glob rfl T.c_ZERO.1 T.c_ZERO.2.1 T.c_ZERO.2.2)))
    (dss_cons (ds_for PassesOwn.never rfl (di_seq (de_var 0)) (dg_name 2 sc_summed.nd) (dss_wp [2] (dss_one (ds_set 1 sc_summed.nd (dv_call (ok_plus T) (room.mono (by decide)) gd rfl T.f_plus.g T.f_plus.F.kp T.f_plus.b (da_cons (de_var 1) (da_cons (de_var 2) da_nil)) (lenCons (lenCons lenNil)))))))
    (dss_one (ds_retV 1))))
theorem ok_are_amounts (T : Txt K mg) : FnG P w K mg base 4 T.f_are_amounts.f T.f_are_amounts.fd ["thing", "many"] (spP K 2 m_are_amounts) := by
  unfold m_are_amounts
  refine fnP_ok (b := b_are_amounts) (N := ["thing", "many", "part"]) (n := 2) T.f_are_amounts.F sc_are_amounts rfl ?_
  intro cd A outer st H room gd
  unfold b_are_amounts
  exact (dss_one (ds_ret (dv_de (de_and (de_dv (dv_call (ok_is_sized T) (room.mono (by decide)) gd rfl T.f_is_sized.g T.f_is_sized.F.kp T.f_is_sized.b (da_cons (de_var 0) (da_cons (de_var 1) (da_cons (de_var 1) da_nil))) (lenCons (lenCons (lenCons lenNil))))) (de_one (de_all rfl rfl T.n_all (db_dv (dv_lc [("part", 2)] rfl sc_are_amounts.nd (di_seq (de_var 0)) rfl (fun _ _ _ _ _ => (dg_name 2 sc_are_amounts.nd)) (fun _ _ _ _ _ => dcs_nil) (fun _ _ _ _ _ => (de_dv (dv_call (ok_is_amount T) (room.mono (by decide)) gd rfl T.f_is_amount.g T.f_is_amount.F.kp T.f_is_amount.b (da_cons (de_var 2) da_nil) (lenCons lenNil))))))))))))
theorem ok_made_by (T : Txt K mg) : FnG P w K mg base 4 T.f_made_by.f T.f_made_by.fd ["book", "plan"] (spP K 2 m_made_by) := by
  unfold m_made_by
  refine fnP_ok (b := b_made_by) (N := ["book", "plan", "found", "good", "uses", "work", "amount"]) (n := 2) T.f_made_by.F sc_made_by rfl ?_
  intro cd A outer st H room gd
  unfold b_made_by
  exact (dss_cons (ds_set 2 sc_made_by.nd (dv_rep (dv_lst (da_cons (de_glob rfl T.c_ZERO.1 T.c_ZERO.2.1 T.c_ZERO.2.2) da_nil) (lenCons lenNil)) (de_ixV 0 de_int)))
    (dss_cons (ds_for PassesOwn.never rfl (di_zipU rfl T.n_zip (da_cons (de_ixV 0 de_int) (da_cons (de_var 1) da_nil))) (dg_tup 2 rfl (dgs_cons (dg_tup 3 rfl (dgs_cons (dg_name 3 sc_made_by.nd) (dgs_cons (dg_name 4 sc_made_by.nd) (dgs_cons (dg_name 5 sc_made_by.nd) dgs_nil)))) (dgs_cons (dg_name 6 sc_made_by.nd) dgs_nil))) (dss_wp [3, 4, 5, 6] (dss_one (ds_put 2 (dv_call (ok_plus T) (room.mono (by decide)) gd rfl T.f_plus.g T.f_plus.F.kp T.f_plus.b (da_cons (de_ixV 2 (de_var 3)) (da_cons (de_var 6) da_nil)) (lenCons (lenCons lenNil))) (de_var 3)))))
    (dss_one (ds_ret (dv_de (de_tuple rfl T.n_tuple (db_var 2)))))))
theorem ok_used_by (T : Txt K mg) : FnG P w K mg base 4 T.f_used_by.f T.f_used_by.fd ["book", "plan"] (spP K 2 m_used_by) := by
  unfold m_used_by
  refine fnP_ok (b := b_used_by) (N := ["book", "plan", "found", "good", "uses", "work", "amount", "part", "use"]) (n := 2) T.f_used_by.F sc_used_by rfl ?_
  intro cd A outer st H room gd
  unfold b_used_by
  exact (dss_cons (ds_set 2 sc_used_by.nd (dv_rep (dv_lst (da_cons (de_glob rfl T.c_ZERO.1 T.c_ZERO.2.1 T.c_ZERO.2.2) da_nil) (lenCons lenNil)) (de_ixV 0 de_int)))
    (dss_cons (ds_for PassesOwn.never rfl (di_zipU rfl T.n_zip (da_cons (de_ixV 0 de_int) (da_cons (de_var 1) da_nil))) (dg_tup 2 rfl (dgs_cons (dg_tup 3 rfl (dgs_cons (dg_name 3 sc_used_by.nd) (dgs_cons (dg_name 4 sc_used_by.nd) (dgs_cons (dg_name 5 sc_used_by.nd) dgs_nil)))) (dgs_cons (dg_name 6 sc_used_by.nd) dgs_nil))) (dss_wp [3, 4, 5, 6, 7, 8] (dss_one (ds_if (dt_ne (hu64 room) (de_var 6) (de_glob rfl T.c_ZERO.1 T.c_ZERO.2.1 T.c_ZERO.2.2)) (dss_one (ds_setLc 2 [("part", 7), ("use", 8)] rfl sc_used_by.nd (di_zipU rfl T.n_zip (da_cons (de_var 2) (da_cons (de_var 4) da_nil))) rfl (fun _ _ _ _ _ => (dg_tup 2 rfl (dgs_cons (dg_name 7 sc_used_by.nd) (dgs_cons (dg_name 8 sc_used_by.nd) dgs_nil)))) (fun _ _ _ _ _ => dcs_nil) (fun _ _ _ _ _ => (de_dv (dv_call (ok_plus T) (room.mono (by decide)) gd rfl T.f_plus.g T.f_plus.F.kp T.f_plus.b (da_cons (de_var 7) (da_cons (de_dv (dv_call (ok_times T) (room.mono (by decide)) gd rfl T.f_times.g T.f_times.F.kp T.f_times.b (da_cons (de_var 6) (da_cons (de_var 8) da_nil)) (lenCons (lenCons lenNil)))) da_nil)) (lenCons (lenCons lenNil))))) (sw_true rfl rfl rfl rfl))) dss_nil))))
    (dss_one (ds_ret (dv_de (de_tuple rfl T.n_tuple (db_var 2)))))))
theorem ok__law_dot (T : Txt K mg) : FnG P w K mg base 4 T.f__law_dot.f T.f__law_dot.fd ["row", "other"] (spP K 2 m__law_dot) := by
  unfold m__law_dot
  refine fnP_ok (b := b__law_dot) (N := ["row", "other", "one", "two"]) (n := 2) T.f__law_dot.F sc__law_dot rfl ?_
  intro cd A outer st H room gd
  unfold b__law_dot
  exact (dss_one (ds_ret (dv_call (ok__law_sum T) (room.mono (by decide)) gd rfl T.f__law_sum.g T.f__law_sum.F.kp T.f__law_sum.b (da_cons (de_dv (dv_lc [("one", 2), ("two", 3)] rfl sc__law_dot.nd (di_zipU rfl T.n_zip (da_cons (de_var 0) (da_cons (de_var 1) da_nil))) rfl (fun _ _ _ _ _ => (dg_tup 2 rfl (dgs_cons (dg_name 2 sc__law_dot.nd) (dgs_cons (dg_name 3 sc__law_dot.nd) dgs_nil)))) (fun _ _ _ _ _ => dcs_nil) (fun _ _ _ _ _ => (de_dv (dv_call (ok__law_mul T) (room.mono (by decide)) gd rfl T.f__law_mul.g T.f__law_mul.F.kp T.f__law_mul.b (da_cons (de_var 2) (da_cons (de_var 3) da_nil)) (lenCons (lenCons lenNil))))))) da_nil) (lenCons lenNil))))
theorem ok__law_is_book (T : Txt K mg) : FnG P w K mg base 4 T.f__law_is_book.f T.f__law_is_book.fd ["thing"] (spP K 1 m__law_is_book) := by
  unfold m__law_is_book
  refine fnP_ok (b := b__law_is_book) (N := ["thing", "method"]) (n := 1) T.f__law_is_book.F sc__law_is_book rfl ?_
  intro cd A outer st H room gd
  unfold b__law_is_book
  exact (dss_cons (ds_if (dt_w (dw_or (dt_not (dt_of (db_de (de_isi (n := "tuple") rfl T.n_isinstance rfl T.n_tuple (by decide +kernel) (de_var 0))))) (dw_or (dt_ne (hu64 room) (de_len rfl T.n_len (db_var 0)) de_int) (dw_or (dt_not (dt_of (db_dv (dv_call (ok__law_is_whole T) (room.mono (by decide)) gd rfl T.f__law_is_whole.g T.f__law_is_whole.F.kp T.f__law_is_whole.b (da_cons (de_ixV 0 de_int) da_nil) (lenCons lenNil))))) (dw_or1 (dt_not (dt_chain op_le op_le ok_cmp ok_cmp isb_cmp de_int (de_ixV 0 de_int) de_int))))))) (dss_one (ds_ret (dv_de de_bl))) dss_nil)
    (dss_cons (ds_if (dt_w (dw_or (dt_not (dt_of (db_de (de_isi (n := "tuple") rfl T.n_isinstance rfl T.n_tuple (by decide +kernel) (de_ixV 0 de_int))))) (dw_or1 (dt_not (dt_chain op_le op_le ok_cmp ok_cmp isb_cmp de_int (de_len rfl T.n_len (db_de (de_ixV 0 de_int))) de_int))))) (dss_one (ds_ret (dv_de de_bl))) dss_nil)
    (dss_cons (ds_for PassesOwn.never rfl (di_seq (de_ixV 0 de_int)) (dg_name 1 sc__law_is_book.nd) (dss_wp [1] (dss_cons (ds_if (dt_w (dw_or (dt_not (dt_of (db_de (de_isi (n := "tuple") rfl T.n_isinstance rfl T.n_tuple (by decide +kernel) (de_var 1))))) (dw_or (dt_ne (hu64 room) (de_len rfl T.n_len (db_var 1)) de_int) (dw_or1 (dt_not (dt_of (db_dv (dv_call (ok__law_is_whole T) (room.mono (by decide)) gd rfl T.f__law_is_whole.g T.f__law_is_whole.F.kp T.f__law_is_whole.b (da_cons (de_ixV 1 de_int) da_nil) (lenCons lenNil))))))))) (dss_one (ds_ret (dv_de de_bl))) dss_nil)
    (dss_cons (ds_if (dt_w (dw_or (dt_not (dt_chain op_le op_lt ok_cmp ok_cmp isb_cmp de_int (de_ixV 1 de_int) (de_ixV 0 de_int))) (dw_or1 (dt_not (dt_of (db_dv (dv_call (ok__law_are_amounts T) (room.mono (by decide)) gd rfl T.f__law_are_amounts.g T.f__law_are_amounts.F.kp T.f__law_are_amounts.b (da_cons (de_ixV 1 de_int) (da_cons (de_ixV 0 de_int) da_nil)) (lenCons (lenCons lenNil))))))))) (dss_one (ds_ret (dv_de de_bl))) dss_nil)
    (dss_one (ds_if (dt_not (dt_of (db_dv (dv_call (ok__law_are_amounts T) (room.mono (by decide)) gd rfl T.f__law_are_amounts.g T.f__law_are_amounts.F.kp T.f__law_are_amounts.b (da_cons (de_tup (da_cons (de_ixV 1 de_int) da_nil) (lenCons lenNil)) (da_cons de_int da_nil)) (lenCons (lenCons lenNil)))))) (dss_one (ds_ret (dv_de de_bl))) dss_nil))))))
    (dss_one (ds_ret (dv_de de_bl))))))
theorem ok__law_is_course (T : Txt K mg) : FnG P w K mg base 4 T.f__law_is_course.f T.f__law_is_course.fd ["parts", "thing"] (spP K 2 m__law_is_course) := by
  unfold m__law_is_course
  refine fnP_ok (b := b__law_is_course) (N := ["parts", "thing", "row"]) (n := 2) T.f__law_is_course.F sc__law_is_course rfl ?_
  intro cd A outer st H room gd
  unfold b__law_is_course
  exact (dss_cons (ds_if (dt_w (dw_or (dt_not (dt_of (db_de (de_isi (n := "tuple") rfl T.n_isinstance rfl T.n_tuple (by decide +kernel) (de_var 1))))) (dw_or1 (dt_ne (hu64 room) (de_len rfl T.n_len (db_var 1)) (de_len rfl T.n_len (db_de (de_ixV 0 de_int))))))) (dss_one (ds_ret (dv_de de_bl))) dss_nil)
    (dss_one (ds_ret (dv_de (de_all rfl rfl T.n_all (db_dv (dv_lc [("row", 2)] rfl sc__law_is_course.nd (di_seq (de_var 1)) rfl (fun _ _ _ _ _ => (dg_name 2 sc__law_is_course.nd)) (fun _ _ _ _ _ => dcs_nil) (fun _ _ _ _ _ => (de_dv (dv_call (ok__law_are_amounts T) (room.mono (by decide)) gd rfl T.f__law_are_amounts.g T.f__law_are_amounts.F.kp T.f__law_are_amounts.b (da_cons (de_var 2) (da_cons (de_len rfl T.n_len (db_de (de_ix (de_ixV 0 de_int) de_int))) da_nil)) (lenCons (lenCons lenNil))))))))))))
theorem ok__law_used (T : Txt K mg) : FnG P w K mg base 4 T.f__law_used.f T.f__law_used.fd ["book", "plan"] (spP K 2 m__law_used) := by
  unfold m__law_used
  refine fnP_ok (b := b__law_used) (N := ["book", "plan", "found", "good", "method", "one"]) (n := 2) T.f__law_used.F sc__law_used rfl ?_
  intro cd A outer st H room gd
  unfold b__law_used
  exact (dss_cons (ds_set 2 sc__law_used.nd (dv_lst da_nil lenNil))
    (dss_cons (ds_for PassesOwn.never rfl (di_range1 rfl T.n_range (da_cons (de_ixV 0 de_int) da_nil)) (dg_name 3 sc__law_used.nd) (dss_wp [3, 4, 5] (dss_one (ds_expr (de_append 2 (dv_call (ok__law_sum T) (room.mono (by decide)) gd rfl T.f__law_sum.g T.f__law_sum.F.kp T.f__law_sum.b (da_cons (de_dv (dv_lc [("method", 4), ("one", 5)] rfl sc__law_used.nd (di_zipU rfl T.n_zip (da_cons (de_ixV 0 de_int) (da_cons (de_var 1) da_nil))) rfl (fun _ _ _ _ _ => (dg_tup 2 rfl (dgs_cons (dg_name 4 sc__law_used.nd) (dgs_cons (dg_name 5 sc__law_used.nd) dgs_nil)))) (fun _ _ _ _ _ => dcs_nil) (fun _ _ _ _ _ => (de_dv (dv_call (ok__law_mul T) (room.mono (by decide)) gd rfl T.f__law_mul.g T.f__law_mul.F.kp T.f__law_mul.b (da_cons (de_ix (de_ixV 4 de_int) (de_var 3)) (da_cons (de_var 5) da_nil)) (lenCons (lenCons lenNil))))))) da_nil) (lenCons lenNil)))))))
    (dss_one (ds_retV 2))))
theorem ok__law_made (T : Txt K mg) : FnG P w K mg base 4 T.f__law_made.f T.f__law_made.fd ["book", "plan"] (spP K 2 m__law_made) := by
  unfold m__law_made
  refine fnP_ok (b := b__law_made) (N := ["book", "plan", "found", "good", "method", "one"]) (n := 2) T.f__law_made.F sc__law_made rfl ?_
  intro cd A outer st H room gd
  unfold b__law_made
  exact (dss_cons (ds_set 2 sc__law_made.nd (dv_lst da_nil lenNil))
    (dss_cons (ds_for PassesOwn.never rfl (di_range1 rfl T.n_range (da_cons (de_ixV 0 de_int) da_nil)) (dg_name 3 sc__law_made.nd) (dss_wp [3, 4, 5] (dss_one (ds_expr (de_append 2 (dv_call (ok__law_sum T) (room.mono (by decide)) gd rfl T.f__law_sum.g T.f__law_sum.F.kp T.f__law_sum.b (da_cons (de_dv (dv_lc [("method", 4), ("one", 5)] rfl sc__law_made.nd (di_zipU rfl T.n_zip (da_cons (de_ixV 0 de_int) (da_cons (de_var 1) da_nil))) rfl (fun _ _ _ _ _ => (dg_tup 2 rfl (dgs_cons (dg_name 4 sc__law_made.nd) (dgs_cons (dg_name 5 sc__law_made.nd) dgs_nil)))) (fun _ _ _ _ _ => (dcs_one (dt_eq (hu64 room) (de_ixV 4 de_int) (de_var 3)))) (fun _ _ _ _ _ => (de_var 5)))) da_nil) (lenCons lenNil)))))))
    (dss_one (ds_retV 2))))
theorem ok__law_drawn_book (T : Txt K mg) : FnG P w K mg base 4 T.f__law_drawn_book.f T.f__law_drawn_book.fd ["hand", "most", "methods"] (spI K 3 m__law_drawn_book) := by
  unfold m__law_drawn_book
  refine fnI_ok (b := b__law_drawn_book) (N := ["hand", "most", "methods", "goods", "found", "turn", "needs", "work", "good"]) (n := 3) T.f__law_drawn_book.F sc__law_drawn_book rfl ?_
  intro cd A outer st H room gd
  unfold b__law_drawn_book
  exact (dss_cons (ds_par 3 4 rfl sc__law_drawn_book.nd (dv_de (de_addA de_int (de_dv (dv_callI 0 (ok__law_draw T) (room.mono (by decide)) gd rfl T.f__law_draw.g T.f__law_draw.F.kp T.f__law_draw.b (da_cons (de_var 1) da_nil) (lenCons lenNil))))) (dv_lst da_nil lenNil))
    (dss_cons (ds_for PassesOwn.never rfl (di_range1 rfl T.n_range (da_cons (de_addA de_int (de_dv (dv_callI 0 (ok__law_draw T) (room.mono (by decide)) gd rfl T.f__law_draw.g T.f__law_draw.F.kp T.f__law_draw.b (da_cons (de_var 2) da_nil) (lenCons lenNil)))) da_nil)) (dg_name 5 sc__law_drawn_book.nd) (dss_wp [5, 6, 7, 8] (dss_cons (ds_setLc 6 [("good", 8)] rfl sc__law_drawn_book.nd (di_range1 rfl T.n_range (da_cons (de_var 3) da_nil)) rfl (fun _ _ _ _ _ => (dg_name 8 sc__law_drawn_book.nd)) (fun _ _ _ _ _ => dcs_nil) (fun _ _ _ _ _ => (de_dv (dv_callI 0 (ok__law_any T) (room.mono (by decide)) gd rfl T.f__law_any.g T.f__law_any.F.kp T.f__law_any.b (da_cons (de_dv (dv_lst (da_cons (de_tup (da_cons de_int (da_cons de_int da_nil)) (lenCons (lenCons lenNil))) (da_cons (de_tup (da_cons de_int (da_cons de_int da_nil)) (lenCons (lenCons lenNil))) (da_cons (de_tup (da_cons de_int (da_cons de_int da_nil)) (lenCons (lenCons lenNil))) (da_cons (de_tup (da_cons de_int (da_cons de_int da_nil)) (lenCons (lenCons lenNil))) (da_cons (de_tup (da_cons de_int (da_cons de_int da_nil)) (lenCons (lenCons lenNil))) (da_cons (de_dv (dv_callI 0 (ok__law_amount T) (room.mono (by decide)) gd rfl T.f__law_amount.g T.f__law_amount.F.kp T.f__law_amount.b da_nil lenNil)) da_nil)))))) (lenCons (lenCons (lenCons (lenCons (lenCons (lenCons lenNil)))))))) da_nil) (lenCons lenNil)))) (sw_true rfl rfl rfl rfl))
    (dss_cons (ds_set 7 sc__law_drawn_book.nd (dv_callI 0 (ok__law_any T) (room.mono (by decide)) gd rfl T.f__law_any.g T.f__law_any.F.kp T.f__law_any.b (da_cons (de_dv (dv_lst (da_cons (de_tup (da_cons de_int (da_cons de_int da_nil)) (lenCons (lenCons lenNil))) (da_cons (de_tup (da_cons de_int (da_cons de_int da_nil)) (lenCons (lenCons lenNil))) (da_cons (de_tup (da_cons de_int (da_cons de_int da_nil)) (lenCons (lenCons lenNil))) (da_cons (de_dv (dv_callI 0 (ok__law_amount T) (room.mono (by decide)) gd rfl T.f__law_amount.g T.f__law_amount.F.kp T.f__law_amount.b da_nil lenNil)) da_nil)))) (lenCons (lenCons (lenCons (lenCons lenNil)))))) da_nil) (lenCons lenNil)))
    (dss_one (ds_expr (de_append 4 (dv_de (de_tup (da_cons (de_dv (dv_callI 0 (ok__law_draw T) (room.mono (by decide)) gd rfl T.f__law_draw.g T.f__law_draw.F.kp T.f__law_draw.b (da_cons (de_var 3) da_nil) (lenCons lenNil))) (da_cons (de_tuple rfl T.n_tuple (db_var 6)) (da_cons (de_var 7) da_nil))) (lenCons (lenCons (lenCons lenNil))))))))))))
    (dss_one (ds_ret (dv_de (de_tup (da_cons (de_var 3) (da_cons (de_tuple rfl T.n_tuple (db_var 4)) da_nil)) (lenCons (lenCons lenNil))))))))
theorem ok__law_other_courses (T : Txt K mg) : FnG P w K mg base 4 T.f__law_other_courses.f T.f__law_other_courses.fd ["hand", "parts", "course"] (spI K 3 m__law_other_courses) := by
  unfold m__law_other_courses
  refine fnI_ok (b := b__law_other_courses) (N := ["hand", "parts", "course", "year", "at", "plan", "other", "found", "method"]) (n := 3) T.f__law_other_courses.F sc__law_other_courses rfl ?_
  intro cd A outer st H room gd
  unfold b__law_other_courses
  exact (dss_cons (ds_par 3 4 rfl sc__law_other_courses.nd (dv_callI 0 (ok__law_draw T) (room.mono (by decide)) gd rfl T.f__law_draw.g T.f__law_draw.F.kp T.f__law_draw.b (da_cons (de_len rfl T.n_len (db_var 2)) da_nil) (lenCons lenNil)) (dv_callI 0 (ok__law_draw T) (room.mono (by decide)) gd rfl T.f__law_draw.g T.f__law_draw.F.kp T.f__law_draw.b (da_cons (de_len rfl T.n_len (db_de (de_ixV 2 de_int))) da_nil) (lenCons lenNil)))
    (dss_cons (ds_set 5 sc__law_other_courses.nd (dv_de (de_ixV 2 (de_var 3))))
    (dss_cons (ds_set 6 sc__law_other_courses.nd (dv_callI 0 (ok__law_any T) (room.mono (by decide)) gd rfl T.f__law_any.g T.f__law_any.F.kp T.f__law_any.b (da_cons (de_dv (dv_lst (da_cons (de_tup (da_cons de_int (da_cons de_int da_nil)) (lenCons (lenCons lenNil))) (da_cons (de_dv (dv_call (ok__law_add T) (room.mono (by decide)) gd rfl T.f__law_add.g T.f__law_add.F.kp T.f__law_add.b (da_cons (de_ixV 5 (de_var 4)) (da_cons (de_tup (da_cons de_int (da_cons de_int da_nil)) (lenCons (lenCons lenNil))) da_nil)) (lenCons (lenCons lenNil)))) (da_cons (de_dv (dv_call (ok__law_mul T) (room.mono (by decide)) gd rfl T.f__law_mul.g T.f__law_mul.F.kp T.f__law_mul.b (da_cons (de_ixV 5 (de_var 4)) (da_cons (de_tup (da_cons de_int (da_cons de_int da_nil)) (lenCons (lenCons lenNil))) da_nil)) (lenCons (lenCons lenNil)))) (da_cons (de_dv (dv_callI 0 (ok__law_amount T) (room.mono (by decide)) gd rfl T.f__law_amount.g T.f__law_amount.F.kp T.f__law_amount.b da_nil lenNil)) da_nil)))) (lenCons (lenCons (lenCons (lenCons lenNil)))))) da_nil) (lenCons lenNil)))
    (dss_cons (ds_set 7 sc__law_other_courses.nd (dv_lst (da_cons (de_addA (de_addA (de_sl (de_var 2) do_none (do_some (de_var 3))) (de_tup (da_cons (de_addA (de_addA (de_sl (de_var 5) do_none (do_some (de_var 4))) (de_tup (da_cons (de_var 6) da_nil) (lenCons lenNil))) (de_sl (de_var 5) (do_some (de_addA (de_var 4) de_int)) do_none)) da_nil) (lenCons lenNil))) (de_sl (de_var 2) (do_some (de_addA (de_var 3) de_int)) do_none)) da_nil) (lenCons lenNil)))
    (dss_cons (ds_expr (de_append 7 (dv_de (de_tuple rfl T.n_tuple (db_dv (dv_lc [("year", 3)] rfl sc__law_other_courses.nd (di_seq (de_ixV 1 de_int)) rfl (fun _ _ _ _ _ => (dg_name 3 sc__law_other_courses.nd)) (fun _ _ _ _ _ => dcs_nil) (fun _ _ _ _ _ => (de_tuple rfl T.n_tuple (db_dv (dv_lc [("method", 8)] rfl sc__law_other_courses.nd (di_seq (de_ix (de_ixV 1 de_int) de_int)) rfl (fun _ _ _ _ _ => (dg_name 8 sc__law_other_courses.nd)) (fun _ _ _ _ _ => dcs_nil) (fun _ _ _ _ _ => (de_dv (dv_callI 0 (ok__law_amount T) (room.mono (by decide)) gd rfl T.f__law_amount.g T.f__law_amount.F.kp T.f__law_amount.b da_nil lenNil)))))))))))))
    (dss_one (ds_ret (dv_catE (de_var 7) (de_dv (dv_lst (da_cons (de_tuple rfl T.n_tuple (db_dv (dv_lc [("year", 3)] rfl sc__law_other_courses.nd (di_seq (de_ixV 1 de_int)) rfl (fun _ _ _ _ _ => (dg_name 3 sc__law_other_courses.nd)) (fun _ _ _ _ _ => dcs_nil) (fun _ _ _ _ _ => (de_repT (de_tup (da_cons (de_tup (da_cons de_int (da_cons de_int da_nil)) (lenCons (lenCons lenNil))) da_nil) (lenCons lenNil)) (de_len rfl T.n_len (db_de (de_ix (de_ixV 1 de_int) de_int)))))))) da_nil) (lenCons lenNil)))))))))))
theorem ok_is_method (T : Txt K mg) : FnG P w K mg base 5 T.f_is_method.f T.f_is_method.fd ["goods", "thing"] (spP K 2 m_is_method) := by
  unfold m_is_method
  refine fnP_ok (b := b_is_method) (N := ["goods", "thing"]) (n := 2) T.f_is_method.F sc_is_method rfl ?_
  intro cd A outer st H room gd
  unfold b_is_method
  exact (dss_cons (ds_if (dt_w (dw_or (dt_not (dt_of (db_dv (dv_call (ok_is_sized T) (room.mono (by decide)) gd rfl T.f_is_sized.g T.f_is_sized.F.kp T.f_is_sized.b (da_cons (de_var 1) (da_cons de_int (da_cons de_int da_nil))) (lenCons (lenCons (lenCons lenNil))))))) (dw_or1 (dt_not (dt_of (db_dv (dv_call (ok_is_within T) (room.mono (by decide)) gd rfl T.f_is_within.g T.f_is_within.F.kp T.f_is_within.b (da_cons (de_ixV 1 de_int) (da_cons de_int (da_cons (de_sub (de_var 0) de_int) da_nil))) (lenCons (lenCons (lenCons lenNil)))))))))) (dss_one (ds_ret (dv_de de_bl))) dss_nil)
    (dss_one (ds_ret (dv_de (de_and (de_dv (dv_call (ok_are_amounts T) (room.mono (by decide)) gd rfl T.f_are_amounts.g T.f_are_amounts.F.kp T.f_are_amounts.b (da_cons (de_ixV 1 de_int) (da_cons (de_var 0) da_nil)) (lenCons (lenCons lenNil)))) (de_one (de_dv (dv_call (ok_is_amount T) (room.mono (by decide)) gd rfl T.f_is_amount.g T.f_is_amount.F.kp T.f_is_amount.b (da_cons (de_ixV 1 de_int) da_nil) (lenCons lenNil)))))))))
theorem ok_is_plan_of (T : Txt K mg) : FnG P w K mg base 5 T.f_is_plan_of.f T.f_is_plan_of.fd ["book", "thing"] (spP K 2 m_is_plan_of) := by
  unfold m_is_plan_of
  refine fnP_ok (b := b_is_plan_of) (N := ["book", "thing"]) (n := 2) T.f_is_plan_of.F sc_is_plan_of rfl ?_
  intro cd A outer st H room gd
  unfold b_is_plan_of
  exact (dss_one (ds_ret (dv_call (ok_are_amounts T) (room.mono (by decide)) gd rfl T.f_are_amounts.g T.f_are_amounts.F.kp T.f_are_amounts.b (da_cons (de_var 1) (da_cons (de_len rfl T.n_len (db_de (de_ixV 0 de_int))) da_nil)) (lenCons (lenCons lenNil)))))
theorem ok_work_in (T : Txt K mg) : FnG P w K mg base 5 T.f_work_in.f T.f_work_in.fd ["book", "plan"] (spP K 2 m_work_in) := by
  unfold m_work_in
  refine fnP_ok (b := b_work_in) (N := ["book", "plan", "method", "amount"]) (n := 2) T.f_work_in.F sc_work_in rfl ?_
  intro cd A outer st H room gd
  unfold b_work_in
  exact (dss_one (ds_ret (dv_call (ok_summed T) (room.mono (by decide)) gd rfl T.f_summed.g T.f_summed.F.kp T.f_summed.b (da_cons (de_dv (dv_lc [("method", 2), ("amount", 3)] rfl sc_work_in.nd (di_zipU rfl T.n_zip (da_cons (de_ixV 0 de_int) (da_cons (de_var 1) da_nil))) rfl (fun _ _ _ _ _ => (dg_tup 2 rfl (dgs_cons (dg_name 2 sc_work_in.nd) (dgs_cons (dg_name 3 sc_work_in.nd) dgs_nil)))) (fun _ _ _ _ _ => dcs_nil) (fun _ _ _ _ _ => (de_dv (dv_call (ok_times T) (room.mono (by decide)) gd rfl T.f_times.g T.f_times.F.kp T.f_times.b (da_cons (de_var 3) (da_cons (de_ixV 2 de_int) da_nil)) (lenCons (lenCons lenNil))))))) da_nil) (lenCons lenNil))))
theorem ok__law_is_years (T : Txt K mg) : FnG P w K mg base 5 T.f__law_is_years.f T.f__law_is_years.fd ["thing"] (spP K 1 m__law_is_years) := by
  unfold m__law_is_years
  refine fnP_ok (b := b__law_is_years) (N := ["thing", "goods", "many", "row"]) (n := 1) T.f__law_is_years.F sc__law_is_years rfl ?_
  intro cd A outer st H room gd
  unfold b__law_is_years
  exact (dss_cons (ds_if (dt_w (dw_or (dt_not (dt_of (db_de (de_isi (n := "tuple") rfl T.n_isinstance rfl T.n_tuple (by decide +kernel) (de_var 0))))) (dw_or (dt_ne (hu64 room) (de_len rfl T.n_len (db_var 0)) de_int) (dw_or1 (dt_not (dt_of (db_dv (dv_call (ok__law_is_book T) (room.mono (by decide)) gd rfl T.f__law_is_book.g T.f__law_is_book.F.kp T.f__law_is_book.b (da_cons (de_ixV 0 de_int) da_nil) (lenCons lenNil))))))))) (dss_one (ds_ret (dv_de de_bl))) dss_nil)
    (dss_cons (ds_parC 1 2 rfl sc__law_is_years.nd (dv_de (de_ix (de_ixV 0 de_int) de_int)) (dv_de (de_if (dt_of (db_de (de_isi (n := "tuple") rfl T.n_isinstance rfl T.n_tuple (by decide +kernel) (de_ixV 0 de_int)))) (de_len rfl T.n_len (db_de (de_ixV 0 de_int))) de_int)))
    (dss_cons (ds_if (dt_w (dw_or (dt_not (dt_of (db_dv (dv_call (ok__law_are_amounts T) (room.mono (by decide)) gd rfl T.f__law_are_amounts.g T.f__law_are_amounts.F.kp T.f__law_are_amounts.b (da_cons (de_ixV 0 de_int) (da_cons (de_var 1) da_nil)) (lenCons (lenCons lenNil)))))) (dw_or (dt_not (dt_chain op_le op_le ok_cmp ok_cmp isb_cmp de_int (de_var 2) de_int)) (dw_or1 (dt_not (dt_of (db_dv (dv_call (ok__law_are_amounts T) (room.mono (by decide)) gd rfl T.f__law_are_amounts.g T.f__law_are_amounts.F.kp T.f__law_are_amounts.b (da_cons (de_ixV 0 de_int) (da_cons (de_var 2) da_nil)) (lenCons (lenCons lenNil)))))))))) (dss_one (ds_ret (dv_de de_bl))) dss_nil)
    (dss_cons (ds_if (dt_w (dw_or (dt_not (dt_of (db_de (de_isi (n := "tuple") rfl T.n_isinstance rfl T.n_tuple (by decide +kernel) (de_ixV 0 de_int))))) (dw_or1 (dt_ne (hu64 room) (de_len rfl T.n_len (db_de (de_ixV 0 de_int))) (de_var 2))))) (dss_one (ds_ret (dv_de de_bl))) dss_nil)
    (dss_one (ds_ret (dv_de (de_all rfl rfl T.n_all (db_dv (dv_lc [("row", 3)] rfl sc__law_is_years.nd (di_seq (de_ixV 0 de_int)) rfl (fun _ _ _ _ _ => (dg_name 3 sc__law_is_years.nd)) (fun _ _ _ _ _ => dcs_nil) (fun _ _ _ _ _ => (de_dv (dv_call (ok__law_are_amounts T) (room.mono (by decide)) gd rfl T.f__law_are_amounts.g T.f__law_are_amounts.F.kp T.f__law_are_amounts.b (da_cons (de_var 3) (da_cons (de_var 1) da_nil)) (lenCons (lenCons lenNil)))))))))))))))
theorem ok__law_led (T : Txt K mg) : FnG P w K mg base 5 T.f__law_led.f T.f__law_led.fd ["parts", "course"] (spP K 2 m__law_led) := by
  unfold m__law_led
  refine fnP_ok (b := b__law_led) (N := ["parts", "course", "book", "stocks", "hands", "wants", "found", "year", "plan", "here", "used", "made", "lack", "more", "good", "one", "less", "two", "method"]) (n := 2) T.f__law_led.F sc__law_led rfl ?_
  intro cd A outer st H room gd
  unfold b__law_led
  exact (dss_cons (ds_asg (de_var 0) (dg_tup 4 rfl (dgs_cons (dg_name 2 sc__law_led.nd) (dgs_cons (dg_name 3 sc__law_led.nd) (dgs_cons (dg_name 4 sc__law_led.nd) (dgs_cons (dg_name 5 sc__law_led.nd) dgs_nil))))))
    (dss_cons (ds_set 6 sc__law_led.nd (dv_lst (da_cons (de_var 3) da_nil) (lenCons lenNil)))
    (dss_cons (ds_for PassesOwn.never rfl (di_enum rfl T.n_enumerate (da_cons (de_var 1) da_nil)) (dg_tup 2 rfl (dgs_cons (dg_name 7 sc__law_led.nd) (dgs_cons (dg_name 8 sc__law_led.nd) dgs_nil))) (dss_wp [7, 8, 9, 10, 11, 12, 13, 14, 15, 16, 17, 18] (dss_cons (ds_asg (de_tup (da_cons (de_ixV 6 (de_neg de_int)) (da_cons (de_dv (dv_call (ok__law_used T) (room.mono (by decide)) gd rfl T.f__law_used.g T.f__law_used.F.kp T.f__law_used.b (da_cons (de_var 2) (da_cons (de_var 8) da_nil)) (lenCons (lenCons lenNil)))) (da_cons (de_dv (dv_call (ok__law_made T) (room.mono (by decide)) gd rfl T.f__law_made.g T.f__law_made.F.kp T.f__law_made.b (da_cons (de_var 2) (da_cons (de_var 8) da_nil)) (lenCons (lenCons lenNil)))) da_nil))) (lenCons (lenCons (lenCons lenNil)))) (dg_tup 3 rfl (dgs_cons (dg_name 9 sc__law_led.nd) (dgs_cons (dg_name 10 sc__law_led.nd) (dgs_cons (dg_name 11 sc__law_led.nd) dgs_nil)))))
    (dss_cons (ds_if (dt_of (db_dv (dv_call (ok__law_less T) (room.mono (by decide)) gd rfl T.f__law_less.g T.f__law_less.F.kp T.f__law_less.b (da_cons (de_ixV 4 (de_var 7)) (da_cons (de_dv (dv_call (ok__law_dot T) (room.mono (by decide)) gd rfl T.f__law_dot.g T.f__law_dot.F.kp T.f__law_dot.b (da_cons (de_dv (dv_lc [("method", 18)] rfl sc__law_led.nd (di_seq (de_ixV 2 de_int)) rfl (fun _ _ _ _ _ => (dg_name 18 sc__law_led.nd)) (fun _ _ _ _ _ => dcs_nil) (fun _ _ _ _ _ => (de_ixV 18 de_int)))) (da_cons (de_var 8) da_nil)) (lenCons (lenCons lenNil)))) da_nil)) (lenCons (lenCons lenNil))))) (dss_one (ds_ret (dv_de (de_tup (da_cons de_str (da_cons (de_var 7) da_nil)) (lenCons (lenCons lenNil)))))) dss_nil)
    (dss_cons (ds_setLc 12 [("good", 14)] rfl sc__law_led.nd (di_range1 rfl T.n_range (da_cons (de_ixV 2 de_int) da_nil)) rfl (fun _ _ _ _ _ => (dg_name 14 sc__law_led.nd)) (fun _ _ _ _ _ => (dcs_one (dt_of (db_dv (dv_call (ok__law_less T) (room.mono (by decide)) gd rfl T.f__law_less.g T.f__law_less.F.kp T.f__law_less.b (da_cons (de_ixV 9 (de_var 14)) (da_cons (de_ixV 10 (de_var 14)) da_nil)) (lenCons (lenCons lenNil))))))) (fun _ _ _ _ _ => (de_var 14)) (sw_true rfl rfl rfl rfl))
    (dss_cons (ds_if (dt_gt (de_len rfl T.n_len (db_var 12)) de_int) (dss_one (ds_ret (dv_de (de_tup (da_cons de_str (da_cons (de_var 7) (da_cons (de_ixV 12 de_int) da_nil))) (lenCons (lenCons (lenCons lenNil))))))) dss_nil)
    (dss_cons (ds_set 13 sc__law_led.nd (dv_lc [("one", 15), ("less", 16), ("two", 17)] rfl sc__law_led.nd (di_zipU3 rfl T.n_zip (da_cons (de_var 9) (da_cons (de_var 10) (da_cons (de_var 11) da_nil)))) rfl (fun _ _ _ _ _ => (dg_tup 3 rfl (dgs_cons (dg_name 15 sc__law_led.nd) (dgs_cons (dg_name 16 sc__law_led.nd) (dgs_cons (dg_name 17 sc__law_led.nd) dgs_nil))))) (fun _ _ _ _ _ => dcs_nil) (fun _ _ _ _ _ => (de_dv (dv_call (ok__law_add T) (room.mono (by decide)) gd rfl T.f__law_add.g T.f__law_add.F.kp T.f__law_add.b (da_cons (de_dv (dv_call (ok__law_sub T) (room.mono (by decide)) gd rfl T.f__law_sub.g T.f__law_sub.F.kp T.f__law_sub.b (da_cons (de_var 15) (da_cons (de_var 16) da_nil)) (lenCons (lenCons lenNil)))) (da_cons (de_var 17) da_nil)) (lenCons (lenCons lenNil)))))))
    (dss_cons (ds_setLc 12 [("good", 14)] rfl sc__law_led.nd (di_range1 rfl T.n_range (da_cons (de_ixV 2 de_int) da_nil)) rfl (fun _ _ _ _ _ => (dg_name 14 sc__law_led.nd)) (fun _ _ _ _ _ => (dcs_one (dt_of (db_dv (dv_call (ok__law_less T) (room.mono (by decide)) gd rfl T.f__law_less.g T.f__law_less.F.kp T.f__law_less.b (da_cons (de_ixV 13 (de_var 14)) (da_cons (de_ix (de_ixV 5 (de_var 7)) (de_var 14)) da_nil)) (lenCons (lenCons lenNil))))))) (fun _ _ _ _ _ => (de_var 14)) (sw_true rfl rfl rfl rfl))
    (dss_cons (ds_if (dt_gt (de_len rfl T.n_len (db_var 12)) de_int) (dss_one (ds_ret (dv_de (de_tup (da_cons de_str (da_cons (de_var 7) (da_cons (de_ixV 12 de_int) da_nil))) (lenCons (lenCons (lenCons lenNil))))))) dss_nil)
    (dss_one (ds_expr (de_append 6 (dv_de (de_tuple rfl T.n_tuple (db_dv (dv_lc [("one", 15), ("less", 16)] rfl sc__law_led.nd (di_zipU rfl T.n_zip (da_cons (de_var 13) (da_cons (de_ixV 5 (de_var 7)) da_nil))) rfl (fun _ _ _ _ _ => (dg_tup 2 rfl (dgs_cons (dg_name 15 sc__law_led.nd) (dgs_cons (dg_name 16 sc__law_led.nd) dgs_nil)))) (fun _ _ _ _ _ => dcs_nil) (fun _ _ _ _ _ => (de_dv (dv_call (ok__law_sub T) (room.mono (by decide)) gd rfl T.f__law_sub.g T.f__law_sub.F.kp T.f__law_sub.b (da_cons (de_var 15) (da_cons (de_var 16) da_nil)) (lenCons (lenCons lenNil)))))))))))))))))))))
    (dss_one (ds_retV 6)))))
theorem ok__law_fitted (T : Txt K mg) : FnG P w K mg base 5 T.f__law_fitted.f T.f__law_fitted.fd ["hand"] (spI K 1 m__law_fitted) := by
  unfold m__law_fitted
  refine fnI_ok (b := b__law_fitted) (N := ["hand", "book", "many", "course", "hands", "wants", "year", "good", "stocks", "here", "plan", "row", "less", "more", "one", "method"]) (n := 1) T.f__law_fitted.F sc__law_fitted rfl ?_
  intro cd A outer st H room gd
  unfold b__law_fitted
  exact (dss_cons (ds_par 1 2 rfl sc__law_fitted.nd (dv_callI 0 (ok__law_drawn_book T) (room.mono (by decide)) gd rfl T.f__law_drawn_book.g T.f__law_drawn_book.F.kp T.f__law_drawn_book.b (da_cons de_int (da_cons de_int da_nil)) (lenCons (lenCons lenNil))) (dv_de (de_addA de_int (de_dv (dv_callI 0 (ok__law_draw T) (room.mono (by decide)) gd rfl T.f__law_draw.g T.f__law_draw.F.kp T.f__law_draw.b (da_cons de_int da_nil) (lenCons lenNil))))))
    (dss_cons (ds_parN3 3 4 5 rfl sc__law_fitted.nd (dav_cons (dv_lst da_nil lenNil) (dav_cons (dv_lst da_nil lenNil) (dav_cons (dv_lst da_nil lenNil) dav_nil))))
    (dss_cons (ds_for PassesOwn.never rfl (di_range1 rfl T.n_range (da_cons (de_var 2) da_nil)) (dg_name 6 sc__law_fitted.nd) (dss_wp [6, 7, 15] (dss_cons (ds_expr (de_append 3 (dv_de (de_tuple rfl T.n_tuple (db_dv (dv_lc [("method", 15)] rfl sc__law_fitted.nd (di_seq (de_ixV 1 de_int)) rfl (fun _ _ _ _ _ => (dg_name 15 sc__law_fitted.nd)) (fun _ _ _ _ _ => dcs_nil) (fun _ _ _ _ _ => (de_dv (dv_callI 0 (ok__law_any T) (room.mono (by decide)) gd rfl T.f__law_any.g T.f__law_any.F.kp T.f__law_any.b (da_cons (de_dv (dv_lst (da_cons (de_tup (da_cons de_int (da_cons de_int da_nil)) (lenCons (lenCons lenNil))) (da_cons (de_dv (dv_callI 0 (ok__law_amount T) (room.mono (by decide)) gd rfl T.f__law_amount.g T.f__law_amount.F.kp T.f__law_amount.b da_nil lenNil)) da_nil)) (lenCons (lenCons lenNil)))) da_nil) (lenCons lenNil))))))))))
    (dss_cons (ds_expr (de_append 4 (dv_call (ok__law_dot T) (room.mono (by decide)) gd rfl T.f__law_dot.g T.f__law_dot.F.kp T.f__law_dot.b (da_cons (de_dv (dv_lc [("method", 15)] rfl sc__law_fitted.nd (di_seq (de_ixV 1 de_int)) rfl (fun _ _ _ _ _ => (dg_name 15 sc__law_fitted.nd)) (fun _ _ _ _ _ => dcs_nil) (fun _ _ _ _ _ => (de_ixV 15 de_int)))) (da_cons (de_ixV 3 (de_neg de_int)) da_nil)) (lenCons (lenCons lenNil)))))
    (dss_one (ds_expr (de_append 5 (dv_de (de_tuple rfl T.n_tuple (db_dv (dv_lc [("good", 7)] rfl sc__law_fitted.nd (di_range1 rfl T.n_range (da_cons (de_ixV 1 de_int) da_nil)) rfl (fun _ _ _ _ _ => (dg_name 7 sc__law_fitted.nd)) (fun _ _ _ _ _ => dcs_nil) (fun _ _ _ _ _ => (de_dv (dv_callI 0 (ok__law_any T) (room.mono (by decide)) gd rfl T.f__law_any.g T.f__law_any.F.kp T.f__law_any.b (da_cons (de_dv (dv_lst (da_cons (de_tup (da_cons de_int (da_cons de_int da_nil)) (lenCons (lenCons lenNil))) (da_cons (de_dv (dv_callI 0 (ok__law_amount T) (room.mono (by decide)) gd rfl T.f__law_amount.g T.f__law_amount.F.kp T.f__law_amount.b da_nil lenNil)) da_nil)) (lenCons (lenCons lenNil)))) da_nil) (lenCons lenNil)))))))))))))))
    (dss_cons (ds_par 8 9 rfl sc__law_fitted.nd (dv_rep (dv_lst (da_cons (de_tup (da_cons de_int (da_cons de_int da_nil)) (lenCons (lenCons lenNil))) da_nil) (lenCons lenNil)) (de_ixV 1 de_int)) (dv_rep (dv_lst (da_cons (de_tup (da_cons de_int (da_cons de_int da_nil)) (lenCons (lenCons lenNil))) da_nil) (lenCons lenNil)) (de_ixV 1 de_int)))
    (dss_cons (ds_for PassesOwn.never rfl (di_zipU rfl T.n_zip (da_cons (de_var 3) (da_cons (de_var 5) da_nil))) (dg_tup 2 rfl (dgs_cons (dg_name 10 sc__law_fitted.nd) (dgs_cons (dg_name 11 sc__law_fitted.nd) dgs_nil))) (dss_wp [7, 10, 11, 12, 13] (dss_one (ds_for PassesOwn.never rfl (di_enumZip rfl T.n_enumerate rfl T.n_zip (da_cons (de_dv (dv_call (ok__law_used T) (room.mono (by decide)) gd rfl T.f__law_used.g T.f__law_used.F.kp T.f__law_used.b (da_cons (de_var 1) (da_cons (de_var 10) da_nil)) (lenCons (lenCons lenNil)))) (da_cons (de_dv (dv_call (ok__law_made T) (room.mono (by decide)) gd rfl T.f__law_made.g T.f__law_made.F.kp T.f__law_made.b (da_cons (de_var 1) (da_cons (de_var 10) da_nil)) (lenCons (lenCons lenNil)))) da_nil))) (dg_tup 2 rfl (dgs_cons (dg_name 7 sc__law_fitted.nd) (dgs_cons (dg_tup 2 rfl (dgs_cons (dg_name 12 sc__law_fitted.nd) (dgs_cons (dg_name 13 sc__law_fitted.nd) dgs_nil))) dgs_nil))) (dss_wp [7, 12, 13] (dss_cons (ds_put 9 (dv_call (ok__law_sub T) (room.mono (by decide)) gd rfl T.f__law_sub.g T.f__law_sub.F.kp T.f__law_sub.b (da_cons (de_ixV 9 (de_var 7)) (da_cons (de_var 12) da_nil)) (lenCons (lenCons lenNil))) (de_var 7))
    (dss_cons (ds_put 8 (dv_de (de_if (dt_of (db_dv (dv_call (ok__law_less T) (room.mono (by decide)) gd rfl T.f__law_less.g T.f__law_less.F.kp T.f__law_less.b (da_cons (de_ixV 9 (de_var 7)) (da_cons (de_ixV 8 (de_var 7)) da_nil)) (lenCons (lenCons lenNil))))) (de_ixV 9 (de_var 7)) (de_ixV 8 (de_var 7)))) (de_var 7))
    (dss_cons (ds_put 9 (dv_call (ok__law_sub T) (room.mono (by decide)) gd rfl T.f__law_sub.g T.f__law_sub.F.kp T.f__law_sub.b (da_cons (de_dv (dv_call (ok__law_add T) (room.mono (by decide)) gd rfl T.f__law_add.g T.f__law_add.F.kp T.f__law_add.b (da_cons (de_ixV 9 (de_var 7)) (da_cons (de_var 13) da_nil)) (lenCons (lenCons lenNil)))) (da_cons (de_ixV 11 (de_var 7)) da_nil)) (lenCons (lenCons lenNil))) (de_var 7))
    (dss_one (ds_put 8 (dv_de (de_if (dt_of (db_dv (dv_call (ok__law_less T) (room.mono (by decide)) gd rfl T.f__law_less.g T.f__law_less.F.kp T.f__law_less.b (da_cons (de_ixV 9 (de_var 7)) (da_cons (de_ixV 8 (de_var 7)) da_nil)) (lenCons (lenCons lenNil))))) (de_ixV 9 (de_var 7)) (de_ixV 8 (de_var 7)))) (de_var 7)))))))))))
    (dss_cons (ds_set 8 sc__law_fitted.nd (dv_de (de_tuple rfl T.n_tuple (db_dv (dv_lcN 8 [("one", 14)] rfl sc__law_fitted.nd rfl (fun _ _ _ _ _ => (dg_name 14 sc__law_fitted.nd)) (fun _ _ _ _ _ => dcs_nil) (fun _ _ _ _ _ => (de_tup (da_cons (de_sub de_int (de_ixV 14 de_int)) (da_cons (de_ixV 14 de_int) da_nil)) (lenCons (lenCons lenNil)))))))))
    (dss_one (ds_ret (dv_de (de_tup (da_cons (de_tup (da_cons (de_var 1) (da_cons (de_var 8) (da_cons (de_tuple rfl T.n_tuple (db_var 4)) (da_cons (de_tuple rfl T.n_tuple (db_var 5)) da_nil)))) (lenCons (lenCons (lenCons (lenCons lenNil))))) (da_cons (de_tuple rfl T.n_tuple (db_var 3)) da_nil)) (lenCons (lenCons lenNil))))))))))))
theorem ok_is_book (T : Txt K mg) : FnG P w K mg base 6 T.f_is_book.f T.f_is_book.fd ["thing"] (spP K 1 m_is_book) := by
  unfold m_is_book
  refine fnP_ok (b := b_is_book) (N := ["thing", "method"]) (n := 1) T.f_is_book.F sc_is_book rfl ?_
  intro cd A outer st H room gd
  unfold b_is_book
  exact (dss_cons (ds_if (dt_w (dw_or (dt_not (dt_of (db_dv (dv_call (ok_is_sized T) (room.mono (by decide)) gd rfl T.f_is_sized.g T.f_is_sized.F.kp T.f_is_sized.b (da_cons (de_var 0) (da_cons de_int (da_cons de_int da_nil))) (lenCons (lenCons (lenCons lenNil))))))) (dw_or1 (dt_not (dt_of (db_dv (dv_call (ok_is_within T) (room.mono (by decide)) gd rfl T.f_is_within.g T.f_is_within.F.kp T.f_is_within.b (da_cons (de_ixV 0 de_int) (da_cons de_int (da_cons (de_glob rfl T.c_MOST_GOODS.1 T.c_MOST_GOODS.2.1 T.c_MOST_GOODS.2.2) da_nil))) (lenCons (lenCons (lenCons lenNil)))))))))) (dss_one (ds_ret (dv_de de_bl))) dss_nil)
    (dss_one (ds_ret (dv_de (de_and (de_dv (dv_call (ok_is_sized T) (room.mono (by decide)) gd rfl T.f_is_sized.g T.f_is_sized.F.kp T.f_is_sized.b (da_cons (de_ixV 0 de_int) (da_cons de_int (da_cons (de_glob rfl T.c_MOST_METHODS.1 T.c_MOST_METHODS.2.1 T.c_MOST_METHODS.2.2) da_nil))) (lenCons (lenCons (lenCons lenNil))))) (de_one (de_all rfl rfl T.n_all (db_dv (dv_lc [("method", 1)] rfl sc_is_book.nd (di_seq (de_ixV 0 de_int)) rfl (fun _ _ _ _ _ => (dg_name 1 sc_is_book.nd)) (fun _ _ _ _ _ => dcs_nil) (fun _ _ _ _ _ => (de_dv (dv_call (ok_is_method T) (room.mono (by decide)) gd rfl T.f_is_method.g T.f_is_method.F.kp T.f_is_method.b (da_cons (de_ixV 0 de_int) (da_cons (de_var 1) da_nil)) (lenCons (lenCons lenNil))))))))))))))
theorem ok_is_course (T : Txt K mg) : FnG P w K mg base 6 T.f_is_course.f T.f_is_course.fd ["years", "thing"] (spP K 2 m_is_course) := by
  unfold m_is_course
  refine fnP_ok (b := b_is_course) (N := ["years", "thing", "many", "plan"]) (n := 2) T.f_is_course.F sc_is_course rfl ?_
  intro cd A outer st H room gd
  unfold b_is_course
  exact (dss_cons (ds_set 2 sc_is_course.nd (dv_de (de_len rfl T.n_len (db_de (de_ixV 0 de_int)))))
    (dss_one (ds_ret (dv_de (de_and (de_dv (dv_call (ok_is_sized T) (room.mono (by decide)) gd rfl T.f_is_sized.g T.f_is_sized.F.kp T.f_is_sized.b (da_cons (de_var 1) (da_cons (de_var 2) (da_cons (de_var 2) da_nil))) (lenCons (lenCons (lenCons lenNil))))) (de_one (de_all rfl rfl T.n_all (db_dv (dv_lc [("plan", 3)] rfl sc_is_course.nd (di_seq (de_var 1)) rfl (fun _ _ _ _ _ => (dg_name 3 sc_is_course.nd)) (fun _ _ _ _ _ => dcs_nil) (fun _ _ _ _ _ => (de_dv (dv_call (ok_is_plan_of T) (room.mono (by decide)) gd rfl T.f_is_plan_of.g T.f_is_plan_of.F.kp T.f_is_plan_of.b (da_cons (de_ixV 0 de_int) (da_cons (de_var 3) da_nil)) (lenCons (lenCons lenNil))))))))))))))
theorem ok_raw_led (T : Txt K mg) : FnG P w K mg base 6 T.f_raw_led.f T.f_raw_led.fd ["years", "course"] (spP K 2 m_raw_led) := by
  unfold m_raw_led
  refine fnP_ok (b := b_raw_led) (N := ["years", "course", "book", "here", "found", "year", "plan", "left", "lacks", "one", "less", "good", "part", "more", "want"]) (n := 2) T.f_raw_led.F sc_raw_led rfl ?_
  intro cd A outer st H room gd
  unfold b_raw_led
  exact (dss_cons (ds_parN3 2 3 4 rfl sc_raw_led.nd (dav_cons (dv_de (de_ixV 0 de_int)) (dav_cons (dv_de (de_ixV 0 de_int)) (dav_cons (dv_lst (da_cons (de_ixV 0 de_int) da_nil) (lenCons lenNil)) dav_nil))))
    (dss_cons (ds_for PassesOwn.never rfl (di_enum rfl T.n_enumerate (da_cons (de_var 1) da_nil)) (dg_tup 2 rfl (dgs_cons (dg_name 5 sc_raw_led.nd) (dgs_cons (dg_name 6 sc_raw_led.nd) dgs_nil))) (dss_wp [5, 6, 7, 8, 9, 10, 11, 12, 13, 14] (dss_cons (ds_if (dt_of (db_dv (dv_call (ok_is_less T) (room.mono (by decide)) gd rfl T.f_is_less.g T.f_is_less.F.kp T.f_is_less.b (da_cons (de_ix (de_ixV 0 de_int) (de_var 5)) (da_cons (de_dv (dv_call (ok_work_in T) (room.mono (by decide)) gd rfl T.f_work_in.g T.f_work_in.F.kp T.f_work_in.b (da_cons (de_var 2) (da_cons (de_var 6) da_nil)) (lenCons (lenCons lenNil)))) da_nil)) (lenCons (lenCons lenNil))))) (dss_one (ds_ret (dv_de (de_tup (da_cons de_str (da_cons (de_var 5) da_nil)) (lenCons (lenCons lenNil)))))) dss_nil)
    (dss_cons (ds_setLc 7 [("one", 9), ("less", 10)] rfl sc_raw_led.nd (di_zipU rfl T.n_zip (da_cons (de_var 3) (da_cons (de_dv (dv_call (ok_used_by T) (room.mono (by decide)) gd rfl T.f_used_by.g T.f_used_by.F.kp T.f_used_by.b (da_cons (de_var 2) (da_cons (de_var 6) da_nil)) (lenCons (lenCons lenNil)))) da_nil))) rfl (fun _ _ _ _ _ => (dg_tup 2 rfl (dgs_cons (dg_name 9 sc_raw_led.nd) (dgs_cons (dg_name 10 sc_raw_led.nd) dgs_nil)))) (fun _ _ _ _ _ => dcs_nil) (fun _ _ _ _ _ => (de_dv (dv_call (ok_minus T) (room.mono (by decide)) gd rfl T.f_minus.g T.f_minus.F.kp T.f_minus.b (da_cons (de_var 9) (da_cons (de_var 10) da_nil)) (lenCons (lenCons lenNil))))) (sw_true rfl rfl rfl rfl))
    (dss_cons (ds_setLc 8 [("good", 11), ("part", 12)] rfl sc_raw_led.nd (di_enum rfl T.n_enumerate (da_cons (de_var 7) da_nil)) rfl (fun _ _ _ _ _ => (dg_tup 2 rfl (dgs_cons (dg_name 11 sc_raw_led.nd) (dgs_cons (dg_name 12 sc_raw_led.nd) dgs_nil)))) (fun _ _ _ _ _ => (dcs_one (dt_lt (de_ixV 12 de_int) de_int))) (fun _ _ _ _ _ => (de_var 11)) (sw_true rfl rfl rfl rfl))
    (dss_cons (ds_if (dt_of (db_var 8)) (dss_one (ds_ret (dv_de (de_tup (da_cons de_str (da_cons (de_var 5) (da_cons (de_ixV 8 de_int) da_nil))) (lenCons (lenCons (lenCons lenNil))))))) dss_nil)
    (dss_cons (ds_setLc 3 [("one", 9), ("more", 13), ("want", 14)] rfl sc_raw_led.nd (di_zipU3 rfl T.n_zip (da_cons (de_var 7) (da_cons (de_dv (dv_call (ok_made_by T) (room.mono (by decide)) gd rfl T.f_made_by.g T.f_made_by.F.kp T.f_made_by.b (da_cons (de_var 2) (da_cons (de_var 6) da_nil)) (lenCons (lenCons lenNil)))) (da_cons (de_ix (de_ixV 0 de_int) (de_var 5)) da_nil)))) rfl (fun _ _ _ _ _ => (dg_tup 3 rfl (dgs_cons (dg_name 9 sc_raw_led.nd) (dgs_cons (dg_name 13 sc_raw_led.nd) (dgs_cons (dg_name 14 sc_raw_led.nd) dgs_nil))))) (fun _ _ _ _ _ => dcs_nil) (fun _ _ _ _ _ => (de_dv (dv_call (ok_minus T) (room.mono (by decide)) gd rfl T.f_minus.g T.f_minus.F.kp T.f_minus.b (da_cons (de_dv (dv_call (ok_plus T) (room.mono (by decide)) gd rfl T.f_plus.g T.f_plus.F.kp T.f_plus.b (da_cons (de_var 9) (da_cons (de_var 13) da_nil)) (lenCons (lenCons lenNil)))) (da_cons (de_var 14) da_nil)) (lenCons (lenCons lenNil))))) (sw_true rfl rfl rfl rfl))
    (dss_cons (ds_setLc 8 [("good", 11), ("part", 12)] rfl sc_raw_led.nd (di_enum rfl T.n_enumerate (da_cons (de_var 3) da_nil)) rfl (fun _ _ _ _ _ => (dg_tup 2 rfl (dgs_cons (dg_name 11 sc_raw_led.nd) (dgs_cons (dg_name 12 sc_raw_led.nd) dgs_nil)))) (fun _ _ _ _ _ => (dcs_one (dt_lt (de_ixV 12 de_int) de_int))) (fun _ _ _ _ _ => (de_var 11)) (sw_true rfl rfl rfl rfl))
    (dss_cons (ds_if (dt_of (db_var 8)) (dss_one (ds_ret (dv_de (de_tup (da_cons de_str (da_cons (de_var 5) (da_cons (de_ixV 8 de_int) da_nil))) (lenCons (lenCons (lenCons lenNil))))))) dss_nil)
    (dss_one (ds_expr (de_append 4 (dv_de (de_tuple rfl T.n_tuple (db_var 3)))))))))))))))
    (dss_one (ds_retV 4))))
theorem ok__law_drawn_years (T : Txt K mg) : FnG P w K mg base 6 T.f__law_drawn_years.f T.f__law_drawn_years.fd ["hand"] (spI K 1 m__law_drawn_years) := by
  unfold m__law_drawn_years
  refine fnI_ok (b := b__law_drawn_years) (N := ["hand", "parts", "book", "stocks", "hands", "wants", "kind", "one", "row"]) (n := 1) T.f__law_drawn_years.F sc__law_drawn_years rfl ?_
  intro cd A outer st H room gd
  unfold b__law_drawn_years
  exact (dss_cons (ds_set 1 sc__law_drawn_years.nd (dv_de (de_ix (de_dv (dv_callI 0 (ok__law_fitted T) (room.mono (by decide)) gd rfl T.f__law_fitted.g T.f__law_fitted.F.kp T.f__law_fitted.b da_nil lenNil)) de_int)))
    (dss_cons (ds_asg (de_var 1) (dg_tup 4 rfl (dgs_cons (dg_name 2 sc__law_drawn_years.nd) (dgs_cons (dg_name 3 sc__law_drawn_years.nd) (dgs_cons (dg_name 4 sc__law_drawn_years.nd) (dgs_cons (dg_name 5 sc__law_drawn_years.nd) dgs_nil))))))
    (dss_cons (ds_set 6 sc__law_drawn_years.nd (dv_callI 0 (ok__law_draw T) (room.mono (by decide)) gd rfl T.f__law_draw.g T.f__law_draw.F.kp T.f__law_draw.b (da_cons de_int da_nil) (lenCons lenNil)))
    (dss_cons (ds_if (dt_eq (hu64 room) (de_var 6) de_int) (dss_one (ds_set 4 sc__law_drawn_years.nd (dv_de (de_tuple rfl T.n_tuple (db_dv (dv_lc [("one", 7)] rfl sc__law_drawn_years.nd (di_seq (de_var 4)) rfl (fun _ _ _ _ _ => (dg_name 7 sc__law_drawn_years.nd)) (fun _ _ _ _ _ => dcs_nil) (fun _ _ _ _ _ => (de_dv (dv_call (ok__law_mul T) (room.mono (by decide)) gd rfl T.f__law_mul.g T.f__law_mul.F.kp T.f__law_mul.b (da_cons (de_var 7) (da_cons (de_dv (dv_callI 0 (ok__law_any T) (room.mono (by decide)) gd rfl T.f__law_any.g T.f__law_any.F.kp T.f__law_any.b (da_cons (de_dv (dv_lst (da_cons (de_tup (da_cons de_int (da_cons de_int da_nil)) (lenCons (lenCons lenNil))) (da_cons (de_tup (da_cons de_int (da_cons de_int da_nil)) (lenCons (lenCons lenNil))) (da_cons (de_tup (da_cons de_int (da_cons de_int da_nil)) (lenCons (lenCons lenNil))) da_nil))) (lenCons (lenCons (lenCons lenNil))))) da_nil) (lenCons lenNil))) da_nil)) (lenCons (lenCons lenNil))))))))))) (dss_one (ds_if (dt_eq (hu64 room) (de_var 6) de_int) (dss_one (ds_set 3 sc__law_drawn_years.nd (dv_de (de_tuple rfl T.n_tuple (db_dv (dv_lc [("one", 7)] rfl sc__law_drawn_years.nd (di_seq (de_var 3)) rfl (fun _ _ _ _ _ => (dg_name 7 sc__law_drawn_years.nd)) (fun _ _ _ _ _ => dcs_nil) (fun _ _ _ _ _ => (de_dv (dv_call (ok__law_mul T) (room.mono (by decide)) gd rfl T.f__law_mul.g T.f__law_mul.F.kp T.f__law_mul.b (da_cons (de_var 7) (da_cons (de_dv (dv_callI 0 (ok__law_any T) (room.mono (by decide)) gd rfl T.f__law_any.g T.f__law_any.F.kp T.f__law_any.b (da_cons (de_dv (dv_lst (da_cons (de_tup (da_cons de_int (da_cons de_int da_nil)) (lenCons (lenCons lenNil))) (da_cons (de_tup (da_cons de_int (da_cons de_int da_nil)) (lenCons (lenCons lenNil))) (da_cons (de_tup (da_cons de_int (da_cons de_int da_nil)) (lenCons (lenCons lenNil))) da_nil))) (lenCons (lenCons (lenCons lenNil))))) da_nil) (lenCons lenNil))) da_nil)) (lenCons (lenCons lenNil))))))))))) (dss_one (ds_if (dt_eq (hu64 room) (de_var 6) de_int) (dss_one (ds_set 5 sc__law_drawn_years.nd (dv_de (de_tuple rfl T.n_tuple (db_dv (dv_lc [("row", 8)] rfl sc__law_drawn_years.nd (di_seq (de_var 5)) rfl (fun _ _ _ _ _ => (dg_name 8 sc__law_drawn_years.nd)) (fun _ _ _ _ _ => dcs_nil) (fun _ _ _ _ _ => (de_tuple rfl T.n_tuple (db_dv (dv_lc [("one", 7)] rfl sc__law_drawn_years.nd (di_seq (de_var 8)) rfl (fun _ _ _ _ _ => (dg_name 7 sc__law_drawn_years.nd)) (fun _ _ _ _ _ => dcs_nil) (fun _ _ _ _ _ => (de_dv (dv_call (ok__law_mul T) (room.mono (by decide)) gd rfl T.f__law_mul.g T.f__law_mul.F.kp T.f__law_mul.b (da_cons (de_var 7) (da_cons (de_dv (dv_callI 0 (ok__law_any T) (room.mono (by decide)) gd rfl T.f__law_any.g T.f__law_any.F.kp T.f__law_any.b (da_cons (de_dv (dv_lst (da_cons (de_tup (da_cons de_int (da_cons de_int da_nil)) (lenCons (lenCons lenNil))) (da_cons (de_tup (da_cons de_int (da_cons de_int da_nil)) (lenCons (lenCons lenNil))) da_nil)) (lenCons (lenCons lenNil)))) da_nil) (lenCons lenNil))) da_nil)) (lenCons (lenCons lenNil))))))))))))))) dss_nil)))))
    (dss_one (ds_ret (dv_de (de_tup (da_cons (de_var 2) (da_cons (de_var 3) (da_cons (de_var 4) (da_cons (de_var 5) da_nil)))) (lenCons (lenCons (lenCons (lenCons lenNil))))))))))))
theorem ok_is_years (T : Txt K mg) : FnG P w K mg base 7 T.f_is_years.f T.f_is_years.fd ["thing"] (spP K 1 m_is_years) := by
  unfold m_is_years
  refine fnP_ok (b := b_is_years) (N := ["thing", "many", "wants"]) (n := 1) T.f_is_years.F sc_is_years rfl ?_
  intro cd A outer st H room gd
  unfold b_is_years
  exact (dss_cons (ds_if (dt_w (dw_or (dt_not (dt_of (db_dv (dv_call (ok_is_sized T) (room.mono (by decide)) gd rfl T.f_is_sized.g T.f_is_sized.F.kp T.f_is_sized.b (da_cons (de_var 0) (da_cons de_int (da_cons de_int da_nil))) (lenCons (lenCons (lenCons lenNil))))))) (dw_or (dt_not (dt_of (db_dv (dv_call (ok_is_book T) (room.mono (by decide)) gd rfl T.f_is_book.g T.f_is_book.F.kp T.f_is_book.b (da_cons (de_ixV 0 de_int) da_nil) (lenCons lenNil))))) (dw_or1 (dt_not (dt_of (db_dv (dv_call (ok_are_amounts T) (room.mono (by decide)) gd rfl T.f_are_amounts.g T.f_are_amounts.F.kp T.f_are_amounts.b (da_cons (de_ixV 0 de_int) (da_cons (de_ix (de_ixV 0 de_int) de_int) da_nil)) (lenCons (lenCons lenNil)))))))))) (dss_one (ds_ret (dv_de de_bl))) dss_nil)
    (dss_cons (ds_if (dt_w (dw_or (dt_not (dt_of (db_dv (dv_call (ok_is_sized T) (room.mono (by decide)) gd rfl T.f_is_sized.g T.f_is_sized.F.kp T.f_is_sized.b (da_cons (de_ixV 0 de_int) (da_cons de_int (da_cons (de_glob rfl T.c_MOST_YEARS.1 T.c_MOST_YEARS.2.1 T.c_MOST_YEARS.2.2) da_nil))) (lenCons (lenCons (lenCons lenNil))))))) (dw_or1 (dt_not (dt_of (db_dv (dv_call (ok_are_amounts T) (room.mono (by decide)) gd rfl T.f_are_amounts.g T.f_are_amounts.F.kp T.f_are_amounts.b (da_cons (de_ixV 0 de_int) (da_cons (de_len rfl T.n_len (db_de (de_ixV 0 de_int))) da_nil)) (lenCons (lenCons lenNil))))))))) (dss_one (ds_ret (dv_de de_bl))) dss_nil)
    (dss_cons (ds_set 1 sc_is_years.nd (dv_de (de_len rfl T.n_len (db_de (de_ixV 0 de_int)))))
    (dss_one (ds_ret (dv_de (de_and (de_dv (dv_call (ok_is_sized T) (room.mono (by decide)) gd rfl T.f_is_sized.g T.f_is_sized.F.kp T.f_is_sized.b (da_cons (de_ixV 0 de_int) (da_cons (de_var 1) (da_cons (de_var 1) da_nil))) (lenCons (lenCons (lenCons lenNil))))) (de_one (de_all rfl rfl T.n_all (db_dv (dv_lc [("wants", 2)] rfl sc_is_years.nd (di_seq (de_ixV 0 de_int)) rfl (fun _ _ _ _ _ => (dg_name 2 sc_is_years.nd)) (fun _ _ _ _ _ => dcs_nil) (fun _ _ _ _ _ => (de_dv (dv_call (ok_are_amounts T) (room.mono (by decide)) gd rfl T.f_are_amounts.g T.f_are_amounts.F.kp T.f_are_amounts.b (da_cons (de_var 2) (da_cons (de_ix (de_ixV 0 de_int) de_int) da_nil)) (lenCons (lenCons lenNil))))))))))))))))
theorem okx_check_years (T : Txt K mg) : FnX P w K mg base 8 T.f_check_years.f T.f_check_years.fd ["thing"] 1 x_check_years := by
  refine fnX_ok (fx := xb_check_years) (N := ["thing"]) (n := 1) T.f_check_years.F sc_check_years rfl ?_
  intro cd A outer st H E room gd
  unfold xb_check_years
  exact (xss_one (xs_if (dt_not (dt_of (db_dv (dv_call (ok_is_years T) (room.mono (by decide)) gd rfl T.f_is_years.g T.f_is_years.F.kp T.f_is_years.b (da_cons (de_var 0) da_nil) (lenCons lenNil))))) (xss_one (xs_raise T.E_NoYears rfl rfl)) xss_no))
theorem ok_check_years (T : Txt K mg) : FnG P w K mg base 8 T.f_check_years.f T.f_check_years.fd ["thing"] (spP K 1 m_check_years) := by
  unfold m_check_years
  refine fnP_ok (b := b_check_years) (N := ["thing"]) (n := 1) T.f_check_years.F sc_check_years rfl ?_
  intro cd A outer st H room gd
  unfold b_check_years
  exact (dss_one (ds_if (dt_not (dt_of (db_dv (dv_call (ok_is_years T) (room.mono (by decide)) gd rfl T.f_is_years.g T.f_is_years.F.kp T.f_is_years.b (da_cons (de_var 0) da_nil) (lenCons lenNil))))) (dss_one ds_no) dss_nil))
theorem okx_course_led (T : Txt K mg) : FnX P w K mg base 9 T.f_course_led.f T.f_course_led.fd ["years", "course"] 2 x_course_led := by
  refine fnX_ok (fx := xb_course_led) (N := ["years", "course"]) (n := 2) T.f_course_led.F sc_course_led rfl ?_
  intro cd A outer st H E room gd
  unfold xb_course_led
  exact (xss_cons (ds_expr (de_dv (dv_call (ok_check_years T) (room.mono (by decide)) gd rfl T.f_check_years.g T.f_check_years.F.kp T.f_check_years.b (da_cons (de_var 0) da_nil) (lenCons lenNil)))) (xs_expr (xe_call (okx_check_years T) (room.mono (by decide)) gd rfl T.f_check_years.g T.f_check_years.F.kp T.f_check_years.b (da_cons (de_var 0) da_nil) (lenCons lenNil)))
    (xss_cons (ds_if (dt_not (dt_of (db_dv (dv_call (ok_is_course T) (room.mono (by decide)) gd rfl T.f_is_course.g T.f_is_course.F.kp T.f_is_course.b (da_cons (de_var 0) (da_cons (de_var 1) da_nil)) (lenCons (lenCons lenNil)))))) (dss_one ds_no) dss_nil) (xs_if (dt_not (dt_of (db_dv (dv_call (ok_is_course T) (room.mono (by decide)) gd rfl T.f_is_course.g T.f_is_course.F.kp T.f_is_course.b (da_cons (de_var 0) (da_cons (de_var 1) da_nil)) (lenCons (lenCons lenNil)))))) (xss_one (xs_raise T.E_NoCourse rfl rfl)) xss_no)
    xss_no))
theorem ok_course_led (T : Txt K mg) : FnG P w K mg base 9 T.f_course_led.f T.f_course_led.fd ["years", "course"] (spP K 2 m_course_led) := by
  unfold m_course_led
  refine fnP_ok (b := b_course_led) (N := ["years", "course"]) (n := 2) T.f_course_led.F sc_course_led rfl ?_
  intro cd A outer st H room gd
  unfold b_course_led
  exact (dss_cons (ds_expr (de_dv (dv_call (ok_check_years T) (room.mono (by decide)) gd rfl T.f_check_years.g T.f_check_years.F.kp T.f_check_years.b (da_cons (de_var 0) da_nil) (lenCons lenNil))))
    (dss_cons (ds_if (dt_not (dt_of (db_dv (dv_call (ok_is_course T) (room.mono (by decide)) gd rfl T.f_is_course.g T.f_is_course.F.kp T.f_is_course.b (da_cons (de_var 0) (da_cons (de_var 1) da_nil)) (lenCons (lenCons lenNil)))))) (dss_one ds_no) dss_nil)
    (dss_one (ds_ret (dv_call (ok_raw_led T) (room.mono (by decide)) gd rfl T.f_raw_led.g T.f_raw_led.F.kp T.f_raw_led.b (da_cons (de_var 0) (da_cons (de_var 1) da_nil)) (lenCons (lenCons lenNil)))))))
theorem ok__law_word (T : Txt K mg) : FnG P w K mg base 10 T.f__law_word.f T.f__law_word.fd ["parts", "course"] (spP K 2 m__law_word) := by
  unfold m__law_word
  refine fnP_ok (b := b__law_word) (N := ["parts", "course", "found", "e", "flags"]) (n := 2) T.f__law_word.F sc__law_word rfl ?_
  intro cd A outer st H room gd
  unfold b__law_word
  exact (dss_cons (ds_set 2 sc__law_word.nd (dv_de de_str))
    (dss_cons (ds_tryL 3 [("NoCourse", fun ea => (sSeq (sSet 4 (vLst (aCons (eIsE 3 ea false) (aCons (eIsE 3 ea true) aNil))))
    (sSeq (sSet 2 (vE (eC (.str (Str.ofString "other")))))
    (sIf (tAndT (tOf (eBin eqD (eBin cntBD (eVar 4) (eC (.bool true))) (eC (.int 1)))) (tOf (eIsE 3 ea true))) (sSet 2 (vE (eBin atD (eV (vLst (aCons (eC (.str (Str.ofString "years"))) (aCons (eC (.str (Str.ofString "course"))) aNil)))) (eBin idxBD (eVar 4) (eC (.bool true)))))) sNil)))),
      ("NoYears", fun ea => (sSeq (sSet 4 (vLst (aCons (eIsE 3 ea true) (aCons (eIsE 3 ea false) aNil))))
    (sSeq (sSet 2 (vE (eC (.str (Str.ofString "other")))))
    (sIf (tAndT (tOf (eBin eqD (eBin cntBD (eVar 4) (eC (.bool true))) (eC (.int 1)))) (tOf (eIsE 3 ea true))) (sSet 2 (vE (eBin atD (eV (vLst (aCons (eC (.str (Str.ofString "years"))) (aCons (eC (.str (Str.ofString "course"))) aNil)))) (eBin idxBD (eVar 4) (eC (.bool true)))))) sNil))))] rfl rfl sc__law_word.nd rfl ⟨rfl, by decide, .inl T.E_GoodsError.g⟩ ⟨⟨_, T.E_NoCourse.g, T.M_NoCourse_GoodsError⟩, ⟨_, T.E_NoYears.g, T.M_NoYears_GoodsError⟩, trivial⟩ (fun _ _ => (dss_one (ds_expr (de_dv (dv_call (ok_course_led T) (room.mono (by decide)) gd rfl T.f_course_led.g T.f_course_led.F.kp T.f_course_led.b (da_cons (de_var 0) (da_cons (de_var 1) da_nil)) (lenCons (lenCons lenNil))))))) (fun _ _ => (xss_one (xs_expr (xe_call (okx_course_led T) (room.mono (by decide)) gd rfl T.f_course_led.g T.f_course_led.F.kp T.f_course_led.b (da_cons (de_var 0) (da_cons (de_var 1) da_nil)) (lenCons (lenCons lenNil)))))) (fun ea oe _ hv => ⟨⟨_, T.E_NoCourse.g, fun hz => (dss_cons (ds_set 4 sc__law_word.nd (dv_lst (da_cons (de_isE T.EC_NoCourse hz hv rfl T.n_isinstance rfl T.E_NoYears.g T.I_NoCourse_NoYears) (da_cons (de_isE T.EC_NoCourse hz hv rfl T.n_isinstance rfl T.E_NoCourse.g T.I_NoCourse_NoCourse) da_nil)) (lenCons (lenCons lenNil))))
    (dss_cons (ds_set 2 sc__law_word.nd (dv_de de_str))
    (dss_one (ds_if (dt_w (dw_and (dt_eq (hu64S room (some (.ref ea))) (de_countB (de_var 4) de_bl) de_int) (dw_and1 (dt_of (db_de (de_isEB T.EC_NoCourse hz hv rfl T.n_isinstance rfl T.n_ValueError rfl T.J_NoCourse_ValueError)))))) (dss_one (ds_set 2 sc__law_word.nd (dv_de (de_ix (de_dv (dv_lst (da_cons de_str (da_cons de_str da_nil)) (lenCons (lenCons lenNil)))) (de_indexB (de_var 4) de_bl))))) dss_nil))))⟩, ⟨_, T.E_NoYears.g, fun hz => (dss_cons (ds_set 4 sc__law_word.nd (dv_lst (da_cons (de_isE T.EC_NoYears hz hv rfl T.n_isinstance rfl T.E_NoYears.g T.I_NoYears_NoYears) (da_cons (de_isE T.EC_NoYears hz hv rfl T.n_isinstance rfl T.E_NoCourse.g T.I_NoYears_NoCourse) da_nil)) (lenCons (lenCons lenNil))))
    (dss_cons (ds_set 2 sc__law_word.nd (dv_de de_str))
    (dss_one (ds_if (dt_w (dw_and (dt_eq (hu64S room (some (.ref ea))) (de_countB (de_var 4) de_bl) de_int) (dw_and1 (dt_of (db_de (de_isEB T.EC_NoYears hz hv rfl T.n_isinstance rfl T.n_ValueError rfl T.J_NoYears_ValueError)))))) (dss_one (ds_set 2 sc__law_word.nd (dv_de (de_ix (de_dv (dv_lst (da_cons de_str (da_cons de_str da_nil)) (lenCons (lenCons lenNil)))) (de_indexB (de_var 4) de_bl))))) dss_nil))))⟩, trivial⟩))
    (dss_one (ds_retV 2))))
theorem okr__law_bent (T : Txt K mg) : ∀ n : Nat, FnG P w K mg base (2 + n) T.f__law_bent.f T.f__law_bent.fd ["hand", "thing", "deep"] (spI K 3 (mr__law_bent n))
  | 0 => FnG.noneI rfl
  | k + 1 => by
    have ih := okr__law_bent T k
    refine fnI_ok (b := b__law_bent (mr__law_bent k)) (N := ["hand", "thing", "deep", "at", "some"]) (n := 3) T.f__law_bent.F sc__law_bent rfl ?_
    intro cd A outer st H room gd
    unfold b__law_bent
    exact (dss_cons (ds_if (dt_w (dw_and (dt_of (db_de (de_isi (n := "tuple") rfl T.n_isinstance rfl T.n_tuple (by decide +kernel) (de_var 1)))) (dw_and (dt_gt (de_len rfl T.n_len (db_var 1)) de_int) (dw_and (dt_gt (de_var 2) de_int) (dw_and1 (dt_gt (de_dv (dv_callI 0 (ok__law_draw T) (room.mono (Nat.le_trans (by decide) (Nat.le_add_right 2 _))) gd rfl T.f__law_draw.g T.f__law_draw.F.kp T.f__law_draw.b (da_cons de_int da_nil) (lenCons lenNil))) de_int)))))) (dss_cons (ds_set 3 sc__law_bent.nd (dv_callI 0 (ok__law_draw T) (room.mono (Nat.le_trans (by decide) (Nat.le_add_right 2 _))) gd rfl T.f__law_draw.g T.f__law_draw.F.kp T.f__law_draw.b (da_cons (de_len rfl T.n_len (db_var 1)) da_nil) (lenCons lenNil)))
    (dss_one (ds_ret (dv_de (de_addA (de_addA (de_sl (de_var 1) do_none (do_some (de_var 3))) (de_tup (da_cons (de_dv (dv_callI 0 ih (room.mono (Nat.le_refl _)) gd rfl T.f__law_bent.g T.f__law_bent.F.kp T.f__law_bent.b (da_cons (de_ixV 1 (de_var 3)) (da_cons (de_sub (de_var 2) de_int) da_nil)) (lenCons (lenCons lenNil)))) da_nil) (lenCons lenNil))) (de_sl (de_var 1) (do_some (de_addA (de_var 3) de_int)) do_none)))))) dss_nil)
    (dss_cons (ds_if (dt_w (dw_and (dt_of (db_de (de_isi (n := "tuple") rfl T.n_isinstance rfl T.n_tuple (by decide +kernel) (de_var 1)))) (dw_and1 (dt_eq (hu64 room) (de_dv (dv_callI 0 (ok__law_draw T) (room.mono (Nat.le_trans (by decide) (Nat.le_add_right 2 _))) gd rfl T.f__law_draw.g T.f__law_draw.F.kp T.f__law_draw.b (da_cons de_int da_nil) (lenCons lenNil))) de_int)))) (dss_cons (ds_set 3 sc__law_bent.nd (dv_callI 0 (ok__law_draw T) (room.mono (Nat.le_trans (by decide) (Nat.le_add_right 2 _))) gd rfl T.f__law_draw.g T.f__law_draw.F.kp T.f__law_draw.b (da_cons (de_addA (de_len rfl T.n_len (db_var 1)) de_int) da_nil) (lenCons lenNil)))
    (dss_cons (ds_set 4 sc__law_bent.nd (dv_lst (da_cons (de_dv (dv_list rfl T.n_list (db_var 1))) (da_cons (de_addA (de_sl (de_var 1) do_none (do_some (de_var 3))) (de_sl (de_var 1) (do_some (de_addA (de_var 3) de_int)) do_none)) (da_cons (de_addA (de_var 1) (de_sl (de_var 1) do_none (do_some de_int))) (da_cons (de_repT (de_var 1) de_int) (da_cons (de_tup da_nil lenNil) (da_cons (de_rev (de_var 1)) da_nil)))))) (lenCons (lenCons (lenCons (lenCons (lenCons (lenCons lenNil))))))))
    (dss_one (ds_ret (dv_callI 0 (ok__law_any T) (room.mono (Nat.le_trans (by decide) (Nat.le_add_right 2 _))) gd rfl T.f__law_any.g T.f__law_any.F.kp T.f__law_any.b (da_cons (de_var 4) da_nil) (lenCons lenNil)))))) dss_nil)
    (dss_cons (ds_if (dt_of (db_dv (dv_call (ok__law_is_whole T) (room.mono (Nat.le_trans (by decide) (Nat.le_add_right 2 _))) gd rfl T.f__law_is_whole.g T.f__law_is_whole.F.kp T.f__law_is_whole.b (da_cons (de_var 1) da_nil) (lenCons lenNil)))) (dss_one (ds_ret (dv_callI 0 (ok__law_any T) (room.mono (Nat.le_trans (by decide) (Nat.le_add_right 2 _))) gd rfl T.f__law_any.g T.f__law_any.F.kp T.f__law_any.b (da_cons (de_dv (dv_lst (da_cons (de_addA (de_var 1) de_int) (da_cons (de_sub (de_var 1) de_int) (da_cons (de_sub de_int (de_var 1)) (da_cons (de_mul de_int (de_var 1)) (da_cons (de_bool1 rfl T.n_bool (db_var 1)) (da_cons (de_str1 rfl T.n_str (db_var 1)) (da_cons de_int (da_cons (de_tup (da_cons (de_var 1) (da_cons de_int da_nil)) (lenCons (lenCons lenNil))) da_nil)))))))) (lenCons (lenCons (lenCons (lenCons (lenCons (lenCons (lenCons (lenCons lenNil)))))))))) da_nil) (lenCons lenNil)))) dss_nil)
    (dss_one (ds_ret (dv_callI 0 (ok__law_any T) (room.mono (Nat.le_trans (by decide) (Nat.le_add_right 2 _))) gd rfl T.f__law_any.g T.f__law_any.F.kp T.f__law_any.b (da_cons (de_dv (dv_lst (da_cons de_non (da_cons (de_tup da_nil lenNil) (da_cons (de_tup (da_cons de_int (da_cons de_int da_nil)) (lenCons (lenCons lenNil))) (da_cons (de_tup (da_cons de_int (da_cons de_int da_nil)) (lenCons (lenCons lenNil))) (da_cons (de_tup (da_cons de_int (da_cons de_int da_nil)) (lenCons (lenCons lenNil))) (da_cons (de_tup (da_cons (de_neg de_int) (da_cons de_int da_nil)) (lenCons (lenCons lenNil))) (da_cons de_str (da_cons de_dict0 (da_cons de_int (da_cons de_bl (da_cons (de_dv (dv_lst (da_cons (de_dv (dv_lst (da_cons (de_dv (dv_lst (da_cons (de_dv (dv_lst da_nil lenNil)) da_nil) (lenCons lenNil))) da_nil) (lenCons lenNil))) da_nil) (lenCons lenNil))) da_nil))))))))))) (lenCons (lenCons (lenCons (lenCons (lenCons (lenCons (lenCons (lenCons (lenCons (lenCons (lenCons lenNil))))))))))))) da_nil) (lenCons lenNil)))))))
theorem ok__law_bent (T : Txt K mg) : FnG P w K mg base 10 T.f__law_bent.f T.f__law_bent.fd ["hand", "thing", "deep"] (spI K 3 m__law_bent) := by
  unfold m__law_bent
  exact okr__law_bent T 8
theorem ok__law_is_led (T : Txt K mg) : FnG P w K mg base 10 T.f__law_is_led.f T.f__law_is_led.fd ["parts", "course"] (spP K 2 m__law_is_led) := by
  unfold m__law_is_led
  refine fnP_ok (b := b__law_is_led) (N := ["parts", "course", "before", "due"]) (n := 2) T.f__law_is_led.F sc__law_is_led rfl ?_
  intro cd A outer st H room gd
  unfold b__law_is_led
  exact (dss_cons (ds_par 2 3 rfl sc__law_is_led.nd (dv_de (de_repr gd (hu64 room) rfl T.n_repr (db_de (de_tup (da_cons (de_var 0) (da_cons (de_var 1) da_nil)) (lenCons (lenCons lenNil)))))) (dv_call (ok__law_led T) (room.mono (by decide)) gd rfl T.f__law_led.g T.f__law_led.F.kp T.f__law_led.b (da_cons (de_var 0) (da_cons (de_var 1) da_nil)) (lenCons (lenCons lenNil))))
    (dss_one (ds_ret (dv_de (de_and (de_eq (hu64 room) (de_repr gd (hu64 room) rfl T.n_repr (db_dv (dv_call (ok_course_led T) (room.mono (by decide)) gd rfl T.f_course_led.g T.f_course_led.F.kp T.f_course_led.b (da_cons (de_var 0) (da_cons (de_var 1) da_nil)) (lenCons (lenCons lenNil))))) (de_repr gd (hu64 room) rfl T.n_repr (db_var 3))) (de_one (de_eq (hu64 room) (de_repr gd (hu64 room) rfl T.n_repr (db_de (de_tup (da_cons (de_var 0) (da_cons (de_var 1) da_nil)) (lenCons (lenCons lenNil))))) (de_var 2))))))))
theorem ok_law (T : Txt K mg) : FnG P w K mg base 11 T.f_law.f T.f_law.fd ["script"] (spP K 1 m_law) := by
  unfold m_law
  refine fnP_ok (b := b_law) (N := ["script", "hand", "turn", "parts", "course", "other", "one", "again", "bent", "wrong", "due", "year"]) (n := 1) T.f_law.F sc_law rfl ?_
  intro cd A outer st H room gd
  unfold b_law
  exact (dss_cons (ds_set 1 sc_law.nd (dv_call (ok__law_hand T) (room.mono (by decide)) gd rfl T.f__law_hand.g T.f__law_hand.F.kp T.f__law_hand.b (da_cons (de_var 0) da_nil) (lenCons lenNil)))
    (dss_cons (ds_for PassesOwn.never rfl (di_range1 rfl T.n_range (da_cons de_int da_nil)) (dg_name 2 sc_law.nd) (dss_wp [2, 3, 4, 5, 6, 7, 8, 9, 10, 11] (dss_cons (ds_asg (de_dv (dv_callI 1 (ok__law_fitted T) (room.mono (by decide)) gd rfl T.f__law_fitted.g T.f__law_fitted.F.kp T.f__law_fitted.b da_nil lenNil)) (dg_tup 2 rfl (dgs_cons (dg_name 3 sc_law.nd) (dgs_cons (dg_name 4 sc_law.nd) dgs_nil))))
    (dss_cons (ds_if (dt_w (dw_or (dt_notBl (de_dv (dv_call (ok_is_years T) (room.mono (by decide)) gd rfl T.f_is_years.g T.f_is_years.F.kp T.f_is_years.b (da_cons (de_var 3) da_nil) (lenCons lenNil))) de_bl) (dw_or1 (dt_not (dt_of (db_de (de_isi (n := "list") rfl T.n_isinstance rfl T.n_list (by decide +kernel) (de_dv (dv_call (ok_course_led T) (room.mono (by decide)) gd rfl T.f_course_led.g T.f_course_led.F.kp T.f_course_led.b (da_cons (de_var 3) (da_cons (de_var 4) da_nil)) (lenCons (lenCons lenNil))))))))))) (dss_one (ds_ret (dv_de de_bl))) dss_nil)
    (dss_cons (ds_set 5 sc_law.nd (dv_callI 1 (ok__law_drawn_years T) (room.mono (by decide)) gd rfl T.f__law_drawn_years.g T.f__law_drawn_years.F.kp T.f__law_drawn_years.b da_nil lenNil))
    (dss_cons (ds_for PassesOwn.never rfl (di_seq (de_dv (dv_catE (de_dv (dv_lst (da_cons (de_var 4) da_nil) (lenCons lenNil))) (de_dv (dv_callI 1 (ok__law_other_courses T) (room.mono (by decide)) gd rfl T.f__law_other_courses.g T.f__law_other_courses.F.kp T.f__law_other_courses.b (da_cons (de_var 3) (da_cons (de_var 4) da_nil)) (lenCons (lenCons lenNil))))))) (dg_name 6 sc_law.nd) (dss_wp [6] (dss_one (ds_if (dt_not (dt_of (db_dv (dv_call (ok__law_is_led T) (room.mono (by decide)) gd rfl T.f__law_is_led.g T.f__law_is_led.F.kp T.f__law_is_led.b (da_cons (de_var 3) (da_cons (de_var 6) da_nil)) (lenCons (lenCons lenNil)))))) (dss_one (ds_ret (dv_de de_bl))) dss_nil))))
    (dss_cons (ds_for PassesOwn.never rfl (di_seq (de_dv (dv_callI 1 (ok__law_other_courses T) (room.mono (by decide)) gd rfl T.f__law_other_courses.g T.f__law_other_courses.F.kp T.f__law_other_courses.b (da_cons (de_var 5) (da_cons (de_tuple rfl T.n_tuple (db_dv (dv_lc [("year", 11)] rfl sc_law.nd (di_seq (de_ixV 5 de_int)) rfl (fun _ _ _ _ _ => (dg_name 11 sc_law.nd)) (fun _ _ _ _ _ => dcs_nil) (fun _ _ _ _ _ => (de_repT (de_tup (da_cons (de_tup (da_cons de_int (da_cons de_int da_nil)) (lenCons (lenCons lenNil))) da_nil) (lenCons lenNil)) (de_len rfl T.n_len (db_de (de_ix (de_ixV 5 de_int) de_int)))))))) da_nil)) (lenCons (lenCons lenNil))))) (dg_name 6 sc_law.nd) (dss_wp [6] (dss_one (ds_if (dt_not (dt_of (db_dv (dv_call (ok__law_is_led T) (room.mono (by decide)) gd rfl T.f__law_is_led.g T.f__law_is_led.F.kp T.f__law_is_led.b (da_cons (de_var 5) (da_cons (de_var 6) da_nil)) (lenCons (lenCons lenNil)))))) (dss_one (ds_ret (dv_de de_bl))) dss_nil))))
    (dss_one (ds_for PassesOwn.never rfl (di_range1 rfl T.n_range (da_cons de_int da_nil)) (dg_name 7 sc_law.nd) (dss_wp [7, 8, 9, 10] (dss_cons (ds_par 8 9 rfl sc_law.nd (dv_callI 1 (ok__law_bent T) (room.mono (by decide)) gd rfl T.f__law_bent.g T.f__law_bent.F.kp T.f__law_bent.b (da_cons (de_var 3) (da_cons de_int da_nil)) (lenCons (lenCons lenNil))) (dv_callI 1 (ok__law_bent T) (room.mono (by decide)) gd rfl T.f__law_bent.g T.f__law_bent.F.kp T.f__law_bent.b (da_cons (de_var 4) (da_cons de_int da_nil)) (lenCons (lenCons lenNil))))
    (dss_cons (ds_if (dt_ne (hu64 room) (de_repr gd (hu64 room) rfl T.n_repr (db_dv (dv_call (ok_is_years T) (room.mono (by decide)) gd rfl T.f_is_years.g T.f_is_years.F.kp T.f_is_years.b (da_cons (de_var 8) da_nil) (lenCons lenNil)))) (de_repr gd (hu64 room) rfl T.n_repr (db_dv (dv_call (ok__law_is_years T) (room.mono (by decide)) gd rfl T.f__law_is_years.g T.f__law_is_years.F.kp T.f__law_is_years.b (da_cons (de_var 8) da_nil) (lenCons lenNil))))) (dss_one (ds_ret (dv_de de_bl))) dss_nil)
    (dss_cons (ds_set 10 sc_law.nd (dv_de (de_if (dt_not (dt_of (db_dv (dv_call (ok__law_is_years T) (room.mono (by decide)) gd rfl T.f__law_is_years.g T.f__law_is_years.F.kp T.f__law_is_years.b (da_cons (de_var 8) da_nil) (lenCons lenNil))))) de_str (de_if (dt_of (db_dv (dv_call (ok__law_is_course T) (room.mono (by decide)) gd rfl T.f__law_is_course.g T.f__law_is_course.F.kp T.f__law_is_course.b (da_cons (de_var 8) (da_cons (de_var 9) da_nil)) (lenCons (lenCons lenNil))))) de_str de_str))))
    (dss_cons (ds_if (dt_ne (hu64 room) (de_dv (dv_call (ok__law_word T) (room.mono (by decide)) gd rfl T.f__law_word.g T.f__law_word.F.kp T.f__law_word.b (da_cons (de_var 8) (da_cons (de_var 9) da_nil)) (lenCons (lenCons lenNil)))) (de_var 10)) (dss_one (ds_ret (dv_de de_bl))) dss_nil)
    (dss_one (ds_if (dt_ne (hu64 room) (de_dv (dv_call (ok__law_word T) (room.mono (by decide)) gd rfl T.f__law_word.g T.f__law_word.F.kp T.f__law_word.b (da_cons (de_var 3) (da_cons (de_var 9) da_nil)) (lenCons (lenCons lenNil)))) (de_if (dt_of (db_dv (dv_call (ok__law_is_course T) (room.mono (by decide)) gd rfl T.f__law_is_course.g T.f__law_is_course.F.kp T.f__law_is_course.b (da_cons (de_var 3) (da_cons (de_var 9) da_nil)) (lenCons (lenCons lenNil))))) de_str de_str)) (dss_one (ds_ret (dv_de de_bl))) dss_nil))))))))))))))))
    (dss_one (ds_ret (dv_de de_bl)))))
end
end K80
set_option Elab.async false
set_option linter.all false
set_option maxRecDepth 100000
namespace K80
open PySem Dl
local macro_rules | `(tactic| ktf_call "z9") => `(tactic| first | ((with_reducible apply m_tryX); (with_reducible assumption); decide +kernel; intro _; with_reducible apply ex_try) | ((with_reducible apply m_exc); rfl; try dsimp only) | ktf_call "spec")
local macro_rules | `(tactic| ktf_call "z8") => `(tactic| first | with_reducible exact m_rN | with_reducible apply m_par3 | with_reducible apply m_parN | ((with_reducible apply m_tryN); with_reducible assumption) | ktf_call "z9")
local macro_rules | `(tactic| ktf_call "z7") => `(tactic| first | with_reducible exact m_kbk | with_reducible exact m_kct | with_reducible exact m_bk | with_reducible exact m_ct | ktf_call "z8")
local macro_rules | `(tactic| ktf_call "z6") => `(tactic| first | with_reducible apply m_par | ((with_reducible apply m_po); rfl; rfl; ktf_call "set"; ktf_call "set") | ((with_reducible apply m_rvV); rfl) | ((with_reducible apply m_rvO); rfl; ktf_call "set") | ktf_call "z7")
local macro_rules | `(tactic| ktf_call "z5") => `(tactic| first | with_reducible apply m_for | with_reducible apply m_asg | with_reducible apply m_wp | with_reducible apply m_put | ktf_call "z6")
local macro_rules | `(tactic| ktf_call "z4") => `(tactic| first | with_reducible exact m_kret | with_reducible exact m_nil | ((with_reducible apply m_soO); ktf_call "set") | with_reducible apply m_ex | ktf_call "z5")
local macro_rules | `(tactic| ktf_call "z3") => `(tactic| first | ((with_reducible apply m_ifH); ktf_call "condA") | ((with_reducible apply m_itH); ktf_call "cond") | ((with_reducible apply m_ifH); ktf_call "cond") | with_reducible apply m_ret | ktf_call "z4")
local macro_rules | `(tactic| ktf_call "z2") => `(tactic| first | with_reducible apply m_if | with_reducible apply m_it | with_reducible apply m_if0 | ((with_reducible apply m_itH); ktf_call "condA") | ktf_call "z3")
local macro_rules | `(tactic| ktf_call "z1") => `(tactic| first | with_reducible apply m_seq | with_reducible apply m_knx | with_reducible apply m_set | ((with_reducible apply m_soV); ktf_call "set") | ktf_call "z2")
local macro_rules | `(tactic| ktf_call "z19") => `(tactic| first | with_reducible apply m_chain | with_reducible apply m_ext | with_reducible apply m_int2 | ktf_call "spec")
local macro_rules | `(tactic| ktf_call "z18") => `(tactic| first | ((with_reducible apply m_oeTH); ktf_call "cond") | ((with_reducible apply m_oeFH); ktf_call "cond") | with_reducible apply m_aeB | with_reducible apply m_oeB | ktf_call "z19")
local macro_rules | `(tactic| ktf_call "z17") => `(tactic| first | ((with_reducible apply m_oeTH); ktf_call "condA") | ((with_reducible apply m_oeFH); ktf_call "condA") | ((with_reducible apply m_aeTH); ktf_call "cond") | ((with_reducible apply m_aeFH); ktf_call "cond") | ktf_call "z18")
local macro_rules | `(tactic| ktf_call "z16") => `(tactic| first | with_reducible exact m_oeT | with_reducible apply m_oeF | ((with_reducible apply m_aeTH); ktf_call "condA") | ((with_reducible apply m_aeFH); ktf_call "condA") | ktf_call "z17")
local macro_rules | `(tactic| ktf_call "z15") => `(tactic| first | with_reducible apply m_and | with_reducible apply m_or | with_reducible apply m_aeT | with_reducible exact m_aeF | ktf_call "z16")
local macro_rules | `(tactic| ktf_call "z14") => `(tactic| first | ((with_reducible apply m_itH); ktf_call "condA") | ((with_reducible apply m_ifH); ktf_call "condA") | ((with_reducible apply m_itH); ktf_call "cond") | ((with_reducible apply m_ifH); ktf_call "cond") | ktf_call "z15")
local macro_rules | `(tactic| ktf_call "z13") => `(tactic| first | with_reducible apply m_eif | ((with_reducible apply m_isE); rfl) | with_reducible apply m_it | with_reducible apply m_if0 | ktf_call "z14")
local macro_rules | `(tactic| ktf_call "z12") => `(tactic| first | ((with_reducible apply m_bvO); rfl) | ((with_reducible apply m_vO); rfl; ktf_call "set") | with_reducible apply m_app | with_reducible apply m_slU | ktf_call "z13")
local macro_rules | `(tactic| ktf_call "z11") => `(tactic| first | with_reducible apply m_un | with_reducible apply m_eV | with_reducible apply m_tup | ((with_reducible apply m_bvV); rfl) | ktf_call "z12")
local macro_rules | `(tactic| ktf_call "z10") => `(tactic| first | ((with_reducible apply m_vV); rfl) | with_reducible exact m_c | with_reducible apply m_ix | with_reducible apply m_bin | ktf_call "z11")
local macro_rules | `(tactic| ktf_call "z22") => `(tactic| first | with_reducible apply m_catE | with_reducible apply m_rep | ktf_call "spec")
local macro_rules | `(tactic| ktf_call "z21") => `(tactic| first | with_reducible assumption | ((with_reducible apply m_lcN); rfl; rfl; ktf_call "wpe"; rfl; (intro _ _; (with_reducible apply ex_lm) <;> ktf_call "ms"); ktf_call "len"; ktf_call "bak") | with_reducible apply m_lc | with_reducible apply m_v1 | ktf_call "z22")
local macro_rules | `(tactic| ktf_call "z20") => `(tactic| first | with_reducible apply m_vE | with_reducible apply m_call | with_reducible apply m_callI | with_reducible apply m_lst | ktf_call "z21")
local macro_rules | `(tactic| ktf_call "z27") => `(tactic| first | ((with_reducible apply m_okFH); ktf_call "cond") | with_reducible apply m_akB | with_reducible apply m_okB | ktf_call "spec")
local macro_rules | `(tactic| ktf_call "z26") => `(tactic| first | ((with_reducible apply m_okFH); ktf_call "condA") | ((with_reducible apply m_akTH); ktf_call "cond") | ((with_reducible apply m_akFH); ktf_call "cond") | ((with_reducible apply m_okTH); ktf_call "cond") | ktf_call "z27")
local macro_rules | `(tactic| ktf_call "z25") => `(tactic| first | with_reducible exact m_okT | ((with_reducible apply m_akTH); ktf_call "condA") | ((with_reducible apply m_akFH); ktf_call "condA") | ((with_reducible apply m_okTH); ktf_call "condA") | ktf_call "z26")
local macro_rules | `(tactic| ktf_call "z24") => `(tactic| first | with_reducible apply m_tor | with_reducible apply m_akT | with_reducible apply m_okF | with_reducible exact m_akF | ktf_call "z25")
local macro_rules | `(tactic| ktf_call "z23") => `(tactic| first | with_reducible apply m_of | with_reducible exact m_cy | with_reducible apply m_not | with_reducible apply m_tand | ktf_call "z24")
local macro_rules | `(tactic| ktf_call "z31") => `(tactic| first | ((with_reducible apply m_lfI); intro _ _; with_reducible apply ex_lf) | ktf_call "spec")
local macro_rules | `(tactic| ktf_call "z30") => `(tactic| first | ((with_reducible show lcGo _ _ _ _ _ _ = _); ktf_call "spec") | ((with_reducible apply m_lmY); intro _ _; with_reducible apply ex_lm) | ((with_reducible apply m_lmYI); intro _ _; with_reducible apply ex_lm) | ((with_reducible apply m_lf); intro _ _; with_reducible apply ex_lf) | ktf_call "z31")
local macro_rules | `(tactic| ktf_call "z29") => `(tactic| first | ((with_reducible show iZipU _ _ = _); ktf_call "zip") | ((with_reducible show iEnum' _ _ = _); ktf_call "enm") | ((with_reducible show iZipU3 _ _ = _); ktf_call "zip3") | ((with_reducible show iEnumZip _ _ = _); (with_reducible apply m_enz); (ktf_call "ms"); first | with_reducible exact pairR _ _ | with_reducible exact pairL_map _ _ | rfl) | ktf_call "z30")
local macro_rules | `(tactic| ktf_call "z28") => `(tactic| first | with_reducible apply m_ac | with_reducible exact m_an | with_reducible apply m_seqI | with_reducible apply m_rgK | ktf_call "z29")
local macro_rules | `(tactic| ktf_call "z32") => `(tactic| first | with_reducible apply m_avS | with_reducible exact m_av0)
local macro_rules | `(tactic| ktf_call "z33") => `(tactic| first | ((with_reducible show List.length _ = List.length _); rfl))
local macro_rules | `(tactic| ktf_call "z34") => `(tactic| first | ((with_reducible apply m_gv); ktf_call "set") | ((with_reducible apply m_gt); rfl; rfl) | with_reducible apply m_gc | with_reducible exact m_gn)
local macro_rules | `(tactic| ktf_call "z35") => `(tactic| first | ((with_reducible apply q_slD_); rfl) | ((with_reducible apply q_dat_); rfl) | ktf_call "op")
local macro_rules | `(tactic| ktf_call "z38") => `(tactic| first | with_reducible apply m_pS | with_reducible exact m_p0)
local macro_rules | `(tactic| ktf_call "z37") => `(tactic| first | with_reducible apply m_pn | with_reducible apply m_pc | with_reducible apply m_pnI | with_reducible apply m_pcI | ktf_call "z38")
local macro_rules | `(tactic| ktf_call "z36") => `(tactic| first | ((with_reducible apply q_setG_); ktf_call "stg") | ((with_reducible show List.set _ _ _ = _); ktf_call "set") | ((with_reducible apply q_wipeG_); ktf_call "wpe") | ((with_reducible apply q_backG_); ktf_call "bak") | ktf_call "z37")
local macro_rules | `(tactic| ktf_call "z39") => `(tactic| first | ((with_reducible show _[_]? = _); rfl) | ((with_reducible apply q_outR_); rfl) | with_reducible apply m_fnP | ktf_call "spec")
local macro_rules | `(tactic| ktf_call "z40") => `(tactic| first | with_reducible apply m_iI | ktf_call "spec")
local macro_rules | `(tactic| ktf_call "z42") => `(tactic| first | ((with_reducible apply q_okR_); rfl) | ((with_reducible show List.all _ okR = _); rfl) | ((with_reducible apply q_okW_); rfl) | ((with_reducible show (!_) = _); rfl))
local macro_rules | `(tactic| ktf_call "z41") => `(tactic| first | with_reducible exact m_ntt | with_reducible exact m_nff | ((with_reducible apply m_ntF); with_reducible assumption) | ((with_reducible apply m_ntT); with_reducible assumption) | ktf_call "z42")
local macro_rules | `(tactic| ktf_call "z43") => `(tactic| first | ((with_reducible apply m_trT); with_reducible assumption) | ((with_reducible apply m_trF); with_reducible assumption) | ((with_reducible apply q_truD_); rfl))
local macro_rules | `(tactic| ktf_call "z44") => `(tactic| first | ((with_reducible apply rg_n); ktf_call "len") | ((with_reducible apply rg_i); ktf_call "len") | ((with_reducible apply q_ownD_); rfl) | ktf_call "op")
local macro_rules | `(tactic| ktf_call "z46") => `(tactic| first | ((with_reducible apply m_wct); ktf_call "wpe") | ((with_reducible apply m_wbk); ktf_call "wpe"))
local macro_rules | `(tactic| ktf_call "z45") => `(tactic| first | ((with_reducible apply m_uxN); ktf_call "set") | ((with_reducible apply m_uxR); ktf_call "set") | ((with_reducible apply m_wnx); ktf_call "wpe") | with_reducible exact m_wret | ktf_call "z46")
local macro_rules | `(tactic| ktf_call "z47") => `(tactic| first | with_reducible exact m_oN | with_reducible apply m_oS)
local macro_rules | `(tactic| ktf_call "z48") => `(tactic| first | ((with_reducible show L2.ixN _ _ = _); first | assumption | ((with_reducible apply ixNat); (repeat (first | rw [List.length_map] | rw [List.length_range] | rw [List.length_set])); omega) | rfl))
local macro_rules | `(tactic| ktf_call "z60") => `(tactic| first | with_reducible exact slK_t | ((with_reducible apply q_slK_); rfl) | with_reducible exact ten18 | ktf_call "opx")
local macro_rules | `(tactic| ktf_call "z59") => `(tactic| first | ((with_reducible apply atRangeL); omega) | ((with_reducible apply atRangeT); omega) | ((with_reducible apply addA_cat); ktf_call "len") | with_reducible exact slK_l | ktf_call "z60")
local macro_rules | `(tactic| ktf_call "z58") => `(tactic| first | ((with_reducible apply q_notBD_); rfl) | ((with_reducible apply q_seqD_); rfl) | ((with_reducible apply q_catTD_); rfl) | ((with_reducible apply atSetL); (repeat (first | rw [List.length_map] | rw [List.length_range] | rw [List.length_set])); omega) | ktf_call "z59")
local macro_rules | `(tactic| ktf_call "z57") => `(tactic| first | ((with_reducible apply q_isND_); rfl) | ((with_reducible apply q_notND_); rfl) | ((with_reducible apply q_notD_); rfl) | ((with_reducible apply q_isBD_); rfl) | ktf_call "z58")
local macro_rules | `(tactic| ktf_call "z56") => `(tactic| first | ((with_reducible apply q_tupD_); rfl) | ((with_reducible apply q_negD_); rfl) | ((with_reducible apply q_absD_); rfl) | ((with_reducible apply q_intD_); rfl) | ktf_call "z57")
local macro_rules | `(tactic| ktf_call "z55") => `(tactic| first | ((with_reducible apply q_cntBD_); rfl) | ((with_reducible apply q_idxBD_); rfl) | ((with_reducible apply q_lenD_); rfl) | ((with_reducible apply q_revD_); rfl) | ktf_call "z56")
local macro_rules | `(tactic| ktf_call "z54") => `(tactic| first | with_reducible exact isi_it | with_reducible exact isi_tt | with_reducible exact isi_ti | with_reducible exact isi_ts | ktf_call "z55")
local macro_rules | `(tactic| ktf_call "z53") => `(tactic| first | ((with_reducible apply fdivD_of); first | assumption | exact divOk_s (by decide) (by decide) | exact divOk_s (by omega) (by omega)) | with_reducible exact isi_ii | with_reducible exact isi_ib | with_reducible exact isi_is | ktf_call "z54")
local macro_rules | `(tactic| ktf_call "z52") => `(tactic| first | with_reducible exact neD_q _ _ | with_reducible exact eqD_ss _ _ | with_reducible exact neD_ss _ _ | ((with_reducible apply modD_of); first | assumption | decide | omega) | ktf_call "z53")
local macro_rules | `(tactic| ktf_call "z51") => `(tactic| first | with_reducible exact m_lenL _ _ | with_reducible exact allD_map _ _ | with_reducible exact anyD_map _ _ | with_reducible exact eqD_q _ _ | ktf_call "z52")
local macro_rules | `(tactic| ktf_call "z50") => `(tactic| first | with_reducible exact gtD_ii _ _ | with_reducible exact geD_ii _ _ | ((with_reducible apply q_atD_); first | rfl | (with_reducible apply atD_map; assumption) | (with_reducible apply atD_mapL; assumption)) | with_reducible exact m_len _ _ | ktf_call "z51")
local macro_rules | `(tactic| ktf_call "z49") => `(tactic| first | with_reducible exact eqD_ii _ _ | with_reducible exact neD_ii _ _ | with_reducible exact ltD_ii _ _ | with_reducible exact leD_ii _ _ | ktf_call "z50")
local macro_rules | `(tactic| ktf_call "z66") => `(tactic| first | ktf_call "spec" | fail "stuck")
local macro_rules | `(tactic| ktf_call "z65") => `(tactic| first | with_reducible apply m_iI3 | with_reducible apply ex_b | with_reducible apply ex_lm | with_reducible apply ex_lf | ktf_call "z66")
local macro_rules | `(tactic| ktf_call "z64") => `(tactic| first | ((with_reducible apply q_OIG); ktf_call "z47") | ((with_reducible apply q_ON); ktf_call "z48") | ktf_call "len" | (intro _) | ktf_call "z65")
local macro_rules | `(tactic| ktf_call "z63") => `(tactic| first | ((with_reducible apply q_SLD); ktf_call "z40") | ((with_reducible apply q_OLD); ktf_call "z44") | ((with_reducible apply q_Nat); ktf_call "z33") | ((with_reducible apply q_LSG); ktf_call "z32") | ktf_call "z64")
local macro_rules | `(tactic| ktf_call "z62") => `(tactic| first | ((with_reducible apply q_OG); ktf_call "z34") | ((with_reducible apply q_B); ktf_call "z41") | ((with_reducible apply q_OB); ktf_call "z43") | ((with_reducible apply q_o); ktf_call "z45") | ktf_call "z63")
local macro_rules | `(tactic| ktf_call "z61") => `(tactic| first | ((with_reducible apply q_SG); ktf_call "z20") | ((with_reducible apply q_BG); ktf_call "z23") | ((with_reducible apply q_G); ktf_call "z36") | ((with_reducible apply q_OSl); ktf_call "z39") | ktf_call "z62")
local macro_rules | `(tactic| ktf_call "set") => `(tactic| first | with_reducible exact m_st0 | ((with_reducible apply m_stS); ktf_call "set"))
local macro_rules | `(tactic| ktf_call "gdd") => `(tactic| first | with_reducible exact m_gd0 | ((with_reducible apply m_gdS); ktf_call "gdd"))
local macro_rules | `(tactic| ktf_call "wpe") => `(tactic| first | with_reducible exact m_w0 | ((with_reducible apply m_wS); ktf_call "wpe"; ktf_call "set"))
local macro_rules | `(tactic| ktf_call "bak") => `(tactic| first | with_reducible exact m_b0 | ((with_reducible apply m_bS); ktf_call "bak"; ktf_call "gdd"; ktf_call "set"))
local macro_rules | `(tactic| ktf_call "zip") => `(tactic| ((with_reducible apply zp_c); (ktf_call "ms"); (ktf_call "op"); (ktf_call "op"); first | with_reducible exact zipL_same _ | with_reducible exact zipL_map _ _ | rfl))
local macro_rules | `(tactic| ktf_call "zip3") => `(tactic| ((with_reducible apply zp_c3); (ktf_call "ms"); (ktf_call "op"); (ktf_call "op"); (ktf_call "op"); first | with_reducible exact zipL3_same _ | rfl))
local macro_rules | `(tactic| ktf_call "enm") => `(tactic| ((with_reducible apply zp_e); (ktf_call "ms"); (ktf_call "op"); first | with_reducible exact pairR _ _ | with_reducible exact pairL_map _ _ | rfl))
local macro_rules | `(tactic| ktf_call "stg") => `(tactic| first | with_reducible exact m_sg0 | ((with_reducible apply m_sgS); ktf_call "set"; ktf_call "stg"))
local macro_rules | `(tactic| ktf_call "mul") => `(tactic| first | assumption | exact mulOk_l (by decide) | exact mulOk_r (by decide) | exact mulOk_l (fm_lt _ (by decide) (by decide)) | exact mulOk_l (by omega) | exact mulOk_r (by omega))
local macro_rules | `(tactic| ktf_call "spec") => `(tactic| first | with_reducible assumption | solve_by_elim (maxDepth := 4))
local macro_rules | `(tactic| ktf_call "opx") => `(tactic| fail "no op")
local macro_rules | `(tactic| ktf_call "len") => `(tactic| first | with_reducible assumption | ((first | with_reducible show _ < 1000000 | with_reducible show _ ≤ 1000000 | with_reducible show _ ≤ _ ∧ _); first | omega | ((repeat (first | rw [List.length_map] | rw [List.length_range] | rw [List.length_zip] | rw [List.length_append] | rw [List.length_cons] | rw [List.length_nil] | rw [List.length_replicate] | rw [List.length_set])); omega) | solve_by_elim (maxDepth := 2)))
local macro_rules | `(tactic| ktf_call "condA") => `(tactic| first | with_reducible assumption | ((with_reducible apply q_dec_); rfl))
local macro_rules | `(tactic| ktf_call "cond") => `(tactic| first | ((first | with_reducible show (_ && _) = _ | with_reducible show (_ || _) = _ | with_reducible show (!_) = _); simp only [decide_eq_true_eq, decide_eq_false_iff_not, Bool.not_eq_true', Bool.not_eq_false', Bool.and_eq_true, Bool.or_eq_true, Bool.or_eq_false_iff, Bool.not_true, Bool.not_false, Bool.and_eq_false_iff, Bool.and_eq_false_imp, Bool.true_and, Bool.false_and, Bool.and_true]; first | done | with_reducible assumption | omega) | ((with_reducible apply q_dec_); simp only [decide_eq_true_eq, decide_eq_false_iff_not]; first | with_reducible assumption | omega) | with_reducible rfl)
local macro_rules | `(tactic| ktf_call "op") => `(tactic| first | with_reducible assumption | with_reducible exact addA_int _ _ | with_reducible exact m_sub _ _ | ((with_reducible apply mulD_of); ktf_call "mul") | ktf_call "z49")
local macro_rules | `(tactic| ktf_call "stp") => `(tactic| first | ((with_reducible apply q_DG); ktf_call "z10") | ((with_reducible apply q_OD); ktf_call "z35") | ((with_reducible apply q_LG); ktf_call "z28") | ((with_reducible apply q_Out); ktf_call "z1") | ktf_call "z61")
local macro_rules | `(tactic| ktf_call "ms") => `(tactic| (focus (ktf_call "stp"; all_goals ktf_call "ms")))
set_option maxHeartbeats 4000000

theorem is_integer_ok (i : Int) : m_is_integer [.int i] = some (.v (.bool true)) := by
  unfold m_is_integer b_is_integer
  ktf_call "ms"
theorem common_loop : ∀ (n : Nat) (a b : Int), b.natAbs ≤ n → ∃ c : Int, c.natAbs = Int.gcd a b ∧
    sWhile (tOf (eBin neD (eVar 1) (eC (.int 0)))) l_common_1 [.v (.int a), .v (.int b)] = some (.nx [.v (.int c), .v (.int 0)]) := by
  intro n
  induction n with
  | zero =>
    intro a b h
    have : b = 0 := by omega
    subst this
    refine ⟨a, by simp, sWhile_stop ?_⟩
    ktf_call "ms"
  | succ n ih =>
    intro a b h
    by_cases hb : b = 0
    · subst hb
      refine ⟨a, by simp, sWhile_stop ?_⟩
      ktf_call "ms"
    · have := fmod_lt a b hb
      obtain ⟨c, h1, h2⟩ := ih b (a.fmod b) (by omega)
      refine ⟨c, by rw [h1, gcd_fmod], ?_⟩
      refine sWhile_nx (g1 := [.v (.int a), .v (.int b)]) ?_ ?_ h2
      · have : (!decide (b = 0)) = true := by simp [hb]
        rw [← this]
        ktf_call "ms"
      · unfold l_common_1
        ktf_call "ms"
theorem common_ok (a b : Int) : m_common [.int a, .int b] = some (.v (.int (Int.gcd a b))) := by
  obtain ⟨c, h1, h2⟩ := common_loop _ a b (Nat.le_refl _)
  unfold m_common b_common
  have e : (if c < 0 then -c else c) = (Int.gcd a b : Nat) := by omega
  rw [← e]
  ktf_call "ms"
local macro_rules | `(tactic| ktf_call "spec") => `(tactic| with_reducible exact common_ok _ _)
theorem gcd_okD' {a b : Int} (hb : 0 < b) (hB : Int.gcd a b < 2 ^ 8900) : DivOk (Int.gcd a b) = true := gcd_okD hb hB
theorem low_loop (x y : Sl) : ∀ (n : Nat) (a b : Int), b.natAbs ≤ n → 0 ≤ a → 0 ≤ b →
    sWhile (tOf (eBin neD (eVar 3) (eC (.int 0)))) l__law_low_1 [x, y, .v (.int a), .v (.int b)] = some (.nx [x, y, .v (.int (Int.gcd a b)), .v (.int 0)]) := by
  intro n
  induction n with
  | zero =>
    intro a b h h0 h1
    have : b = 0 := by omega
    subst this
    have e : ((Int.gcd a 0 : Nat) : Int) = a := by simp; omega
    rw [e]
    refine sWhile_stop ?_
    ktf_call "ms"
  | succ n ih =>
    intro a b h h0 hb0
    by_cases hb : b = 0
    · subst hb
      have e : ((Int.gcd a 0 : Nat) : Int) = a := by simp; omega
      rw [e]
      refine sWhile_stop ?_
      ktf_call "ms"
    · have := fmod_lt a b hb
      have h2 := ih b (a.fmod b) (by omega) hb0 (Int.fmod_nonneg h0 hb0)
      rw [gcd_fmod] at h2
      have hd : (!decide (b = 0)) = true := by simp [hb]
      refine sWhile_nx (g1 := [x, y, .v (.int a), .v (.int b)]) ?_ ?_ h2
      · rw [← hd]
        ktf_call "ms"
      · unfold l__law_low_1
        ktf_call "ms"
theorem low_ok {a b : Int} (hb : 0 < b) (hB : Int.gcd a b < 2 ^ 8900) : m__law_low [.int a, .int b] = some (.v (qD (Rat.divInt a b))) := by
  have e1 : (if a < 0 then -a else a) = (a.natAbs : Int) := by split <;> omega
  have e2 : (if b < 0 then -b else b) = (b.natAbs : Int) := by split <;> omega
  have h2 := low_loop (.v (.int a)) (.v (.int b)) _ (a.natAbs : Int) (b.natAbs : Int) (Nat.le_refl _) (by omega) (by omega)
  have e3 : Int.gcd (a.natAbs : Int) (b.natAbs : Int) = Int.gcd a b := by simp [Int.gcd]
  rw [e3] at h2
  obtain ⟨k1, k2⟩ := fdiv_gcd (a := a) hb
  have k3 := gcd_okD (a := a) hb hB
  unfold m__law_low b__law_low qD
  rw [← k1, ← k2]
  rw [← e1, ← e2] at h2
  ktf_call "ms"
theorem share_ok {a b : Int} (hb : 0 < b) (hB : Int.gcd a b < 2 ^ 8900) : m_share [.int a, .int b] = some (.v (qD (Rat.divInt a b))) := by
  obtain ⟨k1, k2⟩ := fdiv_gcd (a := a) hb
  have k3 := gcd_okD (a := a) hb hB
  have hb2 : decide (b < 0) = false := by simp; omega
  unfold m_share b_share qD
  rw [← k1, ← k2]
  ktf_call "ms"
local macro_rules | `(tactic| ktf_call "spec") => `(tactic| (with_reducible apply low_ok) <;> assumption)
local macro_rules | `(tactic| ktf_call "spec") => `(tactic| (with_reducible apply share_ok) <;> assumption)
section
variable {r s : Rat} (hr : B0 400000 r) (hs : B0 4400 s)
include hr hs
theorem law_add_ok : m__law_add [qD r, qD s] = some (.v (qD (r + s))) := by
  obtain ⟨k0, k1, k2, k3⟩ := mul_big (by decide) (by decide) hr hs (by decide)
  have k2' := mulOk_of (by decide) (by decide) hs.num (natAbs_lt hr.den) (by decide)
  have hp : 0 < (r.den : Int) * (s.den : Int) := Int.mul_pos (by have := r.den_pos; omega) (by have := s.den_pos; omega)
  have hg := gAdd hr hs
  unfold m__law_add b__law_add
  rw [← add_rat]
  ktf_call "ms"
theorem plus_ok : m_plus [qD r, qD s] = some (.v (qD (r + s))) := by
  obtain ⟨k0, k1, k2, k3⟩ := mul_big (by decide) (by decide) hr hs (by decide)
  have k2' := mulOk_of (by decide) (by decide) hs.num (natAbs_lt hr.den) (by decide)
  have hp : 0 < (r.den : Int) * (s.den : Int) := Int.mul_pos (by have := r.den_pos; omega) (by have := s.den_pos; omega)
  have hg := gAdd hr hs
  unfold m_plus b_plus
  by_cases h : r.den = s.den
  · have hd : decide ((r.den : Int) = (s.den : Int)) = true := by simp [h]
    have hrp : 0 < (r.den : Int) := by have := r.den_pos; omega
    have hg2 : Int.gcd (r.num + s.num) (r.den : Int) < 2 ^ 8900 := by
      have h0 := hs.den
      rw [← h] at h0
      have h1 := gcd_le_den (r.num + s.num) hrp
      have : (2:Nat) ^ 4400 ≤ 2 ^ 8900 := Nat.pow_le_pow_right (by decide) (by decide)
      rw [Int.natAbs_natCast] at h1
      omega
    rw [← add_rat' _ _ h]
    ktf_call "ms"
  · have hd : decide ((r.den : Int) = (s.den : Int)) = false := by simp; omega
    rw [← add_rat]
    ktf_call "ms"
end
section
variable {r s : Rat} (hr : B0 4400 r) (hs : B0 4400 s)
include hr hs
theorem law_mul_ok : m__law_mul [qD r, qD s] = some (.v (qD (r * s))) := by
  obtain ⟨k0, k1, k2, k3⟩ := mul_big (by decide) (by decide) hr hs (by decide)
  have hp : 0 < (r.den : Int) * (s.den : Int) := Int.mul_pos (by have := r.den_pos; omega) (by have := s.den_pos; omega)
  have hg := gMul hr hs
  unfold m__law_mul b__law_mul
  rw [← mul_rat]
  ktf_call "ms"
theorem times_ok : m_times [qD r, qD s] = some (.v (qD (r * s))) := by
  obtain ⟨k0, k1, k2, k3⟩ := mul_big (by decide) (by decide) hr hs (by decide)
  have hp : 0 < (r.den : Int) * (s.den : Int) := Int.mul_pos (by have := r.den_pos; omega) (by have := s.den_pos; omega)
  have hg := gMul hr hs
  unfold m_times b_times
  rw [← mul_rat]
  ktf_call "ms"
end
theorem less_ok {r s : Rat} (hr : B0 400000 r) (hs : B0 400000 s) : m_is_less [qD r, qD s] = some (.v (.bool (decide (r < s)))) ∧ m__law_less [qD r, qD s] = some (.v (.bool (decide (r < s)))) := by
  have k1 := mulOk_of (a := r.num) (b := (s.den : Int)) (by decide) (by decide) hr.num (natAbs_lt hs.den) (by decide)
  have k2 := mulOk_of (a := s.num) (b := (r.den : Int)) (by decide) (by decide) hs.num (natAbs_lt hr.den) (by decide)
  rw [← less_q]
  constructor
  · unfold m_is_less b_is_less
    ktf_call "ms"
  · unfold m__law_less b__law_less
    ktf_call "ms"
def isSh : D → Bool
  | .tuple [.int a, .int b] => decide (0 < b) && decide (Int.gcd a b = 1)
  | _ => false
def isFr (l : Int) : D → Bool
  | .tuple [.int a, .int b] => decide (0 < b) && (decide (l ≤ a) && decide (Int.gcd a b = 1))
  | _ => false
theorem isSh_tup {x y : D} (h : isI x = false ∨ isI y = false) : isSh (.tuple [x, y]) = false ∧ ∀ l, isFr l (.tuple [x, y]) = false := by
  rcases h with h | h
  · cases x <;> first | exact ⟨rfl, fun _ => rfl⟩ | simp [isI] at h
  · cases y <;> first | (cases x <;> exact ⟨rfl, fun _ => rfl⟩) | simp [isI] at h
theorem isSh_sz {d : D} (h : isSz 2 2 d = false) : isSh d = false ∧ ∀ l, isFr l d = false := by
  cases d with
  | tuple ds =>
    match ds, h with
    | [], _ => exact ⟨rfl, fun _ => rfl⟩
    | [_], _ => exact ⟨by simp [isSh], fun _ => by simp [isFr]⟩
    | [_, _], h => simp [isSz] at h
    | _ :: _ :: _ :: _, _ => exact ⟨by simp [isSh], fun _ => by simp [isFr]⟩
  | _ => exact ⟨rfl, fun _ => rfl⟩
theorem gd2 {k : Nat} {x y : D} (h : gd k (.tuple [x, y]) = true) : gd k x = true ∧ gd k y = true := ⟨(gd_tup.mp h).2 x (by simp), (gd_tup.mp h).2 y (by simp)⟩
theorem isFr_sh {l : Int} {d : D} (h : isSh d = false) : isFr l d = false := by
  unfold isFr
  split
  · simp [isSh] at h ⊢
    intro h1 _
    exact h h1
  · rfl
theorem isSh_of {d : D} (h : isSh d = true) : ∃ a b, d = .tuple [.int a, .int b] ∧ 0 < b ∧ Int.gcd a b = 1 := by
  unfold isSh at h
  split at h
  · rename_i a b
    simp at h
    exact ⟨a, b, rfl, h.1, h.2⟩
  · cases h
def isW (lo hi : Int) : D → Bool
  | .int i => decide (lo ≤ i) && decide (i ≤ hi)
  | _ => false
section
variable {k : Nat} {d : D} (h : gd k d = true)
include h
theorem is_integer_J : m_is_integer [d] = some (.v (.bool (isI d))) := by
  have h1 := isi_intJ h
  have h2 := isi_blJ h
  rw [← isI_bl]
  unfold m_is_integer b_is_integer
  ktf_call "ms"
theorem law_whole_J : m__law_is_whole [d] = some (.v (.bool (isI d))) := by
  have h1 := isi_intJ h
  have h2 := isi_blJ h
  rw [← isI_bl]
  unfold m__law_is_whole b__law_is_whole
  ktf_call "ms"
theorem is_sized_J (lo hi : Int) : m_is_sized [d, .int lo, .int hi] = some (.v (.bool (isSz lo hi d))) := by
  have h1 := isi_tupJ h
  unfold m_is_sized b_is_sized
  cases hz : isTup d with
  | false =>
    have e : isSz lo hi d = false := by cases d <;> simp [isTup, isSz] at hz ⊢
    rw [hz] at h1
    rw [e]
    ktf_call "ms"
  | true =>
    obtain ⟨ds, rfl⟩ := isTup_of hz
    rw [hz] at h1
    have hl : lenD (.tuple ds) = some (.int (ds.length : Nat)) := rfl
    ktf_call "ms"
theorem is_within_J (lo hi : Int) : m_is_within [d, .int lo, .int hi] = some (.v (.bool (isW lo hi d))) := by
  have h1 := is_integer_J h
  unfold m_is_within b_is_within
  cases hz : isI d with
  | false =>
    rw [hz] at h1
    have e : isW lo hi d = false := by cases d <;> simp_all [isI, isW]
    rw [e]
    ktf_call "ms"
  | true =>
    obtain ⟨i, rfl⟩ := isI_of hz
    rw [hz] at h1
    ktf_call "ms"
end
theorem is_share_J {k : Nat} {d : D} (h : gd k d = true) : m_is_share [d] = some (.v (.bool (isSh d))) := by
  have e1 := is_sized_J h 2 2
  unfold m_is_share b_is_share
  cases hz : isSz 2 2 d with
  | false =>
    rw [hz] at e1
    rw [(isSh_sz hz).1]
    ktf_call "ms"
  | true =>
    rw [hz] at e1
    obtain ⟨x, y, rfl⟩ := sz2 hz
    obtain ⟨gx, gy⟩ := gd2 h
    have e2 := is_integer_J gx
    have e3 := is_integer_J gy
    cases hx : isI x with
    | false =>
      rw [hx] at e2
      rw [(isSh_tup (.inl hx)).1]
      ktf_call "ms"
    | true =>
      cases hy : isI y with
      | false =>
        rw [hx] at e2
        rw [hy] at e3
        rw [(isSh_tup (.inr hy)).1]
        ktf_call "ms"
      | true =>
        rw [hx] at e2
        rw [hy] at e3
        obtain ⟨a, rfl⟩ := isI_of hx
        obtain ⟨b, rfl⟩ := isI_of hy
        have e4 := common_ok a b
        have w : isSh (.tuple [.int a, .int b]) = (decide (0 < b) && decide (((Int.gcd a b : Nat) : Int) = 1)) := by
          simp only [isSh]
          congr 1
          exact decide_eq_decide.mpr (by omega)
        rw [w]
        ktf_call "ms"
theorem is_amount_J {k : Nat} {d : D} (h : gd k d = true) : m_is_amount [d] = some (.v (.bool (isFr 0 d))) := by
  have e1 := is_share_J h
  unfold m_is_amount b_is_amount
  cases hz : isSh d with
  | false =>
    rw [hz] at e1
    rw [isFr_sh hz]
    ktf_call "ms"
  | true =>
    rw [hz] at e1
    obtain ⟨a, b, rfl, hb, hg⟩ := isSh_of hz
    have w : isFr 0 (.tuple [.int a, .int b]) = decide (0 ≤ a) := by simp [isFr, hb, hg]
    rw [w]
    ktf_call "ms"
set_option maxHeartbeats 1000000 in
theorem law_frac_J {k : Nat} (hk : k ≤ 8000) {d : D} (h : gd k d = true) : m__law_is_fraction [d] = some (.v (.bool (isSh d))) := by
  have h1 := isi_tupJ h
  unfold m__law_is_fraction b__law_is_fraction
  cases hz : isTup d with
  | false =>
    rw [hz] at h1
    have e : isSh d = false := by cases d <;> simp [isTup, isSh] at hz ⊢
    rw [e]
    ktf_call "ms"
  | true =>
    rw [hz] at h1
    obtain ⟨ds, rfl⟩ := isTup_of hz
    have hl : lenD (.tuple ds) = some (.int (ds.length : Nat)) := rfl
    have hds := (gd_tup.mp h).1
    have hW : ∀ x ∈ ds, m__law_is_whole [x] = some (.v (.bool (isI x))) := fun x hx => law_whole_J ((gd_tup.mp h).2 x hx)
    have hs : seqD (.tuple ds) = some ds := rfl
    by_cases h2 : ds.length = 2
    · have hd : (!decide ((ds.length : Int) = 2)) = false := by simp; omega
      cases ha : ds.all isI with
      | false =>
        have e : isSh (.tuple ds) = false := by
          match ds, h2, ha with
          | [x, y], _, ha => exact (isSh_tup (by simp at ha; cases q : isI x <;> simp_all)).1
        have ha' : (!ds.all isI) = true := by rw [ha]; rfl
        have ha2 : (!ds.all fun x => isI x) = true := ha'
        rw [e]
        ktf_call "ms"
      | true =>
        have ha2 : (!ds.all fun x => isI x) = false := by
          have : (!ds.all isI) = false := by rw [ha]; rfl
          exact this
        match ds, h2, ha with
        | [x, y], _, ha =>
          simp at ha
          obtain ⟨a, rfl⟩ := isI_of ha.1
          obtain ⟨b, rfl⟩ := isI_of ha.2
          obtain ⟨gx, gy⟩ := gd2 h
          have hbB : b.natAbs < 2 ^ k := by simpa [gd] using gy
          by_cases hb : 0 < b
          · have hb2 : decide (0 < b) = true := by simp [hb]
            have e4 := low_ok (a := a) hb (Nat.lt_of_le_of_lt (gcd_le_den a hb) (Nat.lt_of_lt_of_le hbB (Nat.pow_le_pow_right (by decide) (by omega))))
            have q : PyData.eqv (qD (Rat.divInt a b)) (.tuple [.int a, .int b]) = decide (Int.gcd a b = 1) := by
              have f := fdiv_gcd (a := a) hb
              show (decide ((Rat.divInt a b).num = a) && (decide (((Rat.divInt a b).den : Int) = b) && true)) = _
              rw [Bool.and_true, ← Bool.decide_and]
              refine decide_eq_decide.mpr ⟨fun ⟨h1, h2⟩ => ?_, fun hg => ?_⟩
              · have := red (Rat.divInt a b)
                rw [h1, h2] at this
                exact this
              · rw [hg] at f
                simp at f
                exact ⟨f.1.symm, f.2.symm⟩
            have s1 : SeqAt.shaped (qD (Rat.divInt a b)) = true := shaped_of (by simp [qD, PyData.canLay0, PyData.canLayAll0]) (by simp [qD, PyData.depth, PyData.depthAll])
            have s2 : SeqAt.shaped (.tuple [.int a, .int b] : D) = true := shaped_of (by simp [PyData.canLay0, PyData.canLayAll0]) (by simp [PyData.depth, PyData.depthAll])
            have e5 := eqD_sh s1 s2 q rfl
            have w : isSh (.tuple [.int a, .int b]) = decide (Int.gcd a b = 1) := by simp [isSh, hb]
            rw [w]
            ktf_call "ms"
          · have hb2 : decide (0 < b) = false := by simp; omega
            have w : isSh (.tuple [.int a, .int b]) = false := by simp [isSh, hb2]
            rw [w]
            ktf_call "ms"
    · have hd : (!decide ((ds.length : Int) = 2)) = true := by simp; omega
      have e : isSh (.tuple ds) = false := (isSh_sz (by simp [isSz]; omega)).1
      rw [e]
      ktf_call "ms"
def isAms (n : Nat) : D → Bool
  | .tuple ds => decide (ds.length = n) && ds.all (isFr 0)
  | _ => false
theorem gd_in {k : Nat} {ds : List D} (h : gd k (.tuple ds) = true) {x : D} (hx : x ∈ ds) : gd k x = true := (gd_tup.mp h).2 x hx
theorem isSz_tup (lo hi : Int) (ds : List D) : isSz lo hi (.tuple ds) = (decide (lo ≤ (ds.length : Nat)) && decide (((ds.length : Nat) : Int) ≤ hi)) := rfl
theorem isSz_of {lo hi : Int} {d : D} (h : isSz lo hi d = true) : ∃ ds, d = .tuple ds ∧ lo ≤ (ds.length : Nat) ∧ ((ds.length : Nat) : Int) ≤ hi := by
  cases d <;> simp [isSz] at h
  exact ⟨_, rfl, h.1, h.2⟩
theorem isAms_sz {n : Nat} {d : D} (h : isSz n n d = false) : isAms n d = false := by
  cases d with
  | tuple ds =>
    rw [isSz_tup] at h
    simp only [isAms]
    rw [decide_eq_false (by intro z; rw [z] at h; simp at h)]
    rfl
  | _ => rfl
theorem are_amounts_J {k : Nat} {d : D} {n : Nat} (h : gd k d = true) : m_are_amounts [d, .int n] = some (.v (.bool (isAms n d))) := by
  have e1 := is_sized_J h n n
  unfold m_are_amounts b_are_amounts
  cases hz : isSz n n d with
  | false =>
    rw [hz] at e1
    rw [isAms_sz hz]
    ktf_call "ms"
  | true =>
    rw [hz] at e1
    obtain ⟨ds, rfl, h1, h2⟩ := isSz_of hz
    have hs : seqD (.tuple ds) = some ds := rfl
    have hl := (gd_tup.mp h).1
    have hA : ∀ x ∈ ds, m_is_amount [x] = some (.v (.bool (isFr 0 x))) := fun x hx => is_amount_J (gd_in h hx)
    have w : isAms n (.tuple ds) = ds.all (fun x => isFr 0 x) := by simp only [isAms]; rw [decide_eq_true (by omega)]; simp
    rw [w]
    ktf_call "ms"
theorem is_plan_of_J {k : Nat} {d b : D} {ms : List D} (hb : atD b (.int 1) = some (.tuple ms)) (h : gd k d = true) : m_is_plan_of [b, d] = some (.v (.bool (isAms ms.length d))) := by
  have e := are_amounts_J (n := ms.length) h
  have hl : lenD (.tuple ms) = some (.int (ms.length : Nat)) := rfl
  unfold m_is_plan_of b_is_plan_of
  ktf_call "ms"
theorem isFr_sh0 {d : D} : isFr 0 d = (isSh d && (match d with | .tuple (.int a :: _) => decide (0 ≤ a) | _ => true)) := by
  unfold isFr isSh
  split
  · rename_i a b
    simp only
    cases decide (0 < b) <;> cases decide (0 ≤ a) <;> simp
  · simp
theorem law_amounts_J {k : Nat} (hk : k ≤ 8000) {d : D} {n : Nat} (h : gd k d = true) : m__law_are_amounts [d, .int n] = some (.v (.bool (isAms n d))) := by
  have h1 := isi_tupJ h
  unfold m__law_are_amounts b__law_are_amounts
  cases hz : isTup d with
  | false =>
    rw [hz] at h1
    have e : isAms n d = false := by cases d <;> simp [isTup, isAms] at hz ⊢
    rw [e]
    ktf_call "ms"
  | true =>
    rw [hz] at h1
    obtain ⟨ds, rfl⟩ := isTup_of hz
    have hl : lenD (.tuple ds) = some (.int (ds.length : Nat)) := rfl
    have hs : seqD (.tuple ds) = some ds := rfl
    have hds := (gd_tup.mp h).1
    have hF : ∀ x ∈ ds, m__law_is_fraction [x] = some (.v (.bool (isSh x))) := fun x hx => law_frac_J hk (gd_in h hx)
    by_cases h2 : ds.length = n
    · have hd : (!decide ((ds.length : Int) = n)) = false := by simp; omega
      cases ha : ds.all fun x => isSh x with
      | false =>
        have ha2 : (!ds.all fun x => isSh x) = true := by rw [ha]; rfl
        have w : isAms n (.tuple ds) = false := by
          simp only [isAms]
          rw [List.all_eq_false] at ha
          obtain ⟨x, hx, hq⟩ := ha
          have : ds.all (isFr 0) = false := List.all_eq_false.mpr ⟨x, hx, by rw [isFr_sh (by simpa using hq)]; decide⟩
          rw [this]; simp
        rw [w]
        ktf_call "ms"
      | true =>
        have ha2 : (!ds.all fun x => isSh x) = false := by rw [ha]; rfl
        have hA : ∀ x ∈ ds, ∃ a b, x = .tuple [.int a, .int b] ∧ isFr 0 x = decide (0 ≤ a) := fun x hx => by
          obtain ⟨a, b, rfl, hb, hg⟩ := isSh_of (List.all_eq_true.mp ha x hx)
          exact ⟨a, b, rfl, by simp [isFr, hb, hg]⟩
        have w : isAms n (.tuple ds) = ds.all (fun x => isFr 0 x) := by simp only [isAms]; rw [decide_eq_true h2]; simp
        rw [w]
        have c : ∀ z : Sl, lcGo (gVar 2) cYes (eBin geD (eIxV 2 (eC (.int 0))) (eC (.int 0))) [2] ds [.v (.tuple ds), z, .no] = some (ds.map fun x => .bool (isFr 0 x), [.v (.tuple ds), z, .no]) := fun z => by
          refine m_lmI fun x hx => ?_
          obtain ⟨a, b, rfl, q⟩ := hA x hx
          rw [q]
          ktf_call "ms"
        ktf_call "ms"
    · have hd : (!decide ((ds.length : Int) = n)) = true := by simp; omega
      have w : isAms n (.tuple ds) = false := by simp only [isAms]; rw [decide_eq_false h2]; rfl
      rw [w]
      ktf_call "ms"
/-! ### books -/
def isMe (m : Nat) : D → Bool
  | .tuple [g, u, w] => isW 0 ((m : Int) - 1) g && (isAms m u && isFr 0 w)
  | _ => false
def isBk : D → Bool
  | .tuple [.int m, .tuple ms] => (decide (1 ≤ m) && decide (m ≤ 6)) && ((decide (1 ≤ ms.length) && decide (ms.length ≤ 20)) && ms.all (isMe m.toNat))
  | _ => false
theorem sz3 {d : D} (h : isSz 3 3 d = true) : ∃ x y z, d = .tuple [x, y, z] := by
  obtain ⟨ds, rfl, h1, h2⟩ := isSz_of h
  match ds, h1, h2 with
  | [a, b, c], _, _ => exact ⟨a, b, c, rfl⟩
  | [], h, _ => simp at h
  | [_], h, _ => simp at h
  | [_, _], h, _ => simp at h
  | _ :: _ :: _ :: _ :: _, _, h => simp at h; omega
theorem isMe_sz {m : Nat} {d : D} (h : isSz 3 3 d = false) : isMe m d = false := by
  cases d with
  | tuple ds =>
    match ds, h with
    | [], _ => rfl
    | [_], _ => rfl
    | [_, _], _ => rfl
    | [_, _, _], h => simp [isSz] at h
    | _ :: _ :: _ :: _ :: _, _ => rfl
  | _ => rfl
theorem is_method_J {k m : Nat} {d : D} (h : gd k d = true) : m_is_method [.int m, d] = some (.v (.bool (isMe m d))) := by
  have e1 := is_sized_J h 3 3
  unfold m_is_method b_is_method
  cases hz : isSz 3 3 d with
  | false =>
    rw [hz] at e1
    rw [isMe_sz hz]
    ktf_call "ms"
  | true =>
    rw [hz] at e1
    obtain ⟨x, y, z, rfl⟩ := sz3 hz
    have gx := gd_in h (x := x) (by simp)
    have gy := gd_in h (x := y) (by simp)
    have gz := gd_in h (x := z) (by simp)
    have e2 := is_within_J gx 0 ((m : Int) - 1)
    have e3 := are_amounts_J (n := m) gy
    have e4 := is_amount_J gz
    simp only [isMe]
    cases hw : isW 0 ((m : Int) - 1) x with
    | false =>
      rw [hw] at e2
      rw [Bool.false_and]
      ktf_call "ms"
    | true =>
      rw [hw] at e2
      rw [Bool.true_and]
      ktf_call "ms"
theorem isBk_sz {d : D} (h : isSz 2 2 d = false) : isBk d = false := by
  cases d with
  | tuple ds =>
    match ds, h with
    | [], _ => rfl
    | [_], _ => simp [isBk]
    | [_, _], h => simp [isSz] at h
    | _ :: _ :: _ :: _, _ => simp [isBk]
  | _ => rfl
theorem isBk_pair (x y : D) : isBk (.tuple [x, y]) = (isW 1 6 x && (isSz 1 20 y && (match x, y with | .int m, .tuple ms => ms.all (isMe m.toNat) | _, _ => true))) := by
  cases x <;> first | rfl | skip
  cases y <;> first | (simp [isBk, isW, isSz]; done) | skip
  rename_i m ms
  simp only [isBk, isW, isSz]
  congr 3
  · exact decide_eq_decide.mpr (by omega)
  · exact decide_eq_decide.mpr (by omega)
theorem isW_of {lo hi : Int} {d : D} (h : isW lo hi d = true) : ∃ i, d = .int i ∧ lo ≤ i ∧ i ≤ hi := by
  cases d <;> simp [isW] at h
  exact ⟨_, rfl, h.1, h.2⟩
theorem is_book_J {k : Nat} {d : D} (h : gd k d = true) : m_is_book [d] = some (.v (.bool (isBk d))) := by
  have e1 := is_sized_J h 2 2
  unfold m_is_book b_is_book
  cases hz : isSz 2 2 d with
  | false =>
    rw [hz] at e1
    rw [isBk_sz hz]
    ktf_call "ms"
  | true =>
    rw [hz] at e1
    obtain ⟨x, y, rfl⟩ := sz2 hz
    obtain ⟨gx, gy⟩ := gd2 h
    have e2 := is_within_J gx 1 6
    have e3 := is_sized_J gy 1 20
    rw [isBk_pair]
    cases hx : isW 1 6 x with
    | false =>
      rw [hx] at e2
      rw [Bool.false_and]
      ktf_call "ms"
    | true =>
      rw [hx] at e2
      obtain ⟨i, rfl, hi1, hi2⟩ := isW_of hx
      cases hy : isSz 1 20 y with
      | false =>
        rw [hy] at e3
        rw [Bool.false_and, Bool.and_false]
        ktf_call "ms"
      | true =>
        rw [hy] at e3
        obtain ⟨ms, rfl, hm1, hm2⟩ := isSz_of hy
        have hs : seqD (.tuple ms) = some ms := rfl
        obtain ⟨m, rfl⟩ := Int.eq_ofNat_of_zero_le (show 0 ≤ i by omega)
        have hA : ∀ x ∈ ms, m_is_method [.int m, x] = some (.v (.bool (isMe m x))) := fun x hx => is_method_J (gd_in gy hx)
        simp only [Bool.true_and, Int.toNat_natCast]
        show _ = some (Sl.v (.bool (ms.all fun x => isMe m x)))
        ktf_call "ms"
theorem gd1 {k : Nat} {x : D} (h : gd k x = true) : gd k (.tuple [x]) = true := gd_tup.mpr ⟨by simp, by simpa using h⟩
theorem isAms_one {d : D} : isAms 1 (.tuple [d]) = isFr 0 d := by simp [isAms]
/-- one method in the law's loop -/
theorem law_method_J {k m : Nat} (hk : k ≤ 8000) {d B : D} (hB : atD B (.int 0) = some (.int m)) (h : gd k d = true) :
    (isMe m d = true → ∃ g2, l__law_is_book_1 [.v B, .v d] = some (.nx g2) ∧ g2 = [.v B, .no]) ∧ (isMe m d = false → ∃ g2, l__law_is_book_1 [.v B, .v d] = some (.ret (.v (.bool false)) g2)) := by
  have h1 := isi_tupJ h
  unfold l__law_is_book_1
  cases hz : isTup d with
  | false =>
    rw [hz] at h1
    have e : isMe m d = false := by cases d <;> simp [isTup, isMe] at hz ⊢
    rw [e]
    refine ⟨fun z => by simp at z, fun _ => ⟨[.v B, .v d], ?_⟩⟩
    ktf_call "ms"
  | true =>
    rw [hz] at h1
    obtain ⟨ds, rfl⟩ := isTup_of hz
    have hl : lenD (.tuple ds) = some (.int (ds.length : Nat)) := rfl
    by_cases h2 : ds.length = 3
    · have hd : (!decide ((ds.length : Int) = 3)) = false := by simp; omega
      match ds, h2 with
      | [x, y, z], _ =>
        have gx := gd_in h (x := x) (by simp)
        have gy := gd_in h (x := y) (by simp)
        have gz := gd_in h (x := z) (by simp)
        have e2 := law_whole_J gx
        have e3 := law_amounts_J hk (n := m) gy
        have e4 := law_amounts_J hk (n := 1) (gd1 gz)
        rw [isAms_one] at e4
        cases hx : isI x with
        | false =>
          rw [hx] at e2
          have e : isMe m (.tuple [x, y, z]) = false := by cases x <;> simp [isMe, isW, isI] at hx ⊢
          rw [e]
          refine ⟨fun z => by simp at z, fun _ => ⟨[.v B, .v (.tuple [x, y, z])], ?_⟩⟩
          ktf_call "ms"
        | true =>
          rw [hx] at e2
          obtain ⟨i, rfl⟩ := isI_of hx
          have ew : isMe m (.tuple [.int i, y, z]) = ((decide (0 ≤ i) && decide (i < m)) && (isAms m y && isFr 0 z)) := by
            simp only [isMe, isW]
            congr 2
            exact decide_eq_decide.mpr (by omega)
          rw [ew]
          cases hw : (decide (0 ≤ i) && decide (i < m)) with
          | false =>
            refine ⟨fun z => by simp at z, fun _ => ⟨[.v B, .v (.tuple [.int i, y, z])], ?_⟩⟩
            ktf_call "ms"
          | true =>
            cases hy : isAms m y with
            | false =>
              rw [hy] at e3
              refine ⟨fun z => by simp at z, fun _ => ⟨[.v B, .v (.tuple [.int i, y, z])], ?_⟩⟩
              ktf_call "ms"
            | true =>
              rw [hy] at e3
              cases hzz : isFr 0 z with
              | false =>
                rw [hzz] at e4
                refine ⟨fun z => by simp at z, fun _ => ⟨[.v B, .v (.tuple [.int i, y, z])], ?_⟩⟩
                ktf_call "ms"
              | true =>
                rw [hzz] at e4
                refine ⟨fun _ => ⟨[.v B, .no], ?_, rfl⟩, fun z => by simp at z⟩
                ktf_call "ms"
    · have hd : (!decide ((ds.length : Int) = 3)) = true := by simp; omega
      have e : isMe m (.tuple ds) = false := isMe_sz (by rw [isSz_tup]; simp; omega)
      rw [e]
      refine ⟨fun z => by simp at z, fun _ => ⟨[.v B, .v (.tuple ds)], ?_⟩⟩
      ktf_call "ms"
theorem law_book_J {k : Nat} (hk : k ≤ 8000) {d : D} (h : gd k d = true) : m__law_is_book [d] = some (.v (.bool (isBk d))) := by
  have h1 := isi_tupJ h
  unfold m__law_is_book b__law_is_book
  cases hz : isTup d with
  | false =>
    rw [hz] at h1
    have e : isBk d = false := by cases d <;> simp [isTup, isBk] at hz ⊢
    rw [e]
    ktf_call "ms"
  | true =>
    rw [hz] at h1
    obtain ⟨ds, rfl⟩ := isTup_of hz
    have hl : lenD (.tuple ds) = some (.int (ds.length : Nat)) := rfl
    by_cases h2 : ds.length = 2
    · have hd : (!decide ((ds.length : Int) = 2)) = false := by simp; omega
      match ds, h2 with
      | [x, y], _ =>
        obtain ⟨gx, gy⟩ := gd2 h
        have e2 := law_whole_J gx
        have e3 := isi_tupJ gy
        rw [isBk_pair]
        cases hx : isI x with
        | false =>
          rw [hx] at e2
          have e : isW 1 6 x = false := by cases x <;> simp [isW, isI] at hx ⊢
          rw [e, Bool.false_and]
          ktf_call "ms"
        | true =>
          rw [hx] at e2
          obtain ⟨i, rfl⟩ := isI_of hx
          cases hw : (decide (1 ≤ i) && decide (i ≤ 6)) with
          | false =>
            have e : isW 1 6 (.int i) = false := hw
            rw [e, Bool.false_and]
            ktf_call "ms"
          | true =>
            have e : isW 1 6 (.int i) = true := hw
            rw [e, Bool.true_and]
            simp only [Bool.and_eq_true, decide_eq_true_eq] at hw
            obtain ⟨m, rfl⟩ := Int.eq_ofNat_of_zero_le (show 0 ≤ i by omega)
            have hw' : (decide (1 ≤ ((m : Nat) : Int)) && decide (((m : Nat) : Int) ≤ 6)) = true := by simp; omega
            cases hy : isTup y with
            | false =>
              rw [hy] at e3
              have e : isSz 1 20 y = false := by cases y <;> simp [isTup, isSz] at hy ⊢
              rw [e, Bool.false_and]
              ktf_call "ms"
            | true =>
              rw [hy] at e3
              obtain ⟨ms, rfl⟩ := isTup_of hy
              have hl2 : lenD (.tuple ms) = some (.int (ms.length : Nat)) := rfl
              have hs : seqD (.tuple ms) = some ms := rfl
              rw [isSz_tup]
              cases hn : (decide ((1 : Int) ≤ (ms.length : Nat)) && decide (((ms.length : Nat) : Int) ≤ 20)) with
              | false =>
                rw [Bool.false_and]
                ktf_call "ms"
              | true =>
                simp only [Bool.true_and, Int.toNat_natCast]
                have G := forGo_guard (t := gVar 1) (b := l__law_is_book_1) (fun g => g = [.v (.tuple [.int m, .tuple ms]), .no]) (fun d : D => d) (isMe m) ms (fun x hx g hg => by
                  subst hg
                  exact ⟨[.v (.tuple [.int m, .tuple ms]), .v x], rfl, law_method_J hk (B := .tuple [.int m, .tuple ms]) rfl (gd_in gy hx)⟩) [.v (.tuple [.int m, .tuple ms]), .no] rfl
                rw [List.map_id'] at G
                cases ha : ms.all (isMe m) with
                | true =>
                  obtain ⟨g', G1, rfl⟩ := G.1 ha
                  ktf_call "ms"
                | false =>
                  obtain ⟨g', G1⟩ := G.2 ha
                  ktf_call "ms"
    · have hd : (!decide ((ds.length : Int) = 2)) = true := by simp; omega
      have e : isBk (.tuple ds) = false := isBk_sz (by rw [isSz_tup]; simp; omega)
      rw [e]
      ktf_call "ms"
/-! ### years -/
def isHs : D → Bool
  | .tuple hs => isAms hs.length (.tuple hs)
  | _ => false
def isWs (m : Nat) : D → D → Bool
  | .tuple hs, .tuple ws => decide (ws.length = hs.length) && ws.all (isAms m)
  | _, _ => false
def isYr : D → Bool
  | .tuple [.tuple [.int m, .tuple ms], s, h, w] => isBk (.tuple [.int m, .tuple ms]) && (isAms m.toNat s && (isSz 1 6 h && (isHs h && isWs m.toNat h w)))
  | _ => false
theorem isBk_of {d : D} (h : isBk d = true) : ∃ (m : Nat) (ms : List D), d = .tuple [.int m, .tuple ms] ∧ 1 ≤ m ∧ m ≤ 6 ∧ 1 ≤ ms.length ∧ ms.length ≤ 20 ∧ ms.all (isMe m) = true := by
  unfold isBk at h
  split at h
  · rename_i i ms
    simp only [Bool.and_eq_true, decide_eq_true_eq] at h
    obtain ⟨⟨h1, h2⟩, ⟨h3, h4⟩, h5⟩ := h
    obtain ⟨m, rfl⟩ := Int.eq_ofNat_of_zero_le (show 0 ≤ i by omega)
    exact ⟨m, ms, rfl, by omega, by omega, h3, h4, by simpa using h5⟩
  · cases h
theorem isYr_bk {b s h w : D} (hb : isBk b = false) : isYr (.tuple [b, s, h, w]) = false := by
  unfold isYr
  split
  · rename_i m ms s' h' w' e
    cases e
    rw [hb, Bool.false_and]
  · rfl
theorem isYr_sz {d : D} (h : isSz 4 4 d = false) : isYr d = false := by
  cases d with
  | tuple ds =>
    match ds, h with
    | [], _ => rfl
    | [_], _ => simp [isYr]
    | [_, _], _ => simp [isYr]
    | [_, _, _], _ => simp [isYr]
    | [_, _, _, _], h => simp [isSz] at h
    | _ :: _ :: _ :: _ :: _ :: _, _ => simp [isYr]
  | _ => rfl
theorem sz4 {d : D} (h : isSz 4 4 d = true) : ∃ x y z w, d = .tuple [x, y, z, w] := by
  obtain ⟨ds, rfl, h1, h2⟩ := isSz_of h
  match ds, h1, h2 with
  | [a, b, c, d], _, _ => exact ⟨a, b, c, d, rfl⟩
  | [], h, _ => simp at h
  | [_], h, _ => simp at h
  | [_, _], h, _ => simp at h
  | [_, _, _], h, _ => simp at h
  | _ :: _ :: _ :: _ :: _ :: _, _, h => simp at h; omega
theorem k_years : k_MOST_YEARS = .int 6 := rfl
theorem is_years_J {k : Nat} {d : D} (hd : gd k d = true) : m_is_years [d] = some (.v (.bool (isYr d))) := by
  have e1 := is_sized_J hd 4 4
  unfold m_is_years b_is_years
  rw [k_years]
  cases hz : isSz 4 4 d with
  | false =>
    rw [hz] at e1
    rw [isYr_sz hz]
    ktf_call "ms"
  | true =>
    rw [hz] at e1
    obtain ⟨b, s, h, w, rfl⟩ := sz4 hz
    have gb := gd_in hd (x := b) (by simp)
    have gs := gd_in hd (x := s) (by simp)
    have gh := gd_in hd (x := h) (by simp)
    have gw := gd_in hd (x := w) (by simp)
    have e2 := is_book_J gb
    cases hb : isBk b with
    | false =>
      rw [hb] at e2
      rw [isYr_bk hb]
      ktf_call "ms"
    | true =>
      rw [hb] at e2
      obtain ⟨m, ms, rfl, hm1, hm2, _⟩ := isBk_of hb
      have e3 := are_amounts_J (n := m) gs
      have e4 := is_sized_J gh 1 6
      simp only [isYr, hb, Bool.true_and, Int.toNat_natCast]
      cases hs : isAms m s with
      | false =>
        rw [hs] at e3
        rw [Bool.false_and]
        ktf_call "ms"
      | true =>
        rw [hs] at e3
        rw [Bool.true_and]
        cases hh : isSz 1 6 h with
        | false =>
          rw [hh] at e4
          rw [Bool.false_and]
          ktf_call "ms"
        | true =>
          rw [hh] at e4
          rw [Bool.true_and]
          obtain ⟨hs', rfl, hl1, hl2⟩ := isSz_of hh
          have e5 := are_amounts_J (n := hs'.length) gh
          have hl : lenD (.tuple hs') = some (.int (hs'.length : Nat)) := rfl
          simp only [isHs]
          cases ha : isAms hs'.length (.tuple hs') with
          | false =>
            rw [ha] at e5
            rw [Bool.false_and]
            ktf_call "ms"
          | true =>
            rw [ha] at e5
            rw [Bool.true_and]
            have e6 := is_sized_J gw hs'.length hs'.length
            cases hw : isSz (hs'.length : Nat) (hs'.length : Nat) w with
            | false =>
              rw [hw] at e6
              have e : isWs m (.tuple hs') w = false := by
                cases w <;> try rfl
                rename_i ws
                rw [isSz_tup] at hw
                simp only [isWs]
                rw [decide_eq_false (by intro z; rw [z] at hw; simp at hw)]
                rfl
              rw [e]
              ktf_call "ms"
            | true =>
              rw [hw] at e6
              obtain ⟨ws, rfl, w1, w2⟩ := isSz_of hw
              have hA : ∀ x ∈ ws, m_are_amounts [x, .int m] = some (.v (.bool (isAms m x))) := fun x hx => are_amounts_J (gd_in gw hx)
              have hsq : seqD (.tuple ws) = some ws := rfl
              have hlw := (gd_tup.mp gw).1
              simp only [isWs]
              rw [decide_eq_true (show ws.length = hs'.length by omega), Bool.true_and]
              show _ = some (Sl.v (.bool (ws.all fun x => isAms m x)))
              ktf_call "ms"
theorem law_years_J {k : Nat} (hk : k ≤ 8000) {d : D} (hd : gd k d = true) : m__law_is_years [d] = some (.v (.bool (isYr d))) := by
  have e1 := isi_tupJ hd
  unfold m__law_is_years b__law_is_years
  cases hz : isTup d with
  | false =>
    rw [hz] at e1
    have e : isYr d = false := by cases d <;> simp [isTup, isYr] at hz ⊢
    rw [e]
    ktf_call "ms"
  | true =>
    rw [hz] at e1
    obtain ⟨ds, rfl⟩ := isTup_of hz
    have hl : lenD (.tuple ds) = some (.int (ds.length : Nat)) := rfl
    by_cases h2 : ds.length = 4
    · have hd4 : (!decide ((ds.length : Int) = 4)) = false := by simp; omega
      match ds, h2 with
      | [b, s, h, w], _ =>
        have gb := gd_in hd (x := b) (by simp)
        have gs := gd_in hd (x := s) (by simp)
        have gh := gd_in hd (x := h) (by simp)
        have gw := gd_in hd (x := w) (by simp)
        have e2 := law_book_J hk gb
        cases hb : isBk b with
        | false =>
          rw [hb] at e2
          rw [isYr_bk hb]
          ktf_call "ms"
        | true =>
          rw [hb] at e2
          obtain ⟨m, ms, rfl, hm1, hm2, _⟩ := isBk_of hb
          have e3 := law_amounts_J hk (n := m) gs
          have e4 := isi_tupJ gh
          have e7 := isi_tupJ gw
          simp only [isYr, hb, Bool.true_and, Int.toNat_natCast]
          cases hh : isTup h with
          | false =>
            rw [hh] at e4
            have e : isSz 1 6 h = false := by cases h <;> simp [isTup, isSz] at hh ⊢
            rw [e, Bool.false_and, Bool.and_false]
            cases hs : isAms m s with
            | false =>
              rw [hs] at e3
              ktf_call "ms"
            | true =>
              rw [hs] at e3
              ktf_call "ms"
          | true =>
            rw [hh] at e4
            obtain ⟨hs', rfl⟩ := isTup_of hh
            have hlh : lenD (.tuple hs') = some (.int (hs'.length : Nat)) := rfl
            have e5 := law_amounts_J hk (n := hs'.length) gh
            cases hs : isAms m s with
            | false =>
              rw [hs] at e3
              rw [Bool.false_and]
              ktf_call "ms"
            | true =>
              rw [hs] at e3
              rw [Bool.true_and, isSz_tup]
              cases hn : (decide ((1 : Int) ≤ (hs'.length : Nat)) && decide (((hs'.length : Nat) : Int) ≤ 6)) with
              | false =>
                rw [Bool.false_and]
                ktf_call "ms"
              | true =>
                rw [Bool.true_and]
                simp only [isHs]
                cases ha : isAms hs'.length (.tuple hs') with
                | false =>
                  rw [ha] at e5
                  rw [Bool.false_and]
                  ktf_call "ms"
                | true =>
                  rw [ha] at e5
                  rw [Bool.true_and]
                  cases hw : isTup w with
                  | false =>
                    rw [hw] at e7
                    have e : isWs m (.tuple hs') w = false := by
                      cases w <;> first | rfl | (simp [isTup] at hw; done)
                    rw [e]
                    ktf_call "ms"
                  | true =>
                    rw [hw] at e7
                    obtain ⟨ws, rfl⟩ := isTup_of hw
                    have hlw : lenD (.tuple ws) = some (.int (ws.length : Nat)) := rfl
                    have hA : ∀ x ∈ ws, m__law_are_amounts [x, .int m] = some (.v (.bool (isAms m x))) := fun x hx => law_amounts_J hk (gd_in gw hx)
                    have hsq : seqD (.tuple ws) = some ws := rfl
                    have hlw := (gd_tup.mp gw).1
                    simp only [isWs]
                    by_cases hwl : ws.length = hs'.length
                    · have hq : (!decide (((ws.length : Nat) : Int) = (hs'.length : Nat))) = false := by simp; omega
                      rw [decide_eq_true hwl, Bool.true_and]
                      show _ = some (Sl.v (.bool (ws.all fun x => isAms m x)))
                      ktf_call "ms"
                    · have hq : (!decide (((ws.length : Nat) : Int) = (hs'.length : Nat))) = true := by simp; omega
                      rw [decide_eq_false hwl, Bool.false_and]
                      ktf_call "ms"
    · have hd4 : (!decide ((ds.length : Int) = 4)) = true := by simp; omega
      have e : isYr (.tuple ds) = false := isYr_sz (by rw [isSz_tup]; simp; omega)
      rw [e]
      ktf_call "ms"
structure Me where
  good : Nat
  uses : List Rat
  work : Rat
structure Bk where
  m : Nat
  ms : List Me
structure Yr where
  bk : Bk
  stocks : List Rat
  hands : List Rat
  wants : List (List Rat)
def rowD (l : List Rat) : D := .tuple (l.map qD)
def meD (e : Me) : D := .tuple [.int e.good, rowD e.uses, qD e.work]
def bkD (b : Bk) : D := .tuple [.int b.m, .tuple (b.ms.map meD)]
def yrD (y : Yr) : D := .tuple [bkD y.bk, rowD y.stocks, rowD y.hands, .tuple (y.wants.map rowD)]
def coD (c : List (List Rat)) : D := .tuple (c.map rowD)
structure Am (k : Nat) (r : Rat) : Prop where
  p : 0 ≤ r
  b : B0 k r
structure Row (k n : Nat) (l : List Rat) : Prop where
  len : l.length = n
  am : ∀ r ∈ l, Am k r
structure MeOk (k m : Nat) (e : Me) : Prop where
  good : e.good < m
  uses : Row k m e.uses
  work : Am k e.work
structure BkOk (k : Nat) (b : Bk) : Prop where
  lo : 1 ≤ b.m
  hi : b.m ≤ 6
  l1 : 1 ≤ b.ms.length
  l2 : b.ms.length ≤ 20
  ok : ∀ e ∈ b.ms, MeOk k b.m e
structure YrOk (k : Nat) (y : Yr) : Prop where
  bk : BkOk k y.bk
  st : Row k y.bk.m y.stocks
  lo : 1 ≤ y.hands.length
  hi : y.hands.length ≤ 6
  hn : Row k y.hands.length y.hands
  wl : y.wants.length = y.hands.length
  wn : ∀ w ∈ y.wants, Row k y.bk.m w
structure CoOk (k : Nat) (y : Yr) (c : List (List Rat)) : Prop where
  len : c.length = y.hands.length
  ok : ∀ p ∈ c, Row k y.bk.ms.length p
theorem isFr_of {k : Nat} {d : D} (h : isFr 0 d = true) (g : gd k d = true) : ∃ r : Rat, d = qD r ∧ Am k r := by
  unfold isFr at h
  split at h
  · rename_i a b
    simp only [Bool.and_eq_true, decide_eq_true_eq] at h
    obtain ⟨h1, h2, h3⟩ := h
    have f := fdiv_gcd (a := a) h1
    rw [h3] at f
    simp at f
    obtain ⟨ga, gb⟩ := gd2 g
    have ga : a.natAbs < 2 ^ k := by simpa [gd] using ga
    have gb : b.natAbs < 2 ^ k := by simpa [gd] using gb
    refine ⟨Rat.divInt a b, by unfold qD; rw [← f.1, ← f.2], Rat.num_nonneg.mp (by rw [← f.1]; exact h2), ⟨by rw [← f.1]; exact ga, by have := f.2; omega⟩⟩
  · cases h
theorem isFr_q (r : Rat) : isFr 0 (qD r) = decide (0 ≤ r) := by
  have h1 := r.den_pos
  have h2 := red r
  simp only [isFr, qD, h2, decide_true, Bool.and_true]
  rw [decide_eq_true (by omega), Bool.true_and]
  exact decide_eq_decide.mpr Rat.num_nonneg
theorem isAms_of {k n : Nat} {d : D} (h : isAms n d = true) (g : gd k d = true) : ∃ l, d = rowD l ∧ Row k n l := by
  cases d <;> simp [isAms] at h
  rename_i ds
  obtain ⟨l, hl, ha⟩ := mapOf (f := qD) (P := Am k) (ds := ds) fun d hd => isFr_of (h.2 d hd) (gd_in g hd)
  subst hl
  exact ⟨l, rfl, by simpa using h.1, ha⟩
theorem isAms_row {k n : Nat} {l : List Rat} (h : Row k n l) : isAms n (rowD l) = true := by
  simp only [isAms, rowD, List.length_map, h.len, decide_true, Bool.true_and, List.all_map, List.all_eq_true]
  intro r hr
  show isFr 0 (qD r) = true
  rw [isFr_q, decide_eq_true (h.am r hr).p]
theorem isMe_of {k m : Nat} {d : D} (h : isMe m d = true) (g : gd k d = true) : ∃ e, d = meD e ∧ MeOk k m e := by
  unfold isMe at h
  split at h
  · rename_i x u w
    simp only [Bool.and_eq_true] at h
    obtain ⟨h1, h2, h3⟩ := h
    obtain ⟨i, rfl, i1, i2⟩ := isW_of h1
    obtain ⟨n, rfl⟩ := Int.eq_ofNat_of_zero_le i1
    obtain ⟨l, rfl, hl⟩ := isAms_of h2 (gd_in g (by simp))
    obtain ⟨r, rfl, hr⟩ := isFr_of h3 (gd_in g (by simp))
    exact ⟨⟨n, l, r⟩, rfl, by simp only; omega, hl, hr⟩
  · cases h
theorem isMe_me {k m : Nat} {e : Me} (h : MeOk k m e) : isMe m (meD e) = true := by
  have hg := h.good
  simp only [isMe, meD, isAms_row h.uses, isFr_q, decide_eq_true h.work.p, isW, Bool.and_true]
  simp
  omega
theorem isBk_ofB {k : Nat} {d : D} (h : isBk d = true) (g : gd k d = true) : ∃ b, d = bkD b ∧ BkOk k b := by
  obtain ⟨m, ms, rfl, h1, h2, h3, h4, h5⟩ := isBk_of h
  have gm := (gd2 g).2
  obtain ⟨l, hl, ha⟩ := mapOf (f := meD) (P := MeOk k m) (ds := ms) fun d hd => isMe_of (List.all_eq_true.mp h5 d hd) (gd_in gm hd)
  subst hl
  exact ⟨⟨m, l⟩, rfl, h1, h2, by simpa using h3, by simpa using h4, ha⟩
theorem isBk_bk {k : Nat} {b : Bk} (h : BkOk k b) : isBk (bkD b) = true := by
  have h1 := h.lo
  have h2 := h.hi
  have h3 := h.l1
  have h4 := h.l2
  simp only [isBk, bkD, List.length_map, Bool.and_eq_true, decide_eq_true_eq, List.all_map, List.all_eq_true]
  refine ⟨⟨by omega, by omega⟩, ⟨h3, h4⟩, fun e he => ?_⟩
  exact isMe_me (h.ok e he)
theorem isYr_of {k : Nat} {d : D} (h : isYr d = true) (g : gd k d = true) : ∃ y, d = yrD y ∧ YrOk k y := by
  unfold isYr at h
  split at h
  · rename_i m ms s hh w
    simp only [Bool.and_eq_true] at h
    obtain ⟨h1, h2, h3, h4, h5⟩ := h
    obtain ⟨b, e, hb⟩ := isBk_ofB h1 (gd_in g (by simp))
    have em : m.toNat = b.m := by
      simp only [bkD, PyData.tuple.injEq, List.cons.injEq, PyData.int.injEq] at e
      omega
    rw [em] at h2 h5
    obtain ⟨st, rfl, hst⟩ := isAms_of h2 (gd_in g (by simp))
    cases hh <;> simp [isHs] at h4
    rename_i hs
    obtain ⟨hn, ehn, hhn⟩ := isAms_of h4 (gd_in g (by simp))
    cases w <;> simp [isWs] at h5
    rename_i ws
    have gw := gd_in g (x := .tuple ws) (by simp)
    obtain ⟨wl, ewl, hw⟩ := mapOf (f := rowD) (P := Row k b.m) (ds := ws) fun d hd => isAms_of (h5.2 d hd) (gd_in gw hd)
    have el : hs.length = hn.length := by
      have := congrArg (fun d => match d with | PyData.tuple l => l.length | _ => 0) ehn
      simpa [rowD] using this
    rw [isSz_tup] at h3
    simp only [Bool.and_eq_true, decide_eq_true_eq] at h3
    refine ⟨⟨b, st, hn, wl⟩, ?_, hb, hst, ?_, ?_, ?_, ?_, hw⟩
    · rw [e, ehn, ewl]; rfl
    · simp only; omega
    · simp only; omega
    · rw [el] at hhn; exact hhn
    · simp only; rw [← el, ← h5.1, ewl]; simp
  · cases h
theorem isYr_yr {k : Nat} {y : Yr} (h : YrOk k y) : isYr (yrD y) = true := by
  have h1 := h.lo
  have h2 := h.hi
  have e1 := isBk_bk h.bk
  unfold bkD at e1
  simp only [isYr, yrD, bkD, e1, Bool.true_and, Int.toNat_natCast, isAms_row h.st]
  have e2 : isSz 1 6 (rowD y.hands) = true := by
    unfold rowD
    rw [isSz_tup]
    simp
    omega
  have e3 : isHs (rowD y.hands) = true := by
    have := isAms_row h.hn
    unfold rowD at this ⊢
    simp only [isHs, List.length_map]
    exact this
  have e4 : isWs y.bk.m (rowD y.hands) (.tuple (y.wants.map rowD)) = true := by
    simp only [isWs, rowD, List.length_map, h.wl, decide_true, Bool.true_and, List.all_map, List.all_eq_true]
    exact fun w hw => isAms_row (h.wn w hw)
  rw [e2, e3, e4]
  rfl
def isCo (n m : Nat) : D → Bool
  | .tuple ps => decide (ps.length = n) && ps.all (isAms m)
  | _ => false
theorem is_course_J {k j : Nat} {y : Yr} {d : D} (hy : YrOk j y) (g : gd k d = true) : m_is_course [yrD y, d] = some (.v (.bool (isCo y.hands.length y.bk.ms.length d))) := by
  have e1 := is_sized_J g y.hands.length y.hands.length
  unfold m_is_course b_is_course
  have v2 : atD (yrD y) (.int 2) = some (rowD y.hands) := rfl
  have v0 : atD (yrD y) (.int 0) = some (bkD y.bk) := rfl
  have vl : lenD (rowD y.hands) = some (.int (y.hands.length : Nat)) := by simp [lenD, rowD]
  cases hz : isSz (y.hands.length : Nat) (y.hands.length : Nat) d with
  | false =>
    rw [hz] at e1
    have e : isCo y.hands.length y.bk.ms.length d = false := by
      cases d <;> try rfl
      rename_i ps
      rw [isSz_tup] at hz
      simp only [isCo]
      rw [decide_eq_false (by intro z; rw [z] at hz; simp at hz)]
      rfl
    rw [e]
    ktf_call "ms"
  | true =>
    rw [hz] at e1
    obtain ⟨ps, rfl, h1, h2⟩ := isSz_of hz
    have hA : ∀ x ∈ ps, m_is_plan_of [bkD y.bk, x] = some (.v (.bool (isAms y.bk.ms.length x))) := fun x hx => by
      have := is_plan_of_J (b := bkD y.bk) (ms := y.bk.ms.map meD) rfl (gd_in g hx)
      rwa [List.length_map] at this
    have hs : seqD (.tuple ps) = some ps := rfl
    have hl := (gd_tup.mp g).1
    simp only [isCo]
    rw [decide_eq_true (show ps.length = y.hands.length by omega), Bool.true_and]
    show _ = some (Sl.v (.bool (ps.all fun x => isAms y.bk.ms.length x)))
    ktf_call "ms"
theorem law_course_J {k j : Nat} (hk : k ≤ 8000) {y : Yr} {d : D} (hy : YrOk j y) (g : gd k d = true) : m__law_is_course [yrD y, d] = some (.v (.bool (isCo y.hands.length y.bk.ms.length d))) := by
  have e1 := isi_tupJ g
  unfold m__law_is_course b__law_is_course
  have v2 : atD (yrD y) (.int 2) = some (rowD y.hands) := rfl
  have v0 : atD (yrD y) (.int 0) = some (bkD y.bk) := rfl
  have vl : lenD (rowD y.hands) = some (.int (y.hands.length : Nat)) := by simp [lenD, rowD]
  have v1 : atD (bkD y.bk) (.int 1) = some (.tuple (y.bk.ms.map meD)) := rfl
  cases hz : isTup d with
  | false =>
    rw [hz] at e1
    have e : isCo y.hands.length y.bk.ms.length d = false := by cases d <;> first | rfl | (simp [isTup] at hz; done)
    rw [e]
    ktf_call "ms"
  | true =>
    rw [hz] at e1
    obtain ⟨ps, rfl⟩ := isTup_of hz
    have hlp : lenD (.tuple ps) = some (.int (ps.length : Nat)) := rfl
    have hs : seqD (.tuple ps) = some ps := rfl
    have hl := (gd_tup.mp g).1
    simp only [isCo]
    by_cases hq : ps.length = y.hands.length
    · have hq2 : (!decide (((ps.length : Nat) : Int) = (y.hands.length : Nat))) = false := by simp; omega
      have hA : ∀ x ∈ ps, m__law_are_amounts [x, .int (y.bk.ms.length : Nat)] = some (.v (.bool (isAms y.bk.ms.length x))) := fun x hx => law_amounts_J hk (gd_in g hx)
      rw [decide_eq_true hq, Bool.true_and]
      show _ = some (Sl.v (.bool (ps.all fun x => isAms y.bk.ms.length x)))
      ktf_call "ms"
    · have hq2 : (!decide (((ps.length : Nat) : Int) = (y.hands.length : Nat))) = true := by simp; omega
      rw [decide_eq_false hq, Bool.false_and]
      ktf_call "ms"
theorem isCo_of {k : Nat} {y : Yr} {d : D} (h : isCo y.hands.length y.bk.ms.length d = true) (g : gd k d = true) : ∃ c, d = coD c ∧ CoOk k y c := by
  cases d <;> simp [isCo] at h
  rename_i ps
  obtain ⟨l, hl, ha⟩ := mapOf (f := rowD) (P := Row k y.bk.ms.length) (ds := ps) fun d hd => isAms_of (h.2 d hd) (gd_in g hd)
  subst hl
  exact ⟨l, rfl, by simpa using h.1, ha⟩
theorem isCo_co {k : Nat} {y : Yr} {c : List (List Rat)} (h : CoOk k y c) : isCo y.hands.length y.bk.ms.length (coD c) = true := by
  simp only [isCo, coD, List.length_map, h.len, decide_true, Bool.true_and, List.all_map, List.all_eq_true]
  exact fun p hp => isAms_row (h.ok p hp)
local macro_rules | `(tactic| ktf_call "b0") => `(tactic| first | assumption | (refine B0.mono (by assumption) ?_; first | decide | omega))
local macro_rules | `(tactic| ktf_call "spec") => `(tactic| (with_reducible apply plus_ok) <;> ktf_call "b0")
local macro_rules | `(tactic| ktf_call "spec") => `(tactic| (with_reducible apply times_ok) <;> ktf_call "b0")
local macro_rules | `(tactic| ktf_call "spec") => `(tactic| (with_reducible apply law_add_ok) <;> ktf_call "b0")
local macro_rules | `(tactic| ktf_call "spec") => `(tactic| (with_reducible apply law_mul_ok) <;> ktf_call "b0")
theorem sumI {k N : Nat} (n : Nat) (h : n < N) : 1 + n * (k + 1) + k + 1 = 1 + (n + 1) * (k + 1) ∧ n * (k + 1) ≤ N * (k + 1) := ⟨by rw [Nat.add_mul]; omega, Nat.mul_le_mul_right _ (by omega)⟩
theorem summed_loops {k : Nat} (L : Sl) (rs : List Rat) (h : B0L k rs) (hk : k ≤ 4400) (hl : 1 + rs.length * (k + 1) ≤ 400000) :
    forGo (gVar 2) l_summed_1 (rs.map qD) [L, .v (qD 0), .no] = some (.nx [L, .v (qD (rs.foldl (· + ·) 0)), .no]) ∧ forGo (gVar 2) l__law_sum_1 (rs.map qD) [L, .v (qD 0), .no] = some (.nx [L, .v (qD (rs.foldl (· + ·) 0)), .no]) := by
  have h0 : B0 (1 + 0 * (k + 1)) 0 := b0_zero (by omega)
  constructor
  · refine (forGo_fold qD (fun a => [L, .v (qD a), .no]) (· + ·) (fun n a => B0 (1 + n * (k + 1)) a) rs.length rs 0 0 (by omega) h0 fun x hx n s hn hI => ?_).1
    obtain ⟨e1, e2⟩ := sumI (k := k) n hn
    have hx := h x hx
    have ha := hI.add hx
    rw [e1] at ha
    refine ⟨ha, ?_⟩
    unfold l_summed_1
    ktf_call "ms"
  · refine (forGo_fold qD (fun a => [L, .v (qD a), .no]) (· + ·) (fun n a => B0 (1 + n * (k + 1)) a) rs.length rs 0 0 (by omega) h0 fun x hx n s hn hI => ?_).1
    obtain ⟨e1, e2⟩ := sumI (k := k) n hn
    have hx := h x hx
    have ha := hI.add hx
    rw [e1] at ha
    refine ⟨ha, ?_⟩
    unfold l__law_sum_1
    ktf_call "ms"
theorem total_ok {α : Type} {k : Nat} {f : α → Rat} {l : List α} (h : ∀ x ∈ l, B0 k (f x)) (hk : k ≤ 4400) (hl : l.length ≤ 20) :
    m_summed [.list (l.map fun x => qD (f x))] = some (.v (qD (S f l))) ∧ m__law_sum [.list (l.map fun x => qD (f x))] = some (.v (qD (S f l))) := by
  have hB : B0L k (l.map f) := fun r hr => by
    obtain ⟨x, hx, rfl⟩ := List.mem_map.mp hr
    exact h x hx
  have h3 : l.length * (k + 1) ≤ 20 * (k + 1) := Nat.mul_le_mul_right _ hl
  have e : (l.map fun x => qD (f x)) = (l.map f).map qD := by simp
  have e2 := foldl_S f l 0
  rw [Rat.zero_add] at e2
  obtain ⟨c1, c2⟩ := summed_loops (.v (.list ((l.map f).map qD))) (l.map f) hB hk (by simp; omega)
  rw [e, ← e2]
  have hs : seqD (.list ((l.map f).map qD)) = some ((l.map f).map qD) := rfl
  constructor
  · unfold m_summed b_summed
    rw [show k_ZERO = qD 0 from rfl]
    ktf_call "ms"
  · unfold m__law_sum b__law_sum
    rw [q_zero] at c2
    ktf_call "ms"
/-! ### what is made, used, worked -/
abbrev zp (b : Bk) (p : List Rat) : List (Me × Rat) := b.ms.zip p
def usedR (b : Bk) (p : List Rat) (g : Nat) : Rat := S (fun q => q.1.uses.getD g 0 * q.2) (zp b p)
def madeR (b : Bk) (p : List Rat) (g : Nat) : Rat := S (fun q => if q.1.good = g then q.2 else 0) (zp b p)
def workR (b : Bk) (p : List Rat) : Rat := S (fun q => q.1.work * q.2) (zp b p)
section
variable {k j : Nat} {b : Bk} {p : List Rat} (hb : BkOk k b) (hp : Row j b.ms.length p) (hk : k + j ≤ 2000)
include hb hp
theorem zp_len : (zp b p).length ≤ 20 := by
  have := hb.l2
  unfold zp
  rw [List.length_zip]
  omega
theorem zp_me {q : Me × Rat} (h : q ∈ zp b p) : MeOk k b.m q.1 ∧ Am j q.2 := by
  have := List.of_mem_zip h
  exact ⟨hb.ok _ this.1, hp.am _ this.2⟩
theorem use_am {q : Me × Rat} (h : q ∈ zp b p) {g : Nat} (hg : g < b.m) : ∃ u, q.1.uses[g]? = some u ∧ q.1.uses.getD g 0 = u ∧ Am k u := by
  have hu := (zp_me hb hp h).1.uses
  have hl : g < q.1.uses.length := by rw [hu.len]; exact hg
  exact ⟨q.1.uses[g], List.getElem?_eq_getElem hl, by simp [List.getD_eq_getElem?_getD, hl], hu.am _ (List.getElem_mem hl)⟩
theorem zipMe : zipL (b.ms.map meD) (p.map qD) = (zp b p).map fun q => .tuple [meD q.1, qD q.2] := zipL_map _ _
include hk
theorem work_in_ok : m_work_in [bkD b, rowD p] = some (.v (qD (workR b p))) := by
  have hB : ∀ q ∈ zp b p, B0 (k + j) (q.1.work * q.2) := fun q hq => (zp_me hb hp hq).1.work.b.mul (zp_me hb hp hq).2.b
  have hW : ∀ q ∈ zp b p, B0 k q.1.work := fun q hq => (zp_me hb hp hq).1.work.b
  have hP : ∀ q ∈ zp b p, B0 j q.2 := fun q hq => (zp_me hb hp hq).2.b
  have e1 := (total_ok hB (by omega) (zp_len hb hp)).1
  have h20 := hb.l2
  unfold m_work_in b_work_in
  have tm : ∀ q ∈ zp b p, m_times [qD q.2, qD q.1.work] = some (.v (qD (q.1.work * q.2))) := fun q hq => by
    rw [Rat.mul_comm]
    exact times_ok ((hP q hq).mono (by omega)) ((hW q hq).mono (by omega))
  have v2 : ∀ q : Me × Rat, atD (meD q.1) (.int 2) = some (qD q.1.work) := fun q => rfl
  ktf_call "ms"
end
section
variable {k j : Nat} {b : Bk} {p : List Rat} (hb : BkOk k b) (hp : Row j b.ms.length p) (hk : k + j ≤ 2000)
include hb hp hk
theorem law_used_ok : m__law_used [bkD b, rowD p] = some (.own none ((List.range b.m).map fun g => qD (usedR b p g))) := by
  have h20 := hb.l2
  have h6 := hb.hi
  have H := forGo_apps (tg := gVar 3) (b := l__law_used_1) (fun (i : Nat) => PyData.int (i : Int)) (fun acc => [.v (bkD b), .v (rowD p), .own none acc, .no, .no, .no]) (fun g => qD (usedR b p g)) 6 (List.range b.m) [] (by simp; omega) (fun g hg acc hacc => by
    have hg := List.mem_range.mp hg
    have hU : ∀ q ∈ zp b p, ∃ u, q.1.uses[g]? = some u ∧ q.1.uses.getD g 0 = u ∧ Am k u := fun q hq => use_am hb hp hq hg
    have tm : ∀ q ∈ zp b p, m__law_mul [qD (q.1.uses.getD g 0), qD q.2] = some (.v (qD (q.1.uses.getD g 0 * q.2))) := fun q hq => by
      obtain ⟨u, _, e, hu⟩ := hU q hq
      rw [e]
      exact law_mul_ok (hu.b.mono (by omega)) ((zp_me hb hp hq).2.b.mono (by omega))
    have ta : ∀ q ∈ zp b p, atD (rowD q.1.uses) (.int (g : Int)) = some (qD (q.1.uses.getD g 0)) := fun q hq => by
      obtain ⟨u, e1, e2, _⟩ := hU q hq
      rw [e2]
      exact atD_map e1
    have tb : ∀ q : Me × Rat, atD (meD q.1) (.int 1) = some (rowD q.1.uses) := fun q => rfl
    have e1 := (total_ok (l := zp b p) (f := fun q => q.1.uses.getD g 0 * q.2) (k := k + j) (fun q hq => by
      obtain ⟨u, _, e, hu⟩ := hU q hq
      rw [e]
      exact hu.b.mul (zp_me hb hp hq).2.b) (by omega) (zp_len hb hp)).2
    unfold l__law_used_1
    ktf_call "ms")
  rw [List.nil_append] at H
  have v0 : atD (bkD b) (.int 0) = some (.int b.m) := rfl
  unfold m__law_used b__law_used
  ktf_call "ms"
theorem law_made_ok : m__law_made [bkD b, rowD p] = some (.own none ((List.range b.m).map fun g => qD (madeR b p g))) := by
  have h20 := hb.l2
  have h6 := hb.hi
  have H := forGo_apps (tg := gVar 3) (b := l__law_made_1) (fun (i : Nat) => PyData.int (i : Int)) (fun acc => [.v (bkD b), .v (rowD p), .own none acc, .no, .no, .no]) (fun g => qD (madeR b p g)) 6 (List.range b.m) [] (by simp; omega) (fun g hg acc hacc => by
    have ta : ∀ q : Me × Rat, atD (meD q.1) (.int 0) = some (.int (q.1.good : Nat)) := fun q => rfl
    have hl : ((zp b p).filter fun q => decide (((q.1.good : Nat) : Int) = g)).length ≤ 20 := Nat.le_trans (List.length_filter_le ..) (zp_len hb hp)
    have e1 := (total_ok (l := (zp b p).filter fun q => decide (((q.1.good : Nat) : Int) = g)) (f := fun q => q.2) (k := k + j) (fun q hq => ((zp_me hb hp (List.mem_filter.mp hq).1).2.b.mono (by omega))) (by omega) hl).2
    have e2 : S (fun q => q.2) ((zp b p).filter fun q => decide (((q.1.good : Nat) : Int) = g)) = madeR b p g := by
      unfold madeR
      generalize zp b p = l
      induction l with
      | nil => rfl
      | cons q l ih =>
        by_cases h : q.1.good = g
        · rw [List.filter_cons_of_pos (by simp [h])]
          simp only [S, ih, h, if_true]
        · rw [List.filter_cons_of_neg (by simp; omega)]
          simp only [S, ih, h, if_false, Rat.zero_add]
    rw [e2] at e1
    have hl2 : (List.map (fun q : Me × Rat => qD q.2) ((zp b p).filter fun q => decide (((q.1.good : Nat) : Int) = g))).length ≤ 1000000 := by simp only [List.length_map]; omega
    unfold l__law_made_1
    ktf_call "ms")
  rw [List.nil_append] at H
  have v0 : atD (bkD b) (.int 0) = some (.int b.m) := rfl
  unfold m__law_made b__law_made
  ktf_call "ms"
end
local macro_rules | `(tactic| ktf_call "b0") => `(tactic| first | assumption | (refine B0.mono (by assumption) ?_; first | decide | omega))
local macro_rules | `(tactic| ktf_call "spec") => `(tactic| (with_reducible apply plus_ok) <;> ktf_call "b0")
local macro_rules | `(tactic| ktf_call "spec") => `(tactic| (with_reducible apply times_ok) <;> ktf_call "b0")
theorem kz : k_ZERO = qD 0 := rfl
def stepU (acc : List Rat) (q : Me × Rat) : List Rat := if q.2 = 0 then acc else (acc.zip q.1.uses).map fun x => x.1 + q.2 * x.2
theorem stepU_len {acc : List Rat} {q : Me × Rat} {m : Nat} (h1 : acc.length = m) (h2 : q.1.uses.length = m) : (stepU acc q).length = m := by
  unfold stepU
  split
  · exact h1
  · simp [h1, h2]
theorem stepU_at {acc : List Rat} {q : Me × Rat} {m : Nat} (h1 : acc.length = m) (h2 : q.1.uses.length = m) {g : Nat} (hg : g < m) : (stepU acc q).getD g 0 = acc.getD g 0 + q.1.uses.getD g 0 * q.2 := by
  unfold stepU
  split
  · rename_i h
    rw [h, Rat.mul_zero, Rat.add_zero]
  · have a1 : g < acc.length := by omega
    have a2 : g < q.1.uses.length := by omega
    simp only [List.getD_eq_getElem?_getD, List.getElem?_map, List.getElem?_zip_eq_some, List.getElem?_eq_getElem a1, List.getElem?_eq_getElem a2, Option.getD_some]
    rw [List.getElem?_eq_getElem (by simp; omega)]
    simp [Rat.mul_comm]
theorem foldU : ∀ (l : List (Me × Rat)) (acc : List Rat) (m : Nat), acc.length = m → (∀ q ∈ l, q.1.uses.length = m) → (l.foldl stepU acc).length = m ∧ ∀ g, g < m → (l.foldl stepU acc).getD g 0 = acc.getD g 0 + S (fun q => q.1.uses.getD g 0 * q.2) l
  | [], acc, m, h, _ => ⟨h, fun g _ => by simp [S, Rat.add_zero]⟩
  | q :: l, acc, m, h, H => by
    have h2 := H q (List.mem_cons_self ..)
    obtain ⟨k1, k2⟩ := foldU l (stepU acc q) m (stepU_len h h2) fun q hq => H q (List.mem_cons_of_mem _ hq)
    refine ⟨k1, fun g hg => ?_⟩
    simp only [List.foldl_cons, S]
    rw [k2 g hg, stepU_at h h2 hg, Rat.add_assoc]
theorem list_of_at {l : List Rat} {m : Nat} {f : Nat → Rat} (h : l.length = m) (H : ∀ g, g < m → l.getD g 0 = f g) : l = (List.range m).map f := by
  refine List.ext_getElem (by simp [h]) fun i h1 h2 => ?_
  have := H i (by omega)
  simp only [List.getD_eq_getElem?_getD, List.getElem?_eq_getElem h1, Option.getD_some] at this
  simp [this]
theorem rep_at (m g : Nat) : (List.replicate m (0 : Rat)).getD g 0 = 0 := by
  simp only [List.getD_eq_getElem?_getD, List.getElem?_replicate]
  split <;> rfl
def stepM (acc : List Rat) (q : Me × Rat) : List Rat := acc.set q.1.good (acc.getD q.1.good 0 + q.2)
theorem stepM_at {acc : List Rat} {q : Me × Rat} {m : Nat} (h1 : acc.length = m) (h2 : q.1.good < m) {g : Nat} (hg : g < m) : (stepM acc q).getD g 0 = acc.getD g 0 + if q.1.good = g then q.2 else 0 := by
  unfold stepM
  by_cases h : q.1.good = g
  · subst h
    rw [if_pos rfl]
    simp [List.getD_eq_getElem?_getD, List.getElem?_set, h1, hg]
  · rw [if_neg h, Rat.add_zero]
    simp [List.getD_eq_getElem?_getD, List.getElem?_set, h]
theorem foldM : ∀ (l : List (Me × Rat)) (acc : List Rat) (m : Nat), acc.length = m → (∀ q ∈ l, q.1.good < m) → (l.foldl stepM acc).length = m ∧ ∀ g, g < m → (l.foldl stepM acc).getD g 0 = acc.getD g 0 + S (fun q => if q.1.good = g then q.2 else 0) l
  | [], acc, m, h, _ => ⟨h, fun g _ => by simp [S, Rat.add_zero]⟩
  | q :: l, acc, m, h, H => by
    have h2 := H q (List.mem_cons_self ..)
    obtain ⟨k1, k2⟩ := foldM l (stepM acc q) m (by unfold stepM; simp [h]) fun q hq => H q (List.mem_cons_of_mem _ hq)
    refine ⟨k1, fun g hg => ?_⟩
    simp only [List.foldl_cons, S]
    rw [k2 g hg, stepM_at h h2 hg, Rat.add_assoc]
theorem ixN_nat {n g : Nat} (h : g < n) : L2.ixN n (g : Int) = some g := by
  unfold L2.ixN
  rw [if_pos (by omega), if_pos (by omega)]
  simp
section
variable {k j : Nat} {b : Bk} {p : List Rat} (hb : BkOk k b) (hp : Row j b.ms.length p) (hk : k + j ≤ 2000)
include hb hp hk
theorem used_by_ok : m_used_by [bkD b, rowD p] = some (.v (rowD ((List.range b.m).map (usedR b p)))) := by
  have h20 := hb.l2
  have h6 := hb.hi
  have hz : (b.ms.zip p).length ≤ 20 := zp_len hb hp
  obtain ⟨H, HI⟩ := forGo_foldE (tg := gTup (gsCons (gTup (gsCons (gVar 3) (gsCons (gVar 4) (gsCons (gVar 5) gsNil))) 3) (gsCons (gVar 6) gsNil)) 2) (b := l_used_by_1) (fun q : Me × Rat => .tuple [meD q.1, qD q.2]) (fun acc => [.v (bkD b), .v (rowD p), .own none (acc.map qD), .no, .no, .no, .no, .no, .no]) stepU
    (fun n acc => acc.length = b.m ∧ ∀ r ∈ acc, B0 (1 + n * (k + j + 1)) r) 20 (b.ms.zip p) 0 (List.replicate b.m 0) (by omega) ⟨by simp, fun r hr => by rw [(List.mem_replicate.mp hr).2]; exact b0_zero (by omega)⟩ (fun q hq n acc hn hI => by
      obtain ⟨hl, hB⟩ := hI
      obtain ⟨hme, ham⟩ := zp_me hb hp hq
      have hu := hme.uses
      have hn2 : n * (k + j + 1) ≤ 20 * (k + j + 1) := Nat.mul_le_mul_right _ (by omega)
      have hX : ∀ x ∈ acc.zip q.1.uses, B0 (1 + n * (k + j + 1)) x.1 ∧ B0 k x.2 := fun x hx => by
        have := List.of_mem_zip hx
        exact ⟨hB _ this.1, (hu.am _ this.2).b⟩
      have hE : 1 + n * (k + j + 1) + (j + k) + 1 = 1 + (n + 1) * (k + j + 1) := by rw [Nat.add_mul]; omega
      refine ⟨⟨stepU_len hl hu.len, fun r hr => ?_⟩, ?_⟩
      · unfold stepU at hr
        split at hr
        · exact (hB r hr).mono (by rw [← hE]; omega)
        · obtain ⟨x, hx, rfl⟩ := List.mem_map.mp hr
          obtain ⟨h1, h2⟩ := hX x hx
          have := h1.add (ham.b.mul h2)
          rwa [hE] at this
      · have hL := hu.len
        have hul : q.1.uses.length ≤ 6 := by omega
        by_cases h0 : q.2 = 0
        · have hd : (!decide (q.2 = 0)) = false := by simp [h0]
          have es : stepU acc q = acc := by unfold stepU; rw [if_pos h0]
          rw [es]
          apply ex_fo
          · ktf_call "ms"
          · unfold l_used_by_1
            rw [kz]
            ktf_call "ms"
          · rfl
        · have hd : (!decide (q.2 = 0)) = true := by simp [h0]
          have es : stepU acc q = (acc.zip q.1.uses).map fun x => x.1 + q.2 * x.2 := by unfold stepU; rw [if_neg h0]
          have tm : ∀ x ∈ acc.zip q.1.uses, m_times [qD q.2, qD x.2] = some (.v (qD (q.2 * x.2))) := fun x hx => times_ok (ham.b.mono (by omega)) ((hX x hx).2.mono (by omega))
          have tp : ∀ x ∈ acc.zip q.1.uses, m_plus [qD x.1, qD (q.2 * x.2)] = some (.v (qD (x.1 + q.2 * x.2))) := fun x hx => plus_ok ((hX x hx).1.mono (by omega)) ((ham.b.mul (hX x hx).2).mono (by omega))
          rw [es]
          apply ex_fo
          · ktf_call "ms"
          · unfold l_used_by_1
            rw [kz]
            ktf_call "ms"
          · simp only [List.map_map]
            rfl)
  obtain ⟨f1, f2⟩ := foldU (b.ms.zip p) (List.replicate b.m 0) b.m (by simp) (fun q hq => (zp_me hb hp hq).1.uses.len)
  have fe := list_of_at f1 (f := usedR b p) fun g hg => by rw [f2 g hg, rep_at, Rat.zero_add]; rfl
  rw [fe] at H
  have hv : ∀ z : List Sl, vRep (vLst (aCons (eC (qD 0)) aNil)) (eIxV 0 (eC (.int 0))) (.v (bkD b) :: z) = some (.own none ((List.replicate b.m (0 : Rat)).map qD), .v (bkD b) :: z) := fun z => by
    rw [← rep_zero]
    have v0 : atD (bkD b) (.int 0) = some (.int b.m) := rfl
    ktf_call "ms"
  unfold m_used_by b_used_by rowD
  unfold rowD at H
  rw [kz]
  have hv' := hv [.v (.tuple (p.map qD)), .no, .no, .no, .no, .no, .no, .no]
  ktf_call "ms"
theorem made_by_ok : m_made_by [bkD b, rowD p] = some (.v (rowD ((List.range b.m).map (madeR b p)))) := by
  have h20 := hb.l2
  have h6 := hb.hi
  have hz : (b.ms.zip p).length ≤ 20 := zp_len hb hp
  obtain ⟨H, HI⟩ := forGo_foldE (tg := gTup (gsCons (gTup (gsCons (gVar 3) (gsCons (gVar 4) (gsCons (gVar 5) gsNil))) 3) (gsCons (gVar 6) gsNil)) 2) (b := l_made_by_1) (fun q : Me × Rat => .tuple [meD q.1, qD q.2]) (fun acc => [.v (bkD b), .v (rowD p), .own none (acc.map qD), .no, .no, .no, .no]) stepM
    (fun n acc => acc.length = b.m ∧ ∀ r ∈ acc, B0 (1 + n * (j + 1)) r) 20 (b.ms.zip p) 0 (List.replicate b.m 0) (by omega) ⟨by simp, fun r hr => by rw [(List.mem_replicate.mp hr).2]; exact b0_zero (by omega)⟩ (fun q hq n acc hn hI => by
      obtain ⟨hl, hB⟩ := hI
      obtain ⟨hme, ham⟩ := zp_me hb hp hq
      have hg := hme.good
      have hn2 : n * (j + 1) ≤ 20 * (j + 1) := Nat.mul_le_mul_right _ (by omega)
      have hE : 1 + n * (j + 1) + j + 1 = 1 + (n + 1) * (j + 1) := by rw [Nat.add_mul]; omega
      obtain ⟨r0, hr0⟩ : ∃ r, acc[q.1.good]? = some r := ⟨acc[q.1.good]'(by omega), List.getElem?_eq_getElem (by omega)⟩
      have hd : acc.getD q.1.good 0 = r0 := by rw [List.getD_eq_getElem?_getD, hr0]; rfl
      have hB0 := hB r0 (List.mem_of_getElem? hr0)
      refine ⟨⟨by unfold stepM; simp [hl], fun r hr => ?_⟩, ?_⟩
      · unfold stepM at hr
        rw [hd] at hr
        rcases List.mem_or_eq_of_mem_set hr with h | h
        · exact (hB r h).mono (by rw [← hE]; omega)
        · rw [h, ← hE]; exact hB0.add ham.b
      · have tp : m_plus [qD r0, qD q.2] = some (.v (qD (r0 + q.2))) := plus_ok (hB0.mono (by omega)) (ham.b.mono (by omega))
        have ta : atD (.list (acc.map qD)) (.int ((q.1.good : Nat) : Int)) = some (qD r0) := atD_mapL hr0
        have ti : L2.ixN (acc.map qD).length ((q.1.good : Nat) : Int) = some q.1.good := ixN_nat (by simp; omega)
        apply ex_fo
        · ktf_call "ms"
        · unfold l_made_by_1
          ktf_call "ms"
        · unfold stepM
          rw [hd, List.map_set])
  obtain ⟨f1, f2⟩ := foldM (b.ms.zip p) (List.replicate b.m 0) b.m (by simp) (fun q hq => (zp_me hb hp hq).1.good)
  have fe := list_of_at f1 (f := madeR b p) fun g hg => by rw [f2 g hg, rep_at, Rat.zero_add]; rfl
  rw [fe] at H
  have hv : ∀ z : List Sl, vRep (vLst (aCons (eC (qD 0)) aNil)) (eIxV 0 (eC (.int 0))) (.v (bkD b) :: z) = some (.own none ((List.replicate b.m (0 : Rat)).map qD), .v (bkD b) :: z) := fun z => by
    rw [← rep_zero]
    have v0 : atD (bkD b) (.int 0) = some (.int b.m) := rfl
    ktf_call "ms"
  unfold m_made_by b_made_by rowD
  unfold rowD at H
  rw [kz]
  have hv' := hv [.v (.tuple (p.map qD)), .no, .no, .no, .no, .no]
  ktf_call "ms"
end
/-! ### the course led: what it comes to -/
def rowF (m : Nat) (f : Nat → Rat) : D := .tuple ((List.range m).map fun g => qD (f g))
theorem rowD_range (m : Nat) (f : Nat → Rat) : rowD ((List.range m).map f) = rowF m f := by simp [rowD, rowF]
@[irreducible] def usedI (b : Bk) (p : List Rat) (g : Nat) : Rat := usedR b p g
@[irreducible] def madeI (b : Bk) (p : List Rat) (g : Nat) : Rat := madeR b p g
@[irreducible] def workI (b : Bk) (p : List Rat) : Rat := workR b p
theorem usedI_eq : usedI = usedR := by funext b p g; unfold usedI; rfl
theorem madeI_eq : madeI = madeR := by funext b p g; unfold madeI; rfl
theorem workI_eq : workI = workR := by funext b p; unfold workI; rfl
inductive Led where
  | hands (t : Nat) | used (t g : Nat) | taken (t g : Nat) | ok (rows : List (Nat → Rat))
@[irreducible] def wantF (y : Yr) (t g : Nat) : Rat := (y.wants.getD t []).getD g 0
def short (m : Nat) (a b : Nat → Rat) : List Nat := (List.range m).filter fun g => decide (a g < b g)
@[irreducible] def leftF (y : Yr) (p : List Rat) (h : Nat → Rat) : Nat → Rat := fun g => h g - usedI y.bk p g
@[irreducible] def moreF (y : Yr) (p : List Rat) (h : Nat → Rat) : Nat → Rat := fun g => leftF y p h g + madeI y.bk p g
@[irreducible] def nextF (y : Yr) (t : Nat) (p : List Rat) (h : Nat → Rat) : Nat → Rat := fun g => moreF y p h g - wantF y t g
def ledGo (y : Yr) : Nat → List (List Rat) → (Nat → Rat) → List (Nat → Rat) → Led
  | _, [], _, f => .ok f
  | t, p :: ps, h, f => if y.hands.getD t 0 < workI y.bk p then .hands t else
    match short y.bk.m h (usedI y.bk p) with
    | g :: _ => .used t g
    | [] => match short y.bk.m (moreF y p h) (wantF y t) with
      | g :: _ => .taken t g
      | [] => ledGo y (t + 1) ps (nextF y t p h) (f ++ [nextF y t p h])
def ledSl (m : Nat) : Led → Sl
  | .hands t => .v (.tuple [.str (Str.ofString "hands"), .int t])
  | .used t g => .v (.tuple [.str (Str.ofString "used"), .int t, .int g])
  | .taken t g => .v (.tuple [.str (Str.ofString "taken"), .int t, .int g])
  | .ok rows => .own none (rows.map (rowF m))
/-! ### bounds -/
def cB (k : Nat) : Nat := 61 * k + 60
structure HB (k m n : Nat) (h : Nat → Rat) : Prop where
  b : ∀ g, g < m → B0 n (h g)
section
variable {k : Nat} {y : Yr} {p : List Rat} (hy : YrOk k y) (hp : Row k y.bk.ms.length p) (hk : k ≤ 60)
include hy hp hk
theorem used_b {g : Nat} (hg : g < y.bk.m) : B0 (40 * k + 21) (usedI y.bk p g) := by
  rw [usedI_eq]
  have := S_b1 (k := 2 * k) (f := fun q : Me × Rat => q.1.uses.getD g 0 * q.2) (l := zp y.bk p) (fun q hq => by
    obtain ⟨u, _, e, hu⟩ := use_am hy.bk hp hq hg
    rw [e]
    exact (hu.b.mul (zp_me hy.bk hp hq).2.b).mono (by omega))
  refine this.mono ?_
  have h1 : (zp y.bk p).length * (2 * k + 1) ≤ 20 * (2 * k + 1) := Nat.mul_le_mul_right _ (zp_len hy.bk hp)
  omega
theorem made_b (g : Nat) : B0 (20 * k + 41) (madeI y.bk p g) := by
  rw [madeI_eq]
  have := S_b1 (k := k + 1) (f := fun q : Me × Rat => if q.1.good = g then q.2 else 0) (l := zp y.bk p) (fun q hq => by
    split
    · exact (zp_me hy.bk hp hq).2.b.mono (by omega)
    · exact b0_zero (by omega))
  refine this.mono ?_
  have h1 : (zp y.bk p).length * (k + 1 + 1) ≤ 20 * (k + 1 + 1) := Nat.mul_le_mul_right _ (zp_len hy.bk hp)
  omega
theorem work_b : B0 (40 * k + 21) (workI y.bk p) := by
  rw [workI_eq]
  have := S_b1 (k := 2 * k) (f := fun q : Me × Rat => q.1.work * q.2) (l := zp y.bk p) (fun q hq => ((zp_me hy.bk hp hq).1.work.b.mul (zp_me hy.bk hp hq).2.b).mono (by omega))
  refine this.mono ?_
  have h1 : (zp y.bk p).length * (2 * k + 1) ≤ 20 * (2 * k + 1) := Nat.mul_le_mul_right _ (zp_len hy.bk hp)
  omega
omit hp hk in
theorem want_at {t : Nat} (ht : t < y.hands.length) : y.wants[t]? = some (y.wants.getD t []) ∧ Row k y.bk.m (y.wants.getD t []) := by
  have hl : t < y.wants.length := by rw [hy.wl]; exact ht
  have e : y.wants.getD t [] = y.wants[t] := by rw [List.getD_eq_getElem?_getD, List.getElem?_eq_getElem hl]; rfl
  rw [e]
  exact ⟨List.getElem?_eq_getElem hl, hy.wn _ (List.getElem_mem hl)⟩
omit hp hk in
theorem want_row {t : Nat} (ht : t < y.hands.length) : rowD (y.wants.getD t []) = rowF y.bk.m (wantF y t) := by
  obtain ⟨_, h⟩ := want_at hy ht
  rw [← rowD_range]
  congr 1
  exact list_of_at h.len fun g hg => by unfold wantF; rfl
omit hp hk in
theorem want_b {t g : Nat} (ht : t < y.hands.length) (hg : g < y.bk.m) : Am k (wantF y t g) := by
  obtain ⟨_, h⟩ := want_at hy ht
  have hl : g < (y.wants.getD t []).length := by rw [h.len]; exact hg
  have e : wantF y t g = (y.wants.getD t [])[g] := by unfold wantF; rw [List.getD_eq_getElem?_getD (l := y.wants.getD t []), List.getElem?_eq_getElem hl]; rfl
  rw [e]
  exact h.am _ (List.getElem_mem hl)
omit hp hk in
theorem hand_at {t : Nat} (ht : t < y.hands.length) : y.hands[t]? = some (y.hands.getD t 0) ∧ Am k (y.hands.getD t 0) := by
  have e : y.hands.getD t 0 = y.hands[t] := by rw [List.getD_eq_getElem?_getD, List.getElem?_eq_getElem ht]; rfl
  rw [e]
  exact ⟨List.getElem?_eq_getElem ht, hy.hn.am _ (List.getElem_mem ht)⟩
theorem next_b {t n : Nat} (ht : t < y.hands.length) {h : Nat → Rat} (hh : HB k y.bk.m n h) : HB k y.bk.m (n + (40 * k + 22)) (leftF y p h) ∧ HB k y.bk.m (n + (60 * k + 64)) (moreF y p h) ∧ HB k y.bk.m (n + (61 * k + 65)) (nextF y t p h) := by
  have h1 : ∀ g, g < y.bk.m → B0 (n + (40 * k + 22)) (leftF y p h g) := fun g hg => by
    unfold leftF
    rw [Rat.sub_eq_add_neg]
    exact ((hh.b g hg).add (used_b hy hp hk hg).neg).mono (by omega)
  have h2 : ∀ g, g < y.bk.m → B0 (n + (60 * k + 64)) (moreF y p h g) := fun g hg => by
    unfold moreF
    exact ((h1 g hg).add (made_b hy hp hk g)).mono (by omega)
  refine ⟨⟨h1⟩, ⟨h2⟩, ⟨fun g hg => ?_⟩⟩
  unfold nextF
  rw [Rat.sub_eq_add_neg]
  exact ((h2 g hg).add (want_b hy ht hg).b.neg).mono (by omega)
end
theorem minus_ok {r s : Rat} (hr : B0 400000 r) (hs : B0 4400 s) : m_minus [qD r, qD s] = some (.v (qD (r - s))) := by
  have e := plus_ok hr hs.neg
  have e2 : qD (-s) = .tuple [.int (-s.num), .int s.den] := by simp [qD]
  rw [e2] at e
  rw [Rat.sub_eq_add_neg]
  unfold m_minus b_minus
  ktf_call "ms"
theorem law_sub_ok {r s : Rat} (hr : B0 400000 r) (hs : B0 4400 s) : m__law_sub [qD r, qD s] = some (.v (qD (r - s))) := by
  have e := law_add_ok hr hs.neg
  have e2 : qD (-s) = .tuple [.int (0 - s.num), .int s.den] := by simp [qD]
  rw [e2] at e
  rw [Rat.sub_eq_add_neg]
  unfold m__law_sub b__law_sub
  ktf_call "ms"
theorem ex_3 {t : Fg} {b : Fs} {g g1 : G} {d : D} {o : Out} {P : Out → Prop} (h1 : t d g = some g1) (h2 : b g1 = some o) (h3 : P o) : ∃ o, (∃ g1, t d g = some g1 ∧ b g1 = some o) ∧ P o := ⟨o, ⟨g1, h1, h2⟩, h3⟩
abbrev tgt2 (i j : Nat) : Fg := gTup (gsCons (gVar i) (gsCons (gVar j) gsNil)) 2
theorem short_ne {α : Type} (f : α → D) (l : List α) : (!((l.map f).isEmpty)) = !l.isEmpty := by cases l <;> rfl
theorem short_prog (m : Nat) (a b : Nat → Rat) : ((List.range m).filter fun g => decide ((a g - b g).num < 0)) = short m a b := by
  unfold short
  congr 1
  funext g
  exact sub_lt _ _
/-- one year -/
def progE (y : Yr) (c : List (List Rat)) (Z : Sl) (rows : List (Nat → Rat)) : G := [.v (yrD y), .v (coD c), .v (bkD y.bk), Z, .own none (rows.map (rowF y.bk.m)), .no, .no, .no, .no, .no, .no, .no, .no, .no, .no]
def isZ (m : Nat) (h : Nat → Rat) (Z : Sl) : Prop := Z = .v (rowF m h) ∨ Z = .v (.list ((List.range m).map fun g => qD (h g)))
theorem prog_year {k n t : Nat} {y : Yr} {c : List (List Rat)} {p : List Rat} {h : Nat → Rat} {Z : Sl} {rows : List (Nat → Rat)} (hy : YrOk k y) (hp : Row k y.bk.ms.length p) (hk : k ≤ 60) (hh : HB k y.bk.m n h) (hn : n ≤ 300000) (ht : t < y.hands.length) (hZ : isZ y.bk.m h Z) (hr : rows.length ≤ 100) :
    ∃ o, (∃ g1, tgt2 5 6 (.tuple [.int (t : Nat), rowD p]) (progE y c Z rows) = some g1 ∧ l_raw_led_1 g1 = some o) ∧ (match ledGo y t [p] h rows with | .ok r2 => ∃ Z', isZ y.bk.m (nextF y t p h) Z' ∧ o = .nx (progE y c Z' r2) | l => ∃ g', o = .ret (ledSl y.bk.m l) g') := by
  obtain ⟨q1, q2⟩ := hand_at hy ht
  have q3 := work_b hy hp hk
  have q4 := fun {g} (hg : g < y.bk.m) => used_b hy hp hk hg
  obtain ⟨w1, _⟩ := want_at hy ht
  have w2 := want_row hy ht
  obtain ⟨b1, b2, b3⟩ := next_b hy hp hk ht hh
  have e0 : m_work_in [bkD y.bk, rowD p] = some (.v (qD (workI y.bk p))) := by rw [workI_eq]; exact work_in_ok hy.bk hp (by omega)
  have e1 := (less_ok (r := y.hands.getD t 0) (s := workI y.bk p) (q2.b.mono (by omega)) (q3.mono (by omega))).1
  have a2 : atD (yrD y) (.int 2) = some (rowD y.hands) := rfl
  have a3 : atD (yrD y) (.int 3) = some (.tuple (y.wants.map rowD)) := rfl
  have a4 : atD (rowD y.hands) (.int (t : Nat)) = some (qD (y.hands.getD t 0)) := atD_map q1
  have a5 : atD (.tuple (y.wants.map rowD)) (.int (t : Nat)) = some (rowF y.bk.m (wantF y t)) := by rw [← w2]; exact atD_map w1
  have e2 : m_used_by [bkD y.bk, rowD p] = some (.v (rowF y.bk.m (usedI y.bk p))) := by rw [usedI_eq, ← rowD_range]; exact used_by_ok hy.bk hp (by omega)
  have e3 : m_made_by [bkD y.bk, rowD p] = some (.v (rowF y.bk.m (madeI y.bk p))) := by rw [madeI_eq, ← rowD_range]; exact made_by_ok hy.bk hp (by omega)
  have m6 := hy.bk.hi
  have cr : ∀ g ∈ List.range y.bk.m, g < y.bk.m := fun g hg => List.mem_range.mp hg
  have f1 : ∀ g ∈ List.range y.bk.m, m_minus [qD (h g), qD (usedI y.bk p g)] = some (.v (qD (leftF y p h g))) := fun g hg => by
    have := minus_ok ((hh.b g (cr g hg)).mono (by omega)) ((q4 (cr g hg)).mono (by omega))
    unfold leftF
    exact this
  have f2 : ∀ g ∈ List.range y.bk.m, m_plus [qD (leftF y p h g), qD (madeI y.bk p g)] = some (.v (qD (moreF y p h g))) := fun g hg => by
    have := plus_ok ((b1.b g (cr g hg)).mono (by omega)) ((made_b hy hp hk g).mono (by omega))
    unfold moreF
    exact this
  have f3 : ∀ g ∈ List.range y.bk.m, m_minus [qD (moreF y p h g), qD (wantF y t g)] = some (.v (qD (nextF y t p h g))) := fun g hg => by
    have := minus_ok ((b2.b g (cr g hg)).mono (by omega)) ((want_b hy ht (cr g hg)).b.mono (by omega))
    unfold nextF
    exact this
  have s1 : ((List.range y.bk.m).filter fun g => decide ((leftF y p h g).num < 0)) = short y.bk.m h (usedI y.bk p) := by rw [← short_prog]; unfold leftF; rfl
  have s2 : ((List.range y.bk.m).filter fun g => decide ((nextF y t p h g).num < 0)) = short y.bk.m (moreF y p h) (wantF y t) := by rw [← short_prog]; unfold nextF; rfl
  have n0 : ∀ r : Rat, atD (qD r) (.int 0) = some (.int r.num) := fun r => rfl
  have hl1 : ∀ P : Nat → Bool, (List.map (fun g => PyData.int ((g : Nat) : Int)) (List.filter P (List.range y.bk.m))).length ≤ 1000000 := fun P => by
    have := List.length_filter_le P (List.range y.bk.m)
    simp only [List.length_map, List.length_range] at this ⊢
    omega
  unfold ledGo
  unfold progE
  by_cases h1 : y.hands.getD t 0 < workI y.bk p
  · have hd : decide (y.hands.getD t 0 < workI y.bk p) = true := decide_eq_true h1
    rw [if_pos h1]
    apply ex_3
    · ktf_call "ms"
    · unfold l_raw_led_1
      ktf_call "ms"
    · exact ⟨_, rfl⟩
  · have hd : decide (y.hands.getD t 0 < workI y.bk p) = false := decide_eq_false h1
    rw [if_neg h1]
    cases k1 : short y.bk.m h (usedI y.bk p) with
    | cons g r =>
      have t1 : (!(List.map (fun g => PyData.int ((g : Nat) : Int)) ((List.range y.bk.m).filter fun g => decide ((leftF y p h g).num < 0))).isEmpty) = true := by rw [s1, k1]; rfl
      have t2 : atD (.list (List.map (fun g => PyData.int ((g : Nat) : Int)) ((List.range y.bk.m).filter fun g => decide ((leftF y p h g).num < 0)))) (.int 0) = some (.int (g : Nat)) := by rw [s1, k1]; exact atD_mapL (f := fun g : Nat => PyData.int (g : Int)) (l := g :: r) (i := 0) rfl
      rcases hZ with rfl | rfl
      · apply ex_3
        · ktf_call "ms"
        · unfold l_raw_led_1
          ktf_call "ms"
        · exact ⟨_, rfl⟩
      · apply ex_3
        · ktf_call "ms"
        · unfold l_raw_led_1
          ktf_call "ms"
        · exact ⟨_, rfl⟩
    | nil =>
      have t1 : (!(List.map (fun g => PyData.int ((g : Nat) : Int)) ((List.range y.bk.m).filter fun g => decide ((leftF y p h g).num < 0))).isEmpty) = false := by rw [s1, k1]; rfl
      cases k2 : short y.bk.m (moreF y p h) (wantF y t) with
      | cons g r =>
        have t3 : (!(List.map (fun g => PyData.int ((g : Nat) : Int)) ((List.range y.bk.m).filter fun g => decide ((nextF y t p h g).num < 0))).isEmpty) = true := by rw [s2, k2]; rfl
        have t4 : atD (.list (List.map (fun g => PyData.int ((g : Nat) : Int)) ((List.range y.bk.m).filter fun g => decide ((nextF y t p h g).num < 0)))) (.int 0) = some (.int (g : Nat)) := by rw [s2, k2]; exact atD_mapL (f := fun g : Nat => PyData.int (g : Int)) (l := g :: r) (i := 0) rfl
        rcases hZ with rfl | rfl
        · apply ex_3
          · ktf_call "ms"
          · unfold l_raw_led_1
            ktf_call "ms"
          · exact ⟨_, rfl⟩
        · apply ex_3
          · ktf_call "ms"
          · unfold l_raw_led_1
            ktf_call "ms"
          · exact ⟨_, rfl⟩
      | nil =>
        have t3 : (!(List.map (fun g => PyData.int ((g : Nat) : Int)) ((List.range y.bk.m).filter fun g => decide ((nextF y t p h g).num < 0))).isEmpty) = false := by rw [s2, k2]; rfl
        rcases hZ with rfl | rfl
        · apply ex_3
          · ktf_call "ms"
          · unfold l_raw_led_1
            ktf_call "ms"
          · simp only [ledGo, List.map_append]
            exact ⟨_, .inr rfl, rfl⟩
        · apply ex_3
          · ktf_call "ms"
          · unfold l_raw_led_1
            ktf_call "ms"
          · simp only [ledGo, List.map_append]
            exact ⟨_, .inr rfl, rfl⟩
local macro_rules | `(tactic| ktf_call "b0") => `(tactic| first | assumption | (refine B0.mono (by assumption) ?_; first | decide | omega))
theorem law_dot_ok {k j : Nat} {b : Bk} {p : List Rat} (hb : BkOk k b) (hp : Row j b.ms.length p) (hk : k + j ≤ 2000) : m__law_dot [.list (b.ms.map fun e => qD e.work), rowD p] = some (.v (qD (workR b p))) := by
  have hl : (b.ms.zip p).length ≤ 20 := zp_len hb hp
  have h20 := hb.l2
  have tm : ∀ q ∈ b.ms.zip p, m__law_mul [qD q.1.work, qD q.2] = some (.v (qD (q.1.work * q.2))) := fun q hq => law_mul_ok ((zp_me hb hp hq).1.work.b.mono (by omega)) ((zp_me hb hp hq).2.b.mono (by omega))
  have e1 := (total_ok (l := b.ms.zip p) (f := fun q => q.1.work * q.2) (k := k + j) (fun q hq => (zp_me hb hp hq).1.work.b.mul (zp_me hb hp hq).2.b) (by omega) hl).2
  unfold m__law_dot b__law_dot
  ktf_call "ms"
def lawE (y : Yr) (c : List (List Rat)) (rows : List (Nat → Rat)) : G := [.v (yrD y), .v (coD c), .v (bkD y.bk), .v (rowD y.stocks), .v (rowD y.hands), .v (.tuple (y.wants.map rowD)), .own none (rows.map (rowF y.bk.m)), .no, .no, .no, .no, .no, .no, .no, .no, .no, .no, .no, .no]
theorem law_year {k n t : Nat} {y : Yr} {c : List (List Rat)} {p : List Rat} {h : Nat → Rat} {rows : List (Nat → Rat)} (hy : YrOk k y) (hp : Row k y.bk.ms.length p) (hk : k ≤ 60) (hh : HB k y.bk.m n h) (hn : n ≤ 300000) (ht : t < y.hands.length) (hZ : ∃ r, rows = r ++ [h]) (hr : rows.length ≤ 100) :
    ∃ o, (∃ g1, tgt2 7 8 (.tuple [.int (t : Nat), rowD p]) (lawE y c rows) = some g1 ∧ l__law_led_1 g1 = some o) ∧ (match ledGo y t [p] h rows with | .ok r2 => o = .nx (lawE y c r2) | l => ∃ g', o = .ret (ledSl y.bk.m l) g') := by
  obtain ⟨q1, q2⟩ := hand_at hy ht
  have q3 := work_b hy hp hk
  have q4 := fun {g} (hg : g < y.bk.m) => used_b hy hp hk hg
  obtain ⟨w1, _⟩ := want_at hy ht
  have w2 := want_row hy ht
  obtain ⟨b1, b2, b3⟩ := next_b hy hp hk ht hh
  have e0 : m__law_dot [.list (y.bk.ms.map fun e => qD e.work), rowD p] = some (.v (qD (workI y.bk p))) := by rw [workI_eq]; exact law_dot_ok hy.bk hp (by omega)
  have e1 := (less_ok (r := y.hands.getD t 0) (s := workI y.bk p) (q2.b.mono (by omega)) (q3.mono (by omega))).2
  have a4 : atD (rowD y.hands) (.int (t : Nat)) = some (qD (y.hands.getD t 0)) := atD_map q1
  have a5 : atD (.tuple (y.wants.map rowD)) (.int (t : Nat)) = some (rowF y.bk.m (wantF y t)) := by rw [← w2]; exact atD_map w1
  have e2 : m__law_used [bkD y.bk, rowD p] = some (.own none ((List.range y.bk.m).map fun g => qD (usedI y.bk p g))) := by rw [usedI_eq]; exact law_used_ok hy.bk hp (by omega)
  have e3 : m__law_made [bkD y.bk, rowD p] = some (.own none ((List.range y.bk.m).map fun g => qD (madeI y.bk p g))) := by rw [madeI_eq]; exact law_made_ok hy.bk hp (by omega)
  have m6 := hy.bk.hi
  have m20 := hy.bk.l2
  have cr : ∀ g ∈ List.range y.bk.m, g < y.bk.m := fun g hg => List.mem_range.mp hg
  have ix : ∀ (F : Nat → Rat), ∀ g ∈ List.range y.bk.m, atD (.list ((List.range y.bk.m).map fun g => qD (F g))) (.int (g : Int)) = some (qD (F g)) := fun F g hg => atD_mapL (f := fun g => qD (F g)) (by rw [List.getElem?_range (cr g hg)])
  have ixT : ∀ (F : Nat → Rat), ∀ g ∈ List.range y.bk.m, atD (rowF y.bk.m F) (.int (g : Int)) = some (qD (F g)) := fun F g hg => atD_map (f := fun g => qD (F g)) (by rw [List.getElem?_range (cr g hg)])
  have c1 : ∀ g ∈ List.range y.bk.m, m__law_less [qD (h g), qD (usedI y.bk p g)] = some (.v (.bool (decide (h g < usedI y.bk p g)))) := fun g hg => (less_ok ((hh.b g (cr g hg)).mono (by omega)) ((q4 (cr g hg)).mono (by omega))).2
  have c2 : ∀ g ∈ List.range y.bk.m, m__law_less [qD (moreF y p h g), qD (wantF y t g)] = some (.v (.bool (decide (moreF y p h g < wantF y t g)))) := fun g hg => (less_ok ((b2.b g (cr g hg)).mono (by omega)) ((want_b hy ht (cr g hg)).b.mono (by omega))).2
  have f1 : ∀ g ∈ List.range y.bk.m, m__law_sub [qD (h g), qD (usedI y.bk p g)] = some (.v (qD (leftF y p h g))) := fun g hg => by
    have := law_sub_ok ((hh.b g (cr g hg)).mono (k := 400000) (by omega)) ((q4 (cr g hg)).mono (by omega))
    unfold leftF
    exact this
  have f2 : ∀ g ∈ List.range y.bk.m, m__law_add [qD (leftF y p h g), qD (madeI y.bk p g)] = some (.v (qD (moreF y p h g))) := fun g hg => by
    have := law_add_ok ((b1.b g (cr g hg)).mono (k := 400000) (by omega)) ((made_b hy hp hk g).mono (by omega))
    unfold moreF
    exact this
  have f3 : ∀ g ∈ List.range y.bk.m, m__law_sub [qD (moreF y p h g), qD (wantF y t g)] = some (.v (qD (nextF y t p h g))) := fun g hg => by
    have := law_sub_ok ((b2.b g (cr g hg)).mono (k := 400000) (by omega)) ((want_b hy ht (cr g hg)).b.mono (by omega))
    unfold nextF
    exact this
  have hl1 : ∀ P : Nat → Bool, (List.map (fun g => PyData.int ((g : Nat) : Int)) (List.filter P (List.range y.bk.m))).length ≤ 1000000 := fun P => by
    have := List.length_filter_le P (List.range y.bk.m)
    simp only [List.length_map, List.length_range] at this ⊢
    omega
  have hlast : atD (.list (rows.map (rowF y.bk.m))) (.int (-1)) = some (rowF y.bk.m h) := by
    obtain ⟨r, rfl⟩ := hZ
    rw [List.map_append]
    exact atI_last
  have v2 : ∀ e : Me, atD (meD e) (.int 2) = some (qD e.work) := fun e => rfl
  have v1 : atD (bkD y.bk) (.int 1) = some (.tuple (y.bk.ms.map meD)) := rfl
  have v0 : atD (bkD y.bk) (.int 0) = some (.int y.bk.m) := rfl
  unfold ledGo
  unfold lawE
  by_cases h1 : y.hands.getD t 0 < workI y.bk p
  · have hd : decide (y.hands.getD t 0 < workI y.bk p) = true := decide_eq_true h1
    rw [if_pos h1]
    apply ex_3
    · ktf_call "ms"
    · unfold l__law_led_1
      ktf_call "ms"
    · exact ⟨_, rfl⟩
  · have hd : decide (y.hands.getD t 0 < workI y.bk p) = false := decide_eq_false h1
    rw [if_neg h1]
    cases k1 : short y.bk.m h (usedI y.bk p) with
    | cons g r =>
      have k1' : ((List.range y.bk.m).filter fun g => decide (h g < usedI y.bk p g)) = g :: r := k1
      have t1 : decide (0 < (((List.range y.bk.m).filter fun g => decide (h g < usedI y.bk p g)).length : Int)) = true := by rw [k1']; simp
      have t2 : atD (.list (List.map (fun g => PyData.int ((g : Nat) : Int)) ((List.range y.bk.m).filter fun g => decide (h g < usedI y.bk p g)))) (.int 0) = some (.int (g : Nat)) := by rw [k1']; exact atD_mapL (f := fun g : Nat => PyData.int (g : Int)) (l := g :: r) (i := 0) rfl
      apply ex_3
      · ktf_call "ms"
      · unfold l__law_led_1
        ktf_call "ms"
      · exact ⟨_, rfl⟩
    | nil =>
      have k1' : ((List.range y.bk.m).filter fun g => decide (h g < usedI y.bk p g)) = [] := k1
      have t1 : decide (0 < (((List.range y.bk.m).filter fun g => decide (h g < usedI y.bk p g)).length : Int)) = false := by rw [k1']; simp
      cases k2 : short y.bk.m (moreF y p h) (wantF y t) with
      | cons g r =>
        have k2' : ((List.range y.bk.m).filter fun g => decide (moreF y p h g < wantF y t g)) = g :: r := k2
        have t3 : decide (0 < (((List.range y.bk.m).filter fun g => decide (moreF y p h g < wantF y t g)).length : Int)) = true := by rw [k2']; simp
        have t4 : atD (.list (List.map (fun g => PyData.int ((g : Nat) : Int)) ((List.range y.bk.m).filter fun g => decide (moreF y p h g < wantF y t g)))) (.int 0) = some (.int (g : Nat)) := by rw [k2']; exact atD_mapL (f := fun g : Nat => PyData.int (g : Int)) (l := g :: r) (i := 0) rfl
        apply ex_3
        · ktf_call "ms"
        · unfold l__law_led_1
          ktf_call "ms"
        · exact ⟨_, rfl⟩
      | nil =>
        have k2' : ((List.range y.bk.m).filter fun g => decide (moreF y p h g < wantF y t g)) = [] := k2
        have t3 : decide (0 < (((List.range y.bk.m).filter fun g => decide (moreF y p h g < wantF y t g)).length : Int)) = false := by rw [k2']; simp
        apply ex_3
        · ktf_call "ms"
        · unfold l__law_led_1
          ktf_call "ms"
        · simp only [ledGo, List.map_append]
          rfl
theorem ledGo_cons (y : Yr) (t : Nat) (p : List Rat) (ps : List (List Rat)) (h : Nat → Rat) (rows : List (Nat → Rat)) :
    (ledGo y t [p] h rows = .ok (rows ++ [nextF y t p h]) ∧ ledGo y t (p :: ps) h rows = ledGo y (t + 1) ps (nextF y t p h) (rows ++ [nextF y t p h])) ∨ (ledGo y t (p :: ps) h rows = ledGo y t [p] h rows ∧ ∀ r, ledGo y t [p] h rows ≠ .ok r) := by
  simp only [ledGo]
  split
  · exact .inr ⟨rfl, fun r z => by cases z⟩
  · split
    · exact .inr ⟨rfl, fun r z => by cases z⟩
    · split
      · exact .inr ⟨rfl, fun r z => by cases z⟩
      · exact .inl ⟨rfl, rfl⟩
theorem prog_loop {k : Nat} {y : Yr} {c : List (List Rat)} (hy : YrOk k y) (hk : k ≤ 60) : ∀ (ps : List (List Rat)) (t n : Nat) (h : Nat → Rat) (Z : Sl) (rows : List (Nat → Rat)), (∀ p ∈ ps, Row k y.bk.ms.length p) → t + ps.length ≤ y.hands.length → HB k y.bk.m n h → n + ps.length * (61 * k + 65) ≤ 300000 → isZ y.bk.m h Z → rows.length + ps.length ≤ 100 →
    ∃ o, forGo (tgt2 5 6) l_raw_led_1 (pairL t (ps.map rowD)) (progE y c Z rows) = some o ∧ (match ledGo y t ps h rows with | .ok r2 => ∃ Z', o = .nx (progE y c Z' r2) | l => ∃ g', o = .ret (ledSl y.bk.m l) g')
  | [], t, n, h, Z, rows, _, _, _, _, _, _ => ⟨.nx (progE y c Z rows), rfl, by unfold ledGo; exact ⟨Z, rfl⟩⟩
  | p :: ps, t, n, h, Z, rows, hp, ht, hh, hn, hZ, hr => by
    simp only [List.length_cons, Nat.add_mul] at ht hn hr
    have hp0 := hp p (List.mem_cons_self ..)
    obtain ⟨_, _, b3⟩ := next_b hy hp0 hk (t := t) (by omega) hh
    obtain ⟨o, ⟨g1, e1, e2⟩, ho⟩ := prog_year (c := c) (rows := rows) hy hp0 hk hh (by omega) (t := t) (by omega) hZ (by omega)
    rcases ledGo_cons y t p ps h rows with ⟨k1, k2⟩ | ⟨k1, k2⟩
    · rw [k1] at ho
      obtain ⟨Z', hZ', rfl⟩ := ho
      obtain ⟨o2, f1, f2⟩ := prog_loop (c := c) hy hk ps (t + 1) _ _ Z' (rows ++ [nextF y t p h]) (fun q hq => hp q (List.mem_cons_of_mem _ hq)) (by omega) b3 (by omega) hZ' (by simp only [List.length_append, List.length_cons, List.length_nil]; omega)
      refine ⟨o2, ?_, ?_⟩
      · simp [pairL, forGo, e1, e2]
        exact f1
      · rw [k2]; exact f2
    · cases q : ledGo y t [p] h rows with
      | ok r => exact absurd q (k2 r)
      | hands a =>
        rw [q] at ho k1
        obtain ⟨g', rfl⟩ := ho
        exact ⟨_, by simp [pairL, forGo, e1, e2]; rfl, by rw [k1]; exact ⟨_, rfl⟩⟩
      | used a b =>
        rw [q] at ho k1
        obtain ⟨g', rfl⟩ := ho
        exact ⟨_, by simp [pairL, forGo, e1, e2]; rfl, by rw [k1]; exact ⟨_, rfl⟩⟩
      | taken a b =>
        rw [q] at ho k1
        obtain ⟨g', rfl⟩ := ho
        exact ⟨_, by simp [pairL, forGo, e1, e2]; rfl, by rw [k1]; exact ⟨_, rfl⟩⟩
theorem law_loop {k : Nat} {y : Yr} {c : List (List Rat)} (hy : YrOk k y) (hk : k ≤ 60) : ∀ (ps : List (List Rat)) (t n : Nat) (h : Nat → Rat) (rows : List (Nat → Rat)), (∀ p ∈ ps, Row k y.bk.ms.length p) → t + ps.length ≤ y.hands.length → HB k y.bk.m n h → n + ps.length * (61 * k + 65) ≤ 300000 → (∃ r, rows = r ++ [h]) → rows.length + ps.length ≤ 100 →
    ∃ o, forGo (tgt2 7 8) l__law_led_1 (pairL t (ps.map rowD)) (lawE y c rows) = some o ∧ (match ledGo y t ps h rows with | .ok r2 => o = .nx (lawE y c r2) | l => ∃ g', o = .ret (ledSl y.bk.m l) g')
  | [], t, n, h, rows, _, _, _, _, _, _ => ⟨.nx (lawE y c rows), rfl, by unfold ledGo; rfl⟩
  | p :: ps, t, n, h, rows, hp, ht, hh, hn, hZ, hr => by
    simp only [List.length_cons, Nat.add_mul] at ht hn hr
    have hp0 := hp p (List.mem_cons_self ..)
    obtain ⟨_, _, b3⟩ := next_b hy hp0 hk (t := t) (by omega) hh
    obtain ⟨o, ⟨g1, e1, e2⟩, ho⟩ := law_year (c := c) (rows := rows) hy hp0 hk hh (by omega) (t := t) (by omega) hZ (by omega)
    rcases ledGo_cons y t p ps h rows with ⟨k1, k2⟩ | ⟨k1, k2⟩
    · rw [k1] at ho
      subst ho
      obtain ⟨o2, f1, f2⟩ := law_loop (c := c) hy hk ps (t + 1) _ _ (rows ++ [nextF y t p h]) (fun q hq => hp q (List.mem_cons_of_mem _ hq)) (by omega) b3 (by omega) ⟨rows, rfl⟩ (by simp only [List.length_append, List.length_cons, List.length_nil]; omega)
      refine ⟨o2, ?_, ?_⟩
      · simp [pairL, forGo, e1, e2]
        exact f1
      · rw [k2]; exact f2
    · cases q : ledGo y t [p] h rows with
      | ok r => exact absurd q (k2 r)
      | hands a =>
        rw [q] at ho k1
        obtain ⟨g', rfl⟩ := ho
        exact ⟨_, by simp [pairL, forGo, e1, e2]; rfl, by rw [k1]; exact ⟨_, rfl⟩⟩
      | used a b =>
        rw [q] at ho k1
        obtain ⟨g', rfl⟩ := ho
        exact ⟨_, by simp [pairL, forGo, e1, e2]; rfl, by rw [k1]; exact ⟨_, rfl⟩⟩
      | taken a b =>
        rw [q] at ho k1
        obtain ⟨g', rfl⟩ := ho
        exact ⟨_, by simp [pairL, forGo, e1, e2]; rfl, by rw [k1]; exact ⟨_, rfl⟩⟩
def stF (y : Yr) (g : Nat) : Rat := y.stocks.getD g 0
def led (y : Yr) (c : List (List Rat)) : Led := ledGo y 0 c (stF y) [stF y]
theorem st_row {k : Nat} {y : Yr} (hy : YrOk k y) : rowD y.stocks = rowF y.bk.m (stF y) := by
  rw [← rowD_range]
  congr 1
  exact list_of_at hy.st.len fun g hg => rfl
theorem st_b {k : Nat} {y : Yr} (hy : YrOk k y) : HB k y.bk.m k (stF y) := ⟨fun g hg => by
  have hl : g < y.stocks.length := by rw [hy.st.len]; exact hg
  have e : stF y g = y.stocks[g] := by unfold stF; rw [List.getD_eq_getElem?_getD, List.getElem?_eq_getElem hl]; rfl
  rw [e]
  exact (hy.st.am _ (List.getElem_mem hl)).b⟩
theorem led_retO {i : Nat} {g : G} {ds : List D} (h : g[i]? = some (.own none ds)) : ∃ g', sRetV i g = some (.ret (.own none ds) g') := ⟨_, retV_o h⟩
section
variable {k : Nat} {y : Yr} {c : List (List Rat)} (hy : YrOk k y) (hc : CoOk k y c) (hk : k ≤ 60)
include hy hc hk
theorem raw_led_ok : m_raw_led [yrD y, coD c] = some (ledSl y.bk.m (led y c)) := by
  have h6 := hy.hi
  have hl := hc.len
  have hm : c.length * (61 * k + 65) ≤ 6 * (61 * k + 65) := Nat.mul_le_mul_right _ (by omega)
  obtain ⟨o, e1, e2⟩ := prog_loop (c := c) hy hk c 0 k (stF y) (.v (rowF y.bk.m (stF y))) [stF y] hc.ok (by omega) (st_b hy) (by omega) (.inl rfl) (by simp only [List.length_append, List.length_cons, List.length_nil]; omega)
  have a0 : atD (yrD y) (.int 0) = some (bkD y.bk) := rfl
  have a1 : atD (yrD y) (.int 1) = some (rowF y.bk.m (stF y)) := by rw [← st_row hy]; rfl
  unfold progE at e1 e2
  rw [pairL_map] at e1
  simp only [List.map_cons, List.map_nil] at e1
  unfold m_raw_led b_raw_led led
  cases q : ledGo y 0 c (stF y) [stF y] with
  | ok r =>
    rw [q] at e2
    obtain ⟨Z', rfl⟩ := e2
    ktf_call "ms"
  | hands a => rw [q] at e2; obtain ⟨g', rfl⟩ := e2; ktf_call "ms"
  | used a b => rw [q] at e2; obtain ⟨g', rfl⟩ := e2; ktf_call "ms"
  | taken a b => rw [q] at e2; obtain ⟨g', rfl⟩ := e2; ktf_call "ms"
theorem law_led_ok : m__law_led [yrD y, coD c] = some (ledSl y.bk.m (led y c)) := by
  have h6 := hy.hi
  have hl := hc.len
  have hm : c.length * (61 * k + 65) ≤ 6 * (61 * k + 65) := Nat.mul_le_mul_right _ (by omega)
  obtain ⟨o, e1, e2⟩ := law_loop (c := c) hy hk c 0 k (stF y) [stF y] hc.ok (by omega) (st_b hy) (by omega) ⟨[], rfl⟩ (by simp only [List.length_append, List.length_cons, List.length_nil]; omega)
  unfold lawE at e1 e2
  rw [pairL_map] at e1
  simp only [List.map_cons, List.map_nil] at e1
  rw [← st_row hy] at e1
  unfold m__law_led b__law_led led
  cases q : ledGo y 0 c (stF y) [stF y] with
  | ok r =>
    rw [q] at e2
    subst e2
    ktf_call "ms"
  | hands a => rw [q] at e2; obtain ⟨g', rfl⟩ := e2; ktf_call "ms"
  | used a b => rw [q] at e2; obtain ⟨g', rfl⟩ := e2; ktf_call "ms"
  | taken a b => rw [q] at e2; obtain ⟨g', rfl⟩ := e2; ktf_call "ms"
end
section
variable {k : Nat} {d : D} (g : gd k d = true)
include g
theorem x_check_J : x_check_years [d] = if isYr d = true then none else some "NoYears" := by
  have e := is_years_J g
  have t : tNotT (tOf (eV (eCall m_is_years (aCons (eVar 0) aNil)))) [.v d] = some (!isYr d, [.v d]) := by ktf_call "ms"
  unfold x_check_years
  rw [fnX_of (g0 := [.v d]) rfl (by unfold xb_check_years; exact xIf_of t)]
  cases isYr d <;> rfl
theorem check_J (h : isYr d = true) : m_check_years [d] = some (.v .none) := by
  have e := is_years_J g
  rw [h] at e
  unfold m_check_years b_check_years
  ktf_call "ms"
end
section
variable {k j : Nat} {d e : D} (gd' : gd k d = true) (ge : gd j e = true)
include gd'
theorem x_led_years (h : isYr d = false) : x_course_led [d, e] = some "NoYears" := by
  have x1 := x_check_J gd'
  rw [h] at x1
  unfold x_course_led
  have c : xCall x_check_years (aCons (eVar 0) aNil) [.v d, .v e] = some (("NoYears" : Str), [.v d, .v e]) := xCall_of (ar_cons (f := eVar 0) (d := d) rfl ar_nil) x1
  rw [fnX_of (g0 := [.v d, .v e]) rfl (by unfold xb_course_led; exact xSeq_x c)]
  rfl
include ge
theorem x_led_course {i : Nat} {y : Yr} (hd : d = yrD y) (hy : YrOk i y) : x_course_led [d, e] = if isCo y.hands.length y.bk.ms.length e = true then none else some "NoCourse" := by
  subst hd
  have x1 := x_check_J gd'
  have hY := isYr_yr hy
  rw [hY] at x1
  have ck := check_J gd' hY
  have ic := is_course_J hy ge
  have c : xCall x_check_years (aCons (eVar 0) aNil) [.v (yrD y), .v e] = none := xCall_of (ar_cons (f := eVar 0) rfl ar_nil) x1
  have f1 : sEx (eV (eCall m_check_years (aCons (eVar 0) aNil))) [.v (yrD y), .v e] = some (.nx [.v (yrD y), .v e]) := by ktf_call "ms"
  have t : tNotT (tOf (eV (eCall m_is_course (aCons (eVar 0) (aCons (eVar 1) aNil))))) [.v (yrD y), .v e] = some (!isCo y.hands.length y.bk.ms.length e, [.v (yrD y), .v e]) := by ktf_call "ms"
  unfold x_course_led
  cases q : isCo y.hands.length y.bk.ms.length e with
  | false =>
    rw [q] at t
    rw [fnX_of (g0 := [.v (yrD y), .v e]) rfl (by unfold xb_course_led; exact (xSeq_n c f1).trans (xSeq_x (xIf_of t)))]
    rfl
  | true =>
    rw [q] at t
    have f2 : sIf (tNotT (tOf (eV (eCall m_is_course (aCons (eVar 0) (aCons (eVar 1) aNil)))))) sNo sNil [.v (yrD y), .v e] = some (.nx [.v (yrD y), .v e]) := if_f t rfl
    rw [fnX_of (g0 := [.v (yrD y), .v e]) rfl (by unfold xb_course_led; exact (xSeq_n c f1).trans (xSeq_n (xIf_of t) f2))]
    rfl
end
theorem course_led_ok {k : Nat} {y : Yr} {c : List (List Rat)} (hy : YrOk k y) (hc : CoOk k y c) (hk : k ≤ 60) (g : gd k (yrD y) = true) (gc : gd k (coD c) = true) : m_course_led [yrD y, coD c] = some (ledSl y.bk.m (led y c)) := by
  have e1 := check_J g (isYr_yr hy)
  have e2 := is_course_J hy gc
  rw [isCo_co hc] at e2
  have e3 := raw_led_ok hy hc hk
  unfold m_course_led b_course_led
  cases q : led y c with
  | ok r => rw [q] at e3; ktf_call "ms"
  | hands a => rw [q] at e3; ktf_call "ms"
  | used a b => rw [q] at e3; ktf_call "ms"
  | taken a b => rw [q] at e3; ktf_call "ms"
/-! ### the law's word -/
def wd (s : String) : Sl := .v (.str (Str.ofString s))
theorem word_years {k : Nat} {d e : D} (g : gd k d = true) (h : isYr d = false) : m__law_word [d, e] = some (wd "years") := by
  have x1 := x_led_years (e := e) g h
  have c : xCall x_course_led (aCons (eVar 0) (aCons (eVar 1) aNil)) [.v d, .v e, wd "let", .no, .no] = some (("NoYears" : Str), [.v d, .v e, wd "let", .no, .no]) := xCall_of (ar_cons (f := eVar 0) (d := d) rfl (ar_cons (f := eVar 1) (d := e) rfl ar_nil)) x1
  unfold m__law_word b__law_word
  unfold wd at c ⊢
  ktf_call "ms"
theorem word_course {k j i : Nat} {d e : D} {y : Yr} (g : gd k d = true) (ge : gd j e = true) (hd : d = yrD y) (hy : YrOk i y) (h : isCo y.hands.length y.bk.ms.length e = false) : m__law_word [d, e] = some (wd "course") := by
  have x1 := x_led_course g ge hd hy
  rw [h] at x1
  have c : xCall x_course_led (aCons (eVar 0) (aCons (eVar 1) aNil)) [.v d, .v e, wd "let", .no, .no] = some (("NoCourse" : Str), [.v d, .v e, wd "let", .no, .no]) := xCall_of (ar_cons (f := eVar 0) (d := d) rfl (ar_cons (f := eVar 1) (d := e) rfl ar_nil)) x1
  unfold m__law_word b__law_word
  unfold wd at c ⊢
  ktf_call "ms"
theorem word_let {k : Nat} {y : Yr} {c : List (List Rat)} (hy : YrOk k y) (hc : CoOk k y c) (hk : k ≤ 60) (g : gd k (yrD y) = true) (gc : gd k (coD c) = true) : m__law_word [yrD y, coD c] = some (wd "let") := by
  have x1 := x_led_course g gc rfl hy
  rw [isCo_co hc] at x1
  have cc : xCall x_course_led (aCons (eVar 0) (aCons (eVar 1) aNil)) [.v (yrD y), .v (coD c), wd "let", .no, .no] = none := xCall_of (ar_cons (f := eVar 0) (d := yrD y) rfl (ar_cons (f := eVar 1) (d := coD c) rfl ar_nil)) x1
  have e := course_led_ok hy hc hk g gc
  unfold m__law_word b__law_word
  unfold wd at cc ⊢
  cases q : led y c with
  | ok r => rw [q] at e; ktf_call "ms"
  | hands a => rw [q] at e; ktf_call "ms"
  | used a b => rw [q] at e; ktf_call "ms"
  | taken a b => rw [q] at e; ktf_call "ms"
theorem draw_ok {es : List D} {m : Int} (h : Hand es) (hm : 0 < m) (hm2 : m < 18446744073709551616) : ∃ x es', m__law_draw es [.int m] = some (.v (.int x), es') ∧ 0 ≤ x ∧ x < m ∧ Hand es' := by
  obtain ⟨cs, p, q, r, s, rfl, hp, hq⟩ := h
  have hd : Dl.DivOk m = true := divOk_s (by omega) (by omega)
  have hm0 : m ≠ 0 := by omega
  have hl : lenD (.list (cs.map PyData.int)) = some (.int (cs.length : Nat)) := by simp [lenD]
  unfold handL
  by_cases h0 : q = 0
  · have c0 : decide (q = 0) = true := decide_eq_true h0
    by_cases h1 : p < (cs.length : Nat)
    · have c1 : decide (p < (cs.length : Nat)) = true := decide_eq_true h1
      obtain ⟨n, hn⟩ := Int.eq_ofNat_of_zero_le hp
      obtain ⟨c, hcc⟩ : ∃ c, cs[n]? = some c := ⟨_, List.getElem?_eq_getElem (show n < cs.length by omega)⟩
      have hc : atD (.list (cs.map PyData.int)) (.int p) = some (.int c) := by rw [hn]; exact atD_mapL hcc
      by_cases h2 : 1000000000000000000 ≤ c
      · have c2 : decide (1000000000000000000 ≤ c) = true := decide_eq_true h2
        have c3 : decide (0 < c) = true := decide_eq_true (by omega)
        apply ex_dr
        · unfold m__law_draw b__law_draw
          ktf_call "ms"
        · exact ⟨(fmod_rng _ hm).1, (fmod_rng _ hm).2, _, _, _, _, _, rfl, by omega, Int.fdiv_nonneg (by omega) (by omega)⟩
      · have c2 : decide (1000000000000000000 ≤ c) = false := decide_eq_false h2
        have c3 : decide (0 < q) = false := decide_eq_false (by omega)
        apply ex_dr
        · unfold m__law_draw b__law_draw
          ktf_call "ms"
        · exact ⟨(fmod_rng _ hm).1, (fmod_rng _ hm).2, _, _, _, _, _, rfl, by omega, by omega⟩
    · have c1 : decide (p < (cs.length : Nat)) = false := decide_eq_false h1
      have c3 : decide (0 < q) = false := decide_eq_false (by omega)
      apply ex_dr
      · unfold m__law_draw b__law_draw
        ktf_call "ms"
      · exact ⟨(fmod_rng _ hm).1, (fmod_rng _ hm).2, _, _, _, _, _, rfl, by omega, by omega⟩
  · have c0 : decide (q = 0) = false := decide_eq_false h0
    have c3 : decide (0 < q) = true := decide_eq_true (by omega)
    apply ex_dr
    · unfold m__law_draw b__law_draw
      ktf_call "ms"
    · exact ⟨(fmod_rng _ hm).1, (fmod_rng _ hm).2, _, _, _, _, _, rfl, by omega, Int.fdiv_nonneg (by omega) (by omega)⟩
theorem hand_ok (ns : List Int) (hl : ns.length ≤ 1000) : ∃ es, m__law_hand [.list (ns.map .int)] = some (.own none es) ∧ Hand es := by
  have hcl := cut_len ns none (some 63)
  have hc2 : (cutL ns none (some 63)).length ≤ 1000000 := by omega
  apply ex_ow
  · unfold m__law_hand b__law_hand
    ktf_call "ms"
  · exact ⟨(cutL ns none (some 63)).map fun i => if i < 0 then -i else i, 0, 0, _, 0, by unfold handL; rw [List.map_map]; rfl, Int.le_refl _, Int.le_refl _⟩
theorem any_ok {es ds : List D} (h : Hand es) (hn : ds ≠ []) (hl : ds.length < 1000000) : ∃ d es', m__law_any es [.list ds] = some (.v d, es') ∧ d ∈ ds ∧ Hand es' := by
  have hp : 0 < ds.length := List.length_pos_iff.mpr hn
  obtain ⟨x, es', e, h0, h1, H⟩ := draw_ok h (m := (ds.length : Nat)) (by omega) (by omega)
  obtain ⟨d, hd, hm⟩ := atI_mem h0 h1
  have hlen : lenD (.list ds) = some (.int (ds.length : Nat)) := rfl
  have hat : atD (.list ds) (.int x) = some d := hd
  refine ⟨d, es', ?_, hm, H⟩
  unfold m__law_any b__law_any
  ktf_call "ms"
/-- a drawn amount: of 60th, not too great -/
structure Q0 (A : Nat) (r : Rat) : Prop where
  p : 0 ≤ r
  q : Fq 60 A r
theorem Q0.mono {A B : Nat} {r : Rat} (h : Q0 A r) (e : A ≤ B) : Q0 B r := ⟨h.p, h.q.mono e⟩
theorem Q0.am {A : Nat} {r : Rat} (h : Q0 A r) (e : A < 2 ^ 8) : Am 8 r := ⟨h.p, h.q.b0 (by decide) (by decide) e⟩
theorem q0_div {a b : Int} {c : Nat} (ha : 0 ≤ a) (hb : 0 < b) (h : b * c = (60 : Nat)) (hA : a.natAbs * c ≤ 180) : Q0 180 (Rat.divInt a b) := ⟨divInt_nonneg ha hb, (fq_div hb h).mono hA⟩
def isQ (d : D) : Prop := ∃ r, d = qD r ∧ Q0 180 r
theorem isQ_0 : isQ (.tuple [.int 0, .int 1]) := ⟨Rat.divInt 0 1, rfl, q0_div (c := 60) (by decide) (by decide) (by decide) (by decide)⟩
theorem isQ_12 : isQ (.tuple [.int 1, .int 2]) := ⟨Rat.divInt 1 2, rfl, q0_div (c := 30) (by decide) (by decide) (by decide) (by decide)⟩
theorem isQ_14 : isQ (.tuple [.int 1, .int 4]) := ⟨Rat.divInt 1 4, rfl, q0_div (c := 15) (by decide) (by decide) (by decide) (by decide)⟩
theorem isQ_11 : isQ (.tuple [.int 1, .int 1]) := ⟨Rat.divInt 1 1, rfl, q0_div (c := 60) (by decide) (by decide) (by decide) (by decide)⟩
theorem amount_ok {es : List D} (h : Hand es) : ∃ d es', m__law_amount es [] = some (.v d, es') ∧ isQ d ∧ Hand es' := by
  obtain ⟨d, es1, e1, hd, H1⟩ := any_ok (ds := [.int 1, .int 1, .int 2, .int 3, .int 4, .int 10]) h (by simp) (by simp)
  obtain ⟨b, c, rfl, hb, hb2, hc⟩ : ∃ (b : Int) (c : Nat), d = .int b ∧ 0 < b ∧ b ≤ 10 ∧ b * c = (60 : Nat) := by
    simp only [List.mem_cons, List.not_mem_nil, or_false] at hd
    rcases hd with rfl | rfl | rfl | rfl | rfl | rfl
    · exact ⟨1, 60, rfl, by decide, by decide, by decide⟩
    · exact ⟨1, 60, rfl, by decide, by decide, by decide⟩
    · exact ⟨2, 30, rfl, by decide, by decide, by decide⟩
    · exact ⟨3, 20, rfl, by decide, by decide, by decide⟩
    · exact ⟨4, 15, rfl, by decide, by decide, by decide⟩
    · exact ⟨10, 6, rfl, by decide, by decide, by decide⟩
  obtain ⟨x, es2, e2, h0, h1, H2⟩ := draw_ok H1 (m := 3 * b + 1) (by omega) (by omega)
  have hA : x.natAbs * c ≤ 180 := by
    have h2 : (x.natAbs : Int) = x := by omega
    have h3 : x * c ≤ (3 * b) * c := Int.mul_le_mul_of_nonneg_right (by omega) (by omega)
    have h4 : (3 * b) * c = 3 * (b * c) := by rw [Int.mul_assoc]
    have h5 : ((x.natAbs * c : Nat) : Int) = x * c := by rw [Int.natCast_mul, h2]
    omega
  have hg := gcd_le_den x hb
  have e3 := low_ok (a := x) hb (Nat.lt_of_le_of_lt hg (Nat.lt_of_lt_of_le (m := 2 ^ 30) (by omega) (Nat.pow_le_pow_right (by decide) (by decide))))
  refine ⟨_, es2, ?_, ⟨Rat.divInt x b, rfl, q0_div h0 hb hc hA⟩, H2⟩
  unfold m__law_amount b__law_amount
  ktf_call "ms"
/-- a drawn method: like this -/
structure DrMe (m A : Nat) (e : Me) : Prop where
  good : e.good < m
  ul : e.uses.length = m
  uses : ∀ r ∈ e.uses, Q0 A r
  work : Q0 A e.work
structure DrBk (A : Nat) (b : Bk) : Prop where
  lo : 1 ≤ b.m
  hi : b.m ≤ 3
  l1 : 1 ≤ b.ms.length
  l2 : b.ms.length ≤ 4
  ok : ∀ e ∈ b.ms, DrMe b.m A e
theorem anyQ {es ds : List D} (h : Hand es) (hn : ds ≠ []) (hl : ds.length < 1000000) (hq : ∀ d ∈ ds, isQ d) : ∃ d es', m__law_any es [.list ds] = some (.v d, es') ∧ isQ d ∧ Hand es' := by
  obtain ⟨d, es', e, hd, H⟩ := any_ok h hn hl
  exact ⟨d, es', e, hq d hd, H⟩
theorem needs_ok (m : Nat) (hm : m ≤ 3) (A B C Dd F I : Sl) : ∀ es, Hand es → ∃ ds es', ds.length = (List.range m).length ∧ (∀ d ∈ ds, isQ d) ∧ Hand es' ∧ ∀ t, lcGo (gVar 8) cYes (eV (eCallI m__law_any 0 (aCons (eV (vLst (aCons (eTup (aCons (eC (.int 0)) (aCons (eC (.int 1)) aNil))) (aCons (eTup (aCons (eC (.int 0)) (aCons (eC (.int 1)) aNil))) (aCons (eTup (aCons (eC (.int 1)) (aCons (eC (.int 2)) aNil))) (aCons (eTup (aCons (eC (.int 1)) (aCons (eC (.int 4)) aNil))) (aCons (eTup (aCons (eC (.int 1)) (aCons (eC (.int 1)) aNil))) (aCons (eV (eCallI m__law_amount 0 aNil)) aNil)))))))) aNil))) [8]
    ((List.range m).map fun (i : Nat) => .int (i : Int)) [.own t es, A, B, C, Dd, F, .no, I, .no] = some (ds, [.own t es', A, B, C, Dd, F, .no, I, .no]) :=
  lcGo_draw (fun (i : Nat) => .int (i : Int)) isQ (fun t es => [.own t es, A, B, C, Dd, F, .no, I, .no]) (List.range m) fun x hx es h => by
    obtain ⟨r, es1, e1, hr, H1⟩ := amount_ok h
    obtain ⟨d, es2, e2, hd, H2⟩ := anyQ (ds := [.tuple [.int 0, .int 1], .tuple [.int 0, .int 1], .tuple [.int 1, .int 2], .tuple [.int 1, .int 4], .tuple [.int 1, .int 1], r]) H1 (by simp) (by simp) (fun d hd => by
      simp only [List.mem_cons, List.not_mem_nil, or_false] at hd
      rcases hd with rfl | rfl | rfl | rfl | rfl | rfl
      · exact isQ_0
      · exact isQ_0
      · exact isQ_12
      · exact isQ_14
      · exact isQ_11
      · exact hr)
    refine ⟨d, es2, hd, H2, fun t => ?_⟩
    apply ex_lmE <;> ktf_call "ms"
theorem method_ok {m n : Nat} (hm0 : 1 ≤ m) (hm : m ≤ 3) (A B : Sl) (l : List Me) (hn : l.length = n) (hn4 : n < 4) (hl : ∀ e ∈ l, DrMe m 180 e) (x : Nat) {es : List D} (h : Hand es) :
    ∃ (l2 : List Me) (es' : List D), (l2.length = n + 1 ∧ ∀ e ∈ l2, DrMe m 180 e) ∧ Hand es' ∧ ∀ t, ∃ g1, gVar 5 (.int (x : Int)) [.own t es, A, B, .v (.int (m : Nat)), .own none (l.map meD), .no, .no, .no, .no] = some g1 ∧ l__law_drawn_book_1 g1 = some (.nx [.own t es', A, B, .v (.int (m : Nat)), .own none (l2.map meD), .no, .no, .no, .no]) := by
  obtain ⟨ds, es1, d1, d2, H1, k1⟩ := needs_ok m hm A B (.v (.int (m : Nat))) (.own none (l.map meD)) (.v (.int (x : Int))) .no es h
  obtain ⟨u, hu, hQ⟩ := mapOf (f := qD) (P := Q0 180) (ds := ds) fun d hd => d2 d hd
  subst hu
  obtain ⟨r, es2, e2, hr, H2⟩ := amount_ok H1
  obtain ⟨w, es3, e3, hw, H3⟩ := anyQ (ds := [.tuple [.int 0, .int 1], .tuple [.int 1, .int 1], .tuple [.int 1, .int 2], r]) H2 (by simp) (by simp) (fun d hd => by
    simp only [List.mem_cons, List.not_mem_nil, or_false] at hd
    rcases hd with rfl | rfl | rfl | rfl
    · exact isQ_0
    · exact isQ_11
    · exact isQ_12
    · exact hr)
  obtain ⟨w, rfl, hw⟩ := hw
  obtain ⟨g, es4, e4, g0, g1, H4⟩ := draw_ok H3 (m := (m : Nat)) (by omega) (by omega)
  obtain ⟨g, rfl⟩ := Int.eq_ofNat_of_zero_le g0
  simp only [List.length_map, List.length_range] at d1
  refine ⟨l ++ [⟨g, u, w⟩], es4, ⟨by simp [hn], fun e he => ?_⟩, H4, fun t => ?_⟩
  · rcases List.mem_append.mp he with he | he
    · exact hl e he
    · rw [List.mem_singleton] at he
      subst he
      exact ⟨by simp only; omega, d1, hQ, hw⟩
  · have kt := k1 t
    have hd3 : (u.map qD).length ≤ 1000000 := by simp; omega
    rw [List.map_append]
    unfold l__law_drawn_book_1
    ktf_call "ms"
theorem drawn_book_ok {es : List D} (h : Hand es) : ∃ b es', m__law_drawn_book es [.int 3, .int 4] = some (.v (bkD b), es') ∧ DrBk 180 b ∧ Hand es' := by
  obtain ⟨x, es1, e1, x0, x1, H1⟩ := draw_ok h (m := 3) (by decide) (by decide)
  obtain ⟨x, rfl⟩ := Int.eq_ofNat_of_zero_le x0
  obtain ⟨z, es2, e2, z0, z1, H2⟩ := draw_ok H1 (m := 4) (by decide) (by decide)
  obtain ⟨z, rfl⟩ := Int.eq_ofNat_of_zero_le z0
  obtain ⟨l, es3, ⟨i1, i2⟩, H3, k⟩ := forGo_draw (tg := gVar 5) (b := l__law_drawn_book_1) (fun (i : Nat) => PyData.int (i : Int)) (fun t es (l : List Me) => [.own t es, .v (.int 3), .v (.int 4), .v (.int ((1 + x : Nat) : Int)), .own none (l.map meD), .no, .no, .no, .no]) (fun n l => l.length = n ∧ ∀ e ∈ l, DrMe (1 + x) 180 e) 4 (List.range (1 + (z : Int)).toNat) 0 [] es2 (by simp; omega) ⟨rfl, by simp⟩ H2
    (fun i hi n l es hn hI hh => method_ok (by omega) (by omega) (.v (.int 3)) (.v (.int 4)) l hI.1 hn hI.2 i hh)
  have c : ((1 + x : Nat) : Int) = 1 + (x : Int) := by omega
  simp only [c] at k
  have k2 : ∀ t, forGo (gVar 5) l__law_drawn_book_1 (List.map (fun (i : Nat) => PyData.int (i : Int)) (List.range (1 + (z : Int)).toNat)) [.own t es2, .v (.int 3), .v (.int 4), .v (.int (1 + (x : Int))), .own none [], .no, .no, .no, .no] = some (.nx [.own t es3, .v (.int 3), .v (.int 4), .v (.int (1 + (x : Int))), .own none (l.map meD), .no, .no, .no, .no]) := k
  simp only [List.length_range] at i1
  refine ⟨⟨1 + x, l⟩, es3, ?_, ⟨by simp only; omega, by simp only; omega, by simp only; omega, by simp only; omega, i2⟩, H3⟩
  unfold bkD m__law_drawn_book b__law_drawn_book
  simp only [c]
  ktf_call "ms"
theorem DrBk.ok8 {b : Bk} (h : DrBk 180 b) : BkOk 8 b := ⟨h.lo, by have := h.hi; omega, h.l1, by have := h.l2; omega, fun e he => by
  obtain ⟨h1, h2, h3, h4⟩ := h.ok e he
  exact ⟨h1, ⟨h2, fun r hr => (h3 r hr).am (by decide)⟩, h4.am (by decide)⟩⟩
structure QRow (n A : Nat) (l : List Rat) : Prop where
  len : l.length = n
  q : ∀ r ∈ l, Q0 A r
theorem QRow.row {n : Nat} {l : List Rat} (h : QRow n 180 l) : Row 8 n l := ⟨h.len, fun r hr => (h.q r hr).am (by decide)⟩
theorem atLast {l : List D} {d : D} : atD (.list (l ++ [d])) (.int (-1)) = some d := atI_last
local macro_rules | `(tactic| ktf_call "opx") => `(tactic| with_reducible exact atLast)
/-- one drawn row -/
theorem row_any {α : Type} (i : Nat) (enc : α → D) (xs : List α) (hl : xs.length ≤ 1000) (E : Option Addr → List D → G) (hE : ∀ t es d, ∃ g, (E t es).set i (.v d) = g ∧ g[0]? = some (.own t es) ∧ (∀ es', wipeG (g.set 0 (.own t es')) [i] = E t es')) : ∀ es, Hand es → ∃ l es', QRow xs.length 180 l ∧ Hand es' ∧ ∀ t, lcGo (gVar i) cYes (eV (eCallI m__law_any 0 (aCons (eV (vLst (aCons (eTup (aCons (eC (.int 0)) (aCons (eC (.int 1)) aNil))) (aCons (eV (eCallI m__law_amount 0 aNil)) aNil)))) aNil))) [i] (xs.map enc) (E t es) = some (l.map qD, E t es') := fun es h => by
  obtain ⟨ds, es', d1, d2, H, k⟩ := lcGo_draw (tg := gVar i) (f := eV (eCallI m__law_any 0 (aCons (eV (vLst (aCons (eTup (aCons (eC (.int 0)) (aCons (eC (.int 1)) aNil))) (aCons (eV (eCallI m__law_amount 0 aNil)) aNil)))) aNil))) (vs := [i]) enc isQ E xs (fun x hx es h => by
    obtain ⟨r, es1, e1, hr, H1⟩ := amount_ok h
    obtain ⟨d, es2, e2, hd, H2⟩ := anyQ (ds := [.tuple [.int 0, .int 1], r]) H1 (by simp) (by simp) (fun d hd => by
      simp only [List.mem_cons, List.not_mem_nil, or_false] at hd
      rcases hd with rfl | rfl
      · exact isQ_0
      · exact hr)
    refine ⟨d, es2, hd, H2, fun t => ?_⟩
    obtain ⟨g, hg, h0, hw⟩ := hE t es (enc x)
    have hlen : 0 < g.length := (List.getElem?_eq_some_iff.mp h0).1
    have z1 : ∀ es1, (g.set 0 (.own t es1))[0]? = some (.own t es1) := fun es1 => List.getElem?_set_self hlen
    have c1 : eV (eCallI m__law_amount 0 aNil) g = some (r, g.set 0 (.own t es1)) := eV_v (callI_of (by rw [h0]; rfl) ar_nil h0 e1)
    have v1 := vLst_of (ar_cons (eTup_of (ar_cons (f := eC (.int 0)) (g := g) rfl (ar_cons (f := eC (.int 1)) rfl ar_nil))) (ar_cons c1 ar_nil))
    have c2 := callI_of (m := m__law_any) (i := 0) (g := g) (by rw [h0]; rfl) (ar_cons (eV_o v1) ar_nil) (z1 es1) e2
    rw [List.set_set] at c2
    exact ⟨g, g.set 0 (.own t es2), by unfold gVar; rw [hg], rfl, eV_v c2, hw es2⟩) es h
  obtain ⟨l, hl2, hQ⟩ := mapOf (f := qD) (P := Q0 180) (ds := ds) fun d hd => d2 d hd
  subst hl2
  exact ⟨l, es', ⟨by simpa using d1, hQ⟩, H, k⟩
abbrev PR := List Rat × List Rat
def fitE (b : Bk) (many : Int) (t : Option Addr) (es : List D) (l : List PR) : G := [.own t es, .v (bkD b), .v (.int many), .own none (l.map fun q => rowD q.1), .own none (l.map fun q => qD (workI b q.1)), .own none (l.map fun q => rowD q.2), .no, .no, .no, .no, .no, .no, .no, .no, .no, .no]
structure PrOk (b : Bk) (q : PR) : Prop where
  p : QRow b.ms.length 180 q.1
  w : QRow b.m 180 q.2
theorem fit_year {b : Bk} (hb : DrBk 180 b) (many : Int) (x : Nat) (l : List PR) (hl : l.length ≤ 10) {es : List D} (h : Hand es) :
    ∃ (q : PR) (es' : List D), PrOk b q ∧ Hand es' ∧ ∀ t, ∃ g1, gVar 6 (.int (x : Int)) (fitE b many t es l) = some g1 ∧ l__law_fitted_1 g1 = some (.nx (fitE b many t es' (l ++ [q]))) := by
  have h4 := hb.l2
  have h3 := hb.hi
  obtain ⟨p, es1, hp, H1, k1⟩ := row_any 15 meD b.ms (by omega) (fun t es => [.own t es, .v (bkD b), .v (.int many), .own none (l.map fun q => rowD q.1), .own none (l.map fun q => qD (workI b q.1)), .own none (l.map fun q => rowD q.2), .v (.int (x : Int)), .no, .no, .no, .no, .no, .no, .no, .no, .no]) (fun t es d => ⟨_, rfl, rfl, fun es' => rfl⟩) es h
  obtain ⟨w, es2, hw, H2, k2⟩ := row_any 7 (fun (i : Nat) => PyData.int (i : Int)) (List.range b.m) (by simp; omega) (fun t es => [.own t es, .v (bkD b), .v (.int many), .own none (l.map (fun q => rowD q.1) ++ [rowD p]), .own none (l.map (fun q => qD (workI b q.1)) ++ [qD (workI b p)]), .own none (l.map fun q => rowD q.2), .v (.int (x : Int)), .no, .no, .no, .no, .no, .no, .no, .no, .no]) (fun t es d => ⟨_, rfl, rfl, fun es' => rfl⟩) es1 H1
  rw [List.length_range] at hw
  refine ⟨(p, w), es2, ⟨hp, hw⟩, H2, fun t => ?_⟩
  have kt := k1 t
  have kw := k2 t
  have ed : m__law_dot [.list (b.ms.map fun e => qD e.work), rowD p] = some (.v (qD (workI b p))) := by rw [workI_eq]; exact law_dot_ok hb.ok8 hp.row (by decide)
  have hpl := hp.len
  have hwl := hw.len
  have v2 : ∀ e : Me, atD (meD e) (.int 2) = some (qD e.work) := fun e => rfl
  have v1 : atD (bkD b) (.int 1) = some (.tuple (b.ms.map meD)) := rfl
  have v0 : atD (bkD b) (.int 0) = some (.int b.m) := rfl
  have t1 : tupD (.list (p.map qD)) = some (rowD p) := rfl
  have t2 : tupD (.list (w.map qD)) = some (rowD w) := rfl
  unfold fitE
  simp only [List.map_append, List.map_cons, List.map_nil]
  apply ex_b
  · ktf_call "ms"
  · unfold l__law_fitted_1
    ktf_call "ms"
/-! ### how the stocks are found -/
def inH (b : Bk) (p : List Rat) (h : Nat → Rat) (g : Nat) : Rat := h g - usedI b p g
def outH (b : Bk) (q : PR) (h : Nat → Rat) (g : Nat) : Rat := h g - usedI b q.1 g + madeI b q.1 g - q.2.getD g 0
def lesser (a b : Rat) : Rat := if a < b then a else b
structure Hs where
  h : Rat
  s : Rat
def stp (b : Bk) (q : PR) (g : Nat) (x : Hs) : Hs :=
  ⟨x.h - usedI b q.1 g + madeI b q.1 g - q.2.getD g 0, lesser (x.h - usedI b q.1 g + madeI b q.1 g - q.2.getD g 0) (lesser (x.h - usedI b q.1 g) x.s)⟩
def stA (b : Bk) (q : PR) (F : Nat → Hs) (g : Nat) : Nat → Hs := fun i => if i = g then stp b q g (F g) else F i
def runA (b : Bk) (F : Nat → Hs) (l : List PR) : Nat → Hs := l.foldl (fun F q => (List.range b.m).foldl (stA b q) F) F
structure HsB (A : Nat) (x : Hs) : Prop where
  h : Fq 3600 A x.h
  s : Fq 3600 A x.s
theorem lesser_fq {N A : Nat} {a b : Rat} (ha : Fq N A a) (hb : Fq N A b) : Fq N A (lesser a b) := by
  unfold lesser
  split <;> assumption
theorem lesser_le {a b : Rat} : lesser a b ≤ a ∧ lesser a b ≤ b := by
  unfold lesser
  split
  · rename_i h; exact ⟨Rat.le_refl, Rat.le_of_lt h⟩
  · rename_i h; exact ⟨Rat.not_lt.mp h, Rat.le_refl⟩
section
variable {b : Bk} (hb : DrBk 180 b) {q : PR} (hq : PrOk b q) {g : Nat} (hg : g < b.m)
include hb hq
theorem usedQ (hg : g < b.m) : Fq 3600 129600 (usedI b q.1 g) := by
  rw [usedI_eq]
  have := fq_S (N := 3600) (A := 32400) (f := fun z : Me × Rat => z.1.uses.getD g 0 * z.2) (l := b.ms.zip q.1) (fun z hz => by
    obtain ⟨h1, h2⟩ := List.of_mem_zip hz
    have hu := hb.ok _ h1
    have hl : g < z.1.uses.length := by rw [hu.ul]; exact hg
    have e : z.1.uses.getD g 0 = z.1.uses[g] := by rw [List.getD_eq_getElem?_getD, List.getElem?_eq_getElem hl]; rfl
    rw [e]
    exact (hu.uses _ (List.getElem_mem hl)).q.mul (hq.p.q _ h2).q)
  have h4 := hb.l2
  refine this.mono ?_
  have : (b.ms.zip q.1).length ≤ 4 := by rw [List.length_zip]; omega
  exact Nat.le_trans (Nat.mul_le_mul_right _ this) (by decide)
theorem madeQ (g : Nat) : Fq 3600 43200 (madeI b q.1 g) := by
  rw [madeI_eq]
  have := fq_S (N := 60) (A := 180) (f := fun z : Me × Rat => if z.1.good = g then z.2 else 0) (l := b.ms.zip q.1) (fun z hz => by
    obtain ⟨h1, h2⟩ := List.of_mem_zip hz
    split
    · exact (hq.p.q _ h2).q
    · exact (fq_zero 60).mono (by decide))
  have h4 := hb.l2
  refine (this.up 60).mono ?_
  have : (b.ms.zip q.1).length ≤ 4 := by rw [List.length_zip]; omega
  have := Nat.mul_le_mul_right 180 this
  omega
theorem workQ : Fq 3600 129600 (workI b q.1) ∧ 0 ≤ workI b q.1 := by
  rw [workI_eq]
  have := fq_S (N := 3600) (A := 32400) (f := fun z : Me × Rat => z.1.work * z.2) (l := b.ms.zip q.1) (fun z hz => by
    obtain ⟨h1, h2⟩ := List.of_mem_zip hz
    exact (hb.ok _ h1).work.q.mul (hq.p.q _ h2).q)
  have h4 := hb.l2
  refine ⟨this.mono ?_, ?_⟩
  · have : (b.ms.zip q.1).length ≤ 4 := by rw [List.length_zip]; omega
    exact Nat.le_trans (Nat.mul_le_mul_right _ this) (by decide)
  · unfold workR
    have : ∀ l : List (Me × Rat), (∀ z ∈ l, 0 ≤ z.1.work * z.2) → 0 ≤ S (fun z : Me × Rat => z.1.work * z.2) l := fun l => by
      induction l with
      | nil => intro _; exact Rat.le_refl
      | cons z l ih =>
        intro h
        simp only [S]
        exact Rat.add_nonneg (h z (List.mem_cons_self ..)) (ih fun y hy => h y (List.mem_cons_of_mem _ hy))
    refine this _ fun z hz => ?_
    obtain ⟨h1, h2⟩ := List.of_mem_zip hz
    exact Rat.mul_nonneg (hb.ok _ h1).work.p (hq.p.q _ h2).p
theorem wantQ (hg : g < b.m) : ∃ u, q.2[g]? = some u ∧ q.2.getD g 0 = u ∧ 0 ≤ u ∧ Fq 3600 10800 u := by
  have hl : g < q.2.length := by rw [hq.w.len]; exact hg
  have e : q.2.getD g 0 = q.2[g] := by rw [List.getD_eq_getElem?_getD, List.getElem?_eq_getElem hl]; rfl
  have := hq.w.q _ (List.getElem_mem hl)
  exact ⟨_, List.getElem?_eq_getElem hl, e, this.p, this.q.up 60⟩
theorem stp_b {A : Nat} {x : Hs} (hx : HsB A x) (hg : g < b.m) : HsB (A + 183600) (stp b q g x) := by
  have h1 := hx.h.sub (usedQ hb hq hg)
  obtain ⟨u, _, e, _, hu⟩ := wantQ hb hq hg
  have h2 := (h1.add (madeQ hb hq g)).sub hu
  unfold stp
  rw [e]
  exact ⟨h2.mono (by omega), lesser_fq (h2.mono (by omega)) (lesser_fq (h1.mono (by omega)) (hx.s.mono (by omega)))⟩
end
theorem year_fold (b : Bk) (q : PR) (F : Nat → Hs) : (List.range b.m).foldl (stA b q) F = fun i => if i < b.m then stp b q i (F i) else F i := fold_range (stp b q) (stA b q) (fun _ _ => rfl) F b.m
def foE (b : Bk) (many : Int) (l : List PR) (t : Option Addr) (es : List D) (p r : Sl) (F : Nat → Hs) : G := [.own t es, .v (bkD b), .v (.int many), .v (.list (l.map fun q => rowD q.1)), .own none (l.map fun q => qD (workI b q.1)), .v (.list (l.map fun q => rowD q.2)), .no, .no, .own none ((List.range b.m).map fun g => qD (F g).s), .own none ((List.range b.m).map fun g => qD (F g).h), p, r, .no, .no, .no, .no]
theorem b20 {A : Nat} {r : Rat} (h : Fq 3600 A r) (hA : A < 2 ^ 21) : B0 21 r := h.b0 (by decide) (by decide) hA
theorem less_case {x y : Rat} (hx : B0 21 x) (hy : B0 21 y) : m__law_less [qD x, qD y] = some (.v (.bool (decide (x < y)))) := (less_ok (hx.mono (by decide)) (hy.mono (by decide))).2
theorem inner_step {b : Bk} (hb : DrBk 180 b) {q : PR} (hq : PrOk b q) (many : Int) (l : List PR) (t : Option Addr) (es : List D) {A g : Nat} (hA : A + 183600 < 2 ^ 21) (F : Nat → Hs) (hF : ∀ i, i < b.m → HsB A (F i) ∨ HsB (A + 183600) (F i)) (hg : g < b.m) (hFg : HsB A (F g)) :
    ∃ g1 g2, gTup (gsCons (gVar 7) (gsCons (gTup (gsCons (gVar 12) (gsCons (gVar 13) gsNil)) 2) gsNil)) 2 (.tuple [.int (g : Int), .tuple [qD (usedI b q.1 g), qD (madeI b q.1 g)]]) (foE b many l t es (.v (rowD q.1)) (.v (rowD q.2)) F) = some g1 ∧ l__law_fitted_2 g1 = some (.nx g2) ∧ g2 = foE b many l t es (.v (rowD q.1)) (.v (rowD q.2)) (stA b q F g) := by
  obtain ⟨u, w1, w2, w3, w4⟩ := wantQ hb hq hg
  have hu := usedQ hb hq hg
  have hm := madeQ hb hq g
  have h1 := hFg.h.sub hu
  have h2 := h1.add hm
  have h3 := h2.sub w4
  have f1 : m__law_sub [qD (F g).h, qD (usedI b q.1 g)] = some (.v (qD ((F g).h - usedI b q.1 g))) := law_sub_ok ((b20 hFg.h (by omega)).mono (by decide)) ((b20 hu (by decide)).mono (by decide))
  have f2 : m__law_add [qD ((F g).h - usedI b q.1 g), qD (madeI b q.1 g)] = some (.v (qD ((F g).h - usedI b q.1 g + madeI b q.1 g))) := law_add_ok ((b20 h1 (by omega)).mono (by decide)) ((b20 hm (by decide)).mono (by decide))
  have f3 : m__law_sub [qD ((F g).h - usedI b q.1 g + madeI b q.1 g), qD u] = some (.v (qD ((F g).h - usedI b q.1 g + madeI b q.1 g - u))) := law_sub_ok ((b20 h2 (by omega)).mono (by decide)) ((b20 w4 (by decide)).mono (by decide))
  have c1 := less_case (b20 h1 (by omega)) (b20 hFg.s (by omega))
  have c2 := less_case (b20 h3 (by omega)) (b20 h1 (by omega))
  have c3 := less_case (b20 h3 (by omega)) (b20 hFg.s (by omega))
  have aw : atD (rowD q.2) (.int (g : Int)) = some (qD u) := atD_map w1
  have h6 := hb.hi
  have fin : ∀ (x y : D), x = qD (stp b q g (F g)).h → y = qD (stp b q g (F g)).s → ∀ z : D, ((((List.range b.m).map fun g => qD (F g).s).set g z).set g y = (List.range b.m).map fun i => qD (stA b q F g i).s) ∧ ((((List.range b.m).map fun g => qD (F g).h).set g z).set g x = (List.range b.m).map fun i => qD (stA b q F g i).h) := fun x y hx hy z => by
    rw [List.set_set, List.set_set, set_range, set_range]
    constructor
    · congr 1; funext i; unfold stA; by_cases hi : i = g
      · subst hi; simp [hy]
      · simp [hi]
    · congr 1; funext i; unfold stA; by_cases hi : i = g
      · subst hi; simp [hx]
      · simp [hi]
  by_cases d1 : (F g).h - usedI b q.1 g < (F g).s
  · by_cases d2 : (F g).h - usedI b q.1 g + madeI b q.1 g - u < (F g).h - usedI b q.1 g
    · rw [decide_eq_true d1] at c1
      rw [decide_eq_true d2] at c2
      obtain ⟨e1, e2⟩ := fin _ _ rfl (show qD ((F g).h - usedI b q.1 g + madeI b q.1 g - u) = _ by simp only [stp, lesser, w2, d1, d2, if_true]) (qD ((F g).h - usedI b q.1 g))
      unfold foE
      apply ex_fo
      · ktf_call "ms"
      · unfold l__law_fitted_2
        ktf_call "ms"
      · rw [← e1, ← e2]
        simp only [stp, w2]
    · rw [decide_eq_true d1] at c1
      rw [decide_eq_false d2] at c2
      obtain ⟨e1, e2⟩ := fin _ _ rfl (show qD ((F g).h - usedI b q.1 g) = _ by simp only [stp, lesser, w2, d1, d2, if_true, if_false]) (qD ((F g).h - usedI b q.1 g))
      unfold foE
      apply ex_fo
      · ktf_call "ms"
      · unfold l__law_fitted_2
        ktf_call "ms"
      · rw [← e1, ← e2]
        simp only [stp, w2]
  · by_cases d2 : (F g).h - usedI b q.1 g + madeI b q.1 g - u < (F g).s
    · rw [decide_eq_false d1] at c1
      rw [decide_eq_true d2] at c3
      obtain ⟨e1, _⟩ := fin (qD (stp b q g (F g)).h) _ rfl (show qD ((F g).h - usedI b q.1 g + madeI b q.1 g - u) = _ by simp only [stp, lesser, w2, d1, d2, if_true, if_false]) (qD (F g).s)
      obtain ⟨_, e2⟩ := fin (qD (stp b q g (F g)).h) _ rfl rfl (qD ((F g).h - usedI b q.1 g))
      unfold foE
      apply ex_fo
      · ktf_call "ms"
      · unfold l__law_fitted_2
        ktf_call "ms"
      · rw [← e1, ← e2]
        simp only [stp, w2]
    · rw [decide_eq_false d1] at c1
      rw [decide_eq_false d2] at c3
      obtain ⟨e1, _⟩ := fin (qD (stp b q g (F g)).h) _ rfl (show qD (F g).s = _ by simp only [stp, lesser, w2, d1, d2, if_false]) (qD (F g).s)
      obtain ⟨_, e2⟩ := fin (qD (stp b q g (F g)).h) _ rfl rfl (qD ((F g).h - usedI b q.1 g))
      unfold foE
      apply ex_fo
      · ktf_call "ms"
      · unfold l__law_fitted_2
        ktf_call "ms"
      · rw [← e1, ← e2]
        simp only [stp, w2]
@[irreducible] def CY : Nat := 550800
theorem cy : CY = 550800 := by unfold CY; rfl
def HA (b : Bk) (A : Nat) (F : Nat → Hs) : Prop := ∀ i, i < b.m → HsB A (F i)
theorem HsB.mono {A B : Nat} {x : Hs} (h : HsB A x) (e : A ≤ B) : HsB B x := ⟨h.h.mono e, h.s.mono e⟩
theorem stA_b {b : Bk} (hb : DrBk 180 b) {q : PR} (hq : PrOk b q) {A g : Nat} {F : Nat → Hs} (hF : HA b A F) (hg : g < b.m) : HA b (A + 183600) (stA b q F g) := fun i hi => by
  unfold stA
  split
  · exact stp_b hb hq (hF g hg) hg
  · exact (hF i hi).mono (by omega)
theorem year_step {b : Bk} (hb : DrBk 180 b) {q : PR} (hq : PrOk b q) (many : Int) (l : List PR) (t : Option Addr) (es : List D) {A : Nat} (hA : A + CY < 2 ^ 21) (F : Nat → Hs) (hF : HA b A F) :
    HA b (A + CY) ((List.range b.m).foldl (stA b q) F) ∧ ∃ g1, gTup (gsCons (gVar 10) (gsCons (gVar 11) gsNil)) 2 (.tuple [rowD q.1, rowD q.2]) (foE b many l t es .no .no F) = some g1 ∧ l__law_fitted_3 g1 = some (.nx (foE b many l t es .no .no ((List.range b.m).foldl (stA b q) F))) := by
  have hm := hb.hi
  rw [cy] at hA ⊢
  have e2 : m__law_used [bkD b, rowD q.1] = some (.own none ((List.range b.m).map fun g => qD (usedI b q.1 g))) := by rw [usedI_eq]; exact law_used_ok hb.ok8 hq.p.row (by decide)
  have e3 : m__law_made [bkD b, rowD q.1] = some (.own none ((List.range b.m).map fun g => qD (madeI b q.1 g))) := by rw [madeI_eq]; exact law_made_ok hb.ok8 hq.p.row (by decide)
  obtain ⟨k1, k2⟩ := forGo_foldE (tg := gTup (gsCons (gVar 7) (gsCons (gTup (gsCons (gVar 12) (gsCons (gVar 13) gsNil)) 2) gsNil)) 2) (b := l__law_fitted_2) (fun (g : Nat) => .tuple [.int (g : Nat), .tuple [qD (usedI b q.1 g), qD (madeI b q.1 g)]]) (fun F => foE b many l t es (.v (rowD q.1)) (.v (rowD q.2)) F) (stA b q) (fun n F => HA b (A + n * 183600) F) 3 (List.range b.m) 0 F (by simp; omega) (by simpa using hF) (fun g hg n F hn hI => by
    have hg := List.mem_range.mp hg
    refine ⟨?_, ?_⟩
    · have := stA_b hb hq hI hg
      rwa [show A + n * 183600 + 183600 = A + (n + 1) * 183600 by omega] at this
    · exact inner_step hb hq many l t es (A := A + n * 183600) (by omega) F (fun i hi => .inl (hI i hi)) hg (hI g hg))
  refine ⟨?_, ?_⟩
  · intro i hi
    exact (k2 i hi).mono (by simp; omega)
  · unfold foE at k1 ⊢
    apply ex_b
    · ktf_call "ms"
    · unfold l__law_fitted_3
      ktf_call "ms"
theorem years_fold {b : Bk} (hb : DrBk 180 b) (many : Int) (L : List PR) (t : Option Addr) (es : List D) : ∀ (l : List PR) (A : Nat) (F : Nat → Hs), (∀ q ∈ l, PrOk b q) → A + l.length * CY < 2 ^ 21 → HA b A F →
    ∃ A', A' < 2 ^ 21 ∧ HA b A' (runA b F l) ∧ forGo (gTup (gsCons (gVar 10) (gsCons (gVar 11) gsNil)) 2) l__law_fitted_3 (l.map fun q => .tuple [rowD q.1, rowD q.2]) (foE b many L t es .no .no F) = some (.nx (foE b many L t es .no .no (runA b F l)))
  | [], A, F, _, hA, h => ⟨A, by simpa using hA, h, rfl⟩
  | q :: l, A, F, hq, hA, h => by
    simp only [List.length_cons, Nat.add_mul] at hA
    obtain ⟨h1, g1, h2, h3⟩ := year_step hb (hq q (List.mem_cons_self ..)) many L t es (A := A) (by omega) F h
    obtain ⟨A', a1, a2, a3⟩ := years_fold hb many L t es l (A + CY) _ (fun q hq' => hq q (List.mem_cons_of_mem _ hq')) (by omega) h1
    refine ⟨A', a1, a2, ?_⟩
    rw [List.map_cons, forGo, h2]
    simp only [Option.bind_some, h3]
    exact a3
def F0 : Nat → Hs := fun _ => ⟨0, 0⟩
def yrOf (b : Bk) (l : List PR) : Yr := ⟨b, (List.range b.m).map fun g => -(runA b F0 l g).s, l.map fun q => workI b q.1, l.map fun q => q.2⟩
theorem runA_cons (b : Bk) (F : Nat → Hs) (q : PR) (l : List PR) : runA b F (q :: l) = runA b (fun i => if i < b.m then stp b q i (F i) else F i) l := by
  unfold runA
  rw [List.foldl_cons, year_fold]
theorem stp_le (b : Bk) (q : PR) (g : Nat) (x : Hs) : (stp b q g x).s ≤ x.s ∧ (stp b q g x).s ≤ x.h - usedI b q.1 g ∧ (stp b q g x).s ≤ (stp b q g x).h := by
  have h1 := @lesser_le (x.h - usedI b q.1 g + madeI b q.1 g - q.2.getD g 0) (lesser (x.h - usedI b q.1 g) x.s)
  have h2 := @lesser_le (x.h - usedI b q.1 g) x.s
  exact ⟨Rat.le_trans h1.2 h2.2, Rat.le_trans h1.2 h2.1, h1.1⟩
theorem runA_le (b : Bk) : ∀ (l : List PR) (F : Nat → Hs) (g : Nat), g < b.m → (runA b F l g).s ≤ (F g).s
  | [], F, g, _ => Rat.le_refl
  | q :: l, F, g, hg => by
    rw [runA_cons]
    have := runA_le b l (fun i => if i < b.m then stp b q i (F i) else F i) g hg
    simp only [hg, if_true] at this
    exact Rat.le_trans this (stp_le b q g (F g)).1
theorem short_nil {m : Nat} {a c : Nat → Rat} (h : ∀ g, g < m → c g ≤ a g) : short m a c = [] := by
  unfold short
  rw [List.filter_eq_nil_iff]
  intro g hg
  have := h g (List.mem_range.mp hg)
  simp only [decide_eq_true_eq]
  exact Rat.not_lt.mpr this
theorem led_suffix (b : Bk) (L : List PR) (S : Nat → Rat) : ∀ (l : List PR) (t : Nat) (F : Nat → Hs) (h : Nat → Rat) (rows : List (Nat → Rat)), L.drop t = l → (∀ g, g < b.m → S g ≤ (runA b F l g).s) → (∀ g, g < b.m → h g = (F g).h - S g) →
    ∃ r, ledGo (yrOf b L) t (l.map fun q => q.1) h rows = .ok r
  | [], t, F, h, rows, _, _, _ => ⟨rows, rfl⟩
  | q :: l, t, F, h, rows, hd, hS, hh => by
    have hq : L[t]? = some q := by
      have := congrArg (fun z => z[0]?) hd
      simpa using this
    have hd2 : L.drop (t + 1) = l := by
      have := congrArg List.tail hd
      simpa [List.tail_drop] using this
    have hw : (yrOf b L).hands.getD t 0 = workI b q.1 := by
      simp [yrOf, List.getD_eq_getElem?_getD, hq]
    have hn : ∀ g, wantF (yrOf b L) t g = q.2.getD g 0 := fun g => by
      unfold wantF
      simp [yrOf, List.getD_eq_getElem?_getD, hq]
    rw [runA_cons] at hS
    have key : ∀ g, g < b.m → S g ≤ (stp b q g (F g)).s := fun g hg => by
      have := runA_le b l (fun i => if i < b.m then stp b q i (F i) else F i) g hg
      simp only [hg, if_true] at this
      exact Rat.le_trans (hS g hg) this
    have s1 : short (yrOf b L).bk.m h (usedI (yrOf b L).bk q.1) = [] := short_nil fun g hg => by
      have h1 := Rat.le_trans (key g hg) (stp_le b q g (F g)).2.1
      rw [hh g hg]
      show usedI b q.1 g ≤ _
      grind
    have mF : ∀ g, g < b.m → moreF (yrOf b L) q.1 h g = (F g).h - S g - usedI b q.1 g + madeI b q.1 g := fun g hg => by
      unfold moreF leftF
      rw [hh g hg]
      rfl
    have s2 : short (yrOf b L).bk.m (moreF (yrOf b L) q.1 h) (wantF (yrOf b L) t) = [] := short_nil fun g hg => by
      have h1 := Rat.le_trans (key g hg) (stp_le b q g (F g)).2.2
      rw [mF g hg, hn]
      have h2 : (stp b q g (F g)).h = (F g).h - usedI b q.1 g + madeI b q.1 g - q.2.getD g 0 := rfl
      rw [h2] at h1
      grind
    obtain ⟨r, e⟩ := led_suffix b L S l (t + 1) (fun i => if i < b.m then stp b q i (F i) else F i) (nextF (yrOf b L) t q.1 h) (rows ++ [nextF (yrOf b L) t q.1 h]) hd2 hS (fun g hg => by
      unfold nextF
      rw [mF g hg, hn]
      simp only [hg, if_true, stp]
      grind)
    refine ⟨r, ?_⟩
    rw [List.map_cons]
    show (if (yrOf b L).hands.getD t 0 < workI (yrOf b L).bk q.1 then _ else _) = _
    rw [hw, if_neg (show ¬ workI b q.1 < workI (yrOf b L).bk q.1 from Rat.lt_irrefl), s1]
    simp only
    rw [s2]
    exact e
structure QS (r : Rat) : Prop where
  p : 0 ≤ r
  q : Fq 3600 (2 ^ 21) r
theorem QS.am {r : Rat} (h : QS r) : Am 22 r := ⟨h.p, h.q.b0 (by decide) (by decide) (by decide)⟩
structure DrYr (y : Yr) : Prop where
  bk : DrBk 180 y.bk
  st : y.stocks.length = y.bk.m ∧ ∀ r ∈ y.stocks, QS r
  lo : 1 ≤ y.hands.length
  hi : y.hands.length ≤ 3
  hn : ∀ r ∈ y.hands, QS r
  wl : y.wants.length = y.hands.length
  wn : ∀ w ∈ y.wants, QRow y.bk.m 180 w
structure DrCo (y : Yr) (c : List (List Rat)) : Prop where
  len : c.length = y.hands.length
  ok : ∀ p ∈ c, QRow y.bk.ms.length 180 p
theorem Am.mono {j k : Nat} {r : Rat} (h : Am j r) (e : j ≤ k) : Am k r := ⟨h.p, h.b.mono e⟩
theorem Row.mono {j k n : Nat} {l : List Rat} (h : Row j n l) (e : j ≤ k) : Row k n l := ⟨h.len, fun r hr => (h.am r hr).mono e⟩
theorem BkOk.mono {j k : Nat} {b : Bk} (h : BkOk j b) (e : j ≤ k) : BkOk k b := ⟨h.lo, h.hi, h.l1, h.l2, fun x hx => by
  obtain ⟨a, b, c⟩ := h.ok x hx
  exact ⟨a, b.mono e, c.mono e⟩⟩
theorem DrYr.ok {y : Yr} (h : DrYr y) : YrOk 22 y := ⟨h.bk.ok8.mono (by decide), ⟨h.st.1, fun r hr => (h.st.2 r hr).am⟩, h.lo, by have := h.hi; omega, ⟨rfl, fun r hr => (h.hn r hr).am⟩, h.wl, fun w hw => (h.wn w hw).row.mono (by decide)⟩
theorem DrCo.ok22 {y : Yr} {c : List (List Rat)} (h : DrCo y c) : CoOk 22 y c := ⟨h.len, fun p hp => (h.ok p hp).row.mono (by decide)⟩
theorem fit_props {b : Bk} (hb : DrBk 180 b) {l : List PR} (h1 : 1 ≤ l.length) (h3 : l.length ≤ 3) (hl : ∀ q ∈ l, PrOk b q) {A : Nat} (hA : A < 2 ^ 21) (hF : HA b A (runA b F0 l)) :
    DrYr (yrOf b l) ∧ DrCo (yrOf b l) (l.map fun q => q.1) ∧ ∃ r, led (yrOf b l) (l.map fun q => q.1) = .ok r := by
  refine ⟨⟨hb, ⟨by simp [yrOf], fun r hr => ?_⟩, by simpa [yrOf] using h1, by simpa [yrOf] using h3, fun r hr => ?_, by simp [yrOf], fun w hw => ?_⟩, ⟨by simp [yrOf], fun p hp => ?_⟩, ?_⟩
  · obtain ⟨g, hg, rfl⟩ := List.mem_map.mp hr
    have hg := List.mem_range.mp hg
    have := runA_le b l F0 g hg
    have h0 : (F0 g).s = 0 := rfl
    rw [h0] at this
    exact ⟨by grind, ((hF g hg).s.neg).mono (by omega)⟩
  · obtain ⟨q, hq, rfl⟩ := List.mem_map.mp hr
    obtain ⟨a, c⟩ := workQ hb (hl q hq)
    exact ⟨c, a.mono (by decide)⟩
  · obtain ⟨q, hq, rfl⟩ := List.mem_map.mp hw
    exact (hl q hq).w
  · obtain ⟨q, hq, rfl⟩ := List.mem_map.mp hp
    exact (hl q hq).p
  · refine led_suffix b l (fun g => (runA b F0 l g).s) l 0 F0 (stF (yrOf b l)) _ rfl (fun g hg => Rat.le_refl) (fun g hg => ?_)
    have : stF (yrOf b l) g = -(runA b F0 l g).s := by
      unfold stF yrOf
      simp [List.getD_eq_getElem?_getD, hg]
    rw [this]
    show _ = (0 : Rat) - _
    grind
theorem rep_F0 (m : Nat) : (List.replicate ((m : Nat) : Int).toNat [PyData.tuple [.int 0, .int 1]]).flatten = (List.range m).map fun g => qD (F0 g).s := by
  have := rep_zero m
  rw [show qD 0 = PyData.tuple [.int 0, .int 1] from rfl] at this
  rw [this]
  refine List.ext_getElem (by simp) fun i h1 h2 => by simp [F0]
theorem rep_F0h (m : Nat) : ((List.range m).map fun g => qD (F0 g).h) = (List.range m).map fun g => qD (F0 g).s := rfl
theorem neg_q (r : Rat) : PyData.tuple [.int (0 - r.num), .int r.den] = qD (-r) := by simp [qD]
theorem fitted_ok {es : List D} (h : Hand es) : ∃ y c es', m__law_fitted es [] = some (.v (.tuple [yrD y, coD c]), es') ∧ (DrYr y ∧ DrCo y c ∧ ∃ r, led y c = .ok r) ∧ Hand es' := by
  obtain ⟨b, es1, e1, hb, H1⟩ := drawn_book_ok h
  obtain ⟨x, es2, e2, x0, x1, H2⟩ := draw_ok H1 (m := 3) (by decide) (by decide)
  obtain ⟨l, es3, ⟨i1, i2⟩, H3, k⟩ := forGo_draw (tg := gVar 6) (b := l__law_fitted_1) (fun (i : Nat) => PyData.int (i : Int)) (fun t es l => fitE b (1 + x) t es l) (fun n l => l.length = n ∧ ∀ q ∈ l, PrOk b q) 3 (List.range (1 + x).toNat) 0 [] es2 (by simp; omega) ⟨rfl, by simp⟩ H2
    (fun i hi n l es hn hI hh => by
      obtain ⟨q, es', hq, hh', kk⟩ := fit_year hb (1 + x) i l (by omega) hh
      exact ⟨l ++ [q], es', ⟨by simp [hI.1], fun z hz => by
        rcases List.mem_append.mp hz with hz | hz
        · exact hI.2 z hz
        · rw [List.mem_singleton] at hz; subst hz; exact hq⟩, hh', kk⟩)
  simp only [List.length_range] at i1
  have hl : l.length = (1 + x).toNat := by omega
  have z0 : HA b 0 F0 := fun i hi => ⟨fq_zero _, fq_zero _⟩
  have hfold := fun t => years_fold hb (1 + x) l t es3 l 0 F0 i2 (by rw [cy, hl]; omega) z0
  obtain ⟨A, hA, hF, _⟩ := hfold none
  obtain ⟨p1, p2, p3⟩ := fit_props hb (by omega) (by omega) i2 hA hF
  have hm := hb.hi
  refine ⟨yrOf b l, l.map fun q => q.1, es3, ?_, ⟨p1, p2, p3⟩, H3⟩
  have key : ∃ d es', m__law_fitted es [] = some (.v d, es') ∧ (d = .tuple [yrD (yrOf b l), coD (l.map fun q => q.1)] ∧ es' = es3) := by
    have hr : rngL (1 + x) = some ((List.range (1 + x).toNat).map fun (i : Nat) => .int (i : Int)) := rg_i (by omega)
    apply ex_id
    · unfold m__law_fitted
      apply m_iI
      intro a
      have k1 := k (some a)
      obtain ⟨_, _, _, k3⟩ := hfold (some a)
      have hv : ∀ z : List Sl, vRep (vLst (aCons (eTup (aCons (eC (.int 0)) (aCons (eC (.int 1)) aNil))) aNil)) (eIxV 1 (eC (.int 0))) (.own (some a) es3 :: .v (bkD b) :: z) = some (.own none ((List.range b.m).map fun g => qD (F0 g).s), .own (some a) es3 :: .v (bkD b) :: z) := fun z => by
        rw [← rep_F0]
        have v0 : atD (bkD b) (.int 0) = some (.int b.m) := rfl
        ktf_call "ms"
      unfold fitE at k1
      simp only [List.map_nil] at k1
      unfold foE at k3
      rw [rep_F0h] at k3
      have hv1 := hv [.v (.int (1 + x)), .own none (l.map fun q => rowD q.1), .own none (l.map fun q => qD (workI b q.1)), .own none (l.map fun q => rowD q.2), .no, .no, .no, .no, .no, .no, .no, .no, .no, .no]
      apply m_iI3
      · ktf_call "ms"
      · unfold b__law_fitted
        ktf_call "ms"
      · rfl
    · refine ⟨?_, rfl⟩
      simp only [neg_q, yrD, yrOf, coD, rowD, List.map_map]
      rfl
  obtain ⟨d, es', e, rfl, rfl⟩ := key
  exact e
@[irreducible] def N4 : Nat := 4320000
theorem n4 : N4 = 4320000 := by unfold N4; rfl
@[irreducible] def Y33 : Nat := 2 ^ 33
theorem y33 : Y33 = 2 ^ 33 := by unfold Y33; rfl
structure QT (r : Rat) : Prop where
  p : 0 ≤ r
  q : Fq N4 (2 ^ 32) r
theorem fq40 {A : Nat} {r : Rat} (h : Fq N4 A r) (hA : A < 2 ^ 40) : B0 40 r := by
  rw [n4] at h
  exact h.b0 (by decide) (by decide) hA
theorem QT.am {r : Rat} (h : QT r) : Am 40 r := ⟨h.p, fq40 h.q (by decide)⟩
structure LdYr (y : Yr) : Prop where
  bk : DrBk 180 y.bk
  st : y.stocks.length = y.bk.m ∧ ∀ r ∈ y.stocks, QT r
  lo : 1 ≤ y.hands.length
  hi : y.hands.length ≤ 3
  hn : ∀ r ∈ y.hands, QT r
  wl : y.wants.length = y.hands.length
  wn : ∀ w ∈ y.wants, w.length = y.bk.m ∧ ∀ r ∈ w, QT r
structure QC (r : Rat) : Prop where
  p : 0 ≤ r
  q : Fq 36000 (2 ^ 17) r
theorem QC.am {r : Rat} (h : QC r) : Am 18 r := ⟨h.p, h.q.b0 (by decide) (by decide) (by decide)⟩
structure LdCo (y : Yr) (c : List (List Rat)) : Prop where
  len : c.length = y.hands.length
  ok : ∀ p ∈ c, p.length = y.bk.ms.length ∧ ∀ r ∈ p, QC r
theorem LdYr.ok {y : Yr} (h : LdYr y) : YrOk 40 y := ⟨h.bk.ok8.mono (by decide), ⟨h.st.1, fun r hr => (h.st.2 r hr).am⟩, h.lo, by have := h.hi; omega, ⟨rfl, fun r hr => (h.hn r hr).am⟩, h.wl, fun w hw => ⟨(h.wn w hw).1, fun r hr => ((h.wn w hw).2 r hr).am⟩⟩
theorem LdCo.ok40 {y : Yr} {c : List (List Rat)} (h : LdCo y c) : CoOk 40 y c := ⟨h.len, fun p hp => ⟨(h.ok p hp).1, fun r hr => ((h.ok p hp).2 r hr).am.mono (by decide)⟩⟩
section
variable {y : Yr} (hy : LdYr y) {p : List Rat} (hp : p.length = y.bk.ms.length ∧ ∀ r ∈ p, QC r)
include hy hp
theorem usedT {g : Nat} (hg : g < y.bk.m) : Fq N4 (2 ^ 28) (usedI y.bk p g) := by
  rw [usedI_eq]
  have h4 := hy.bk.l2
  have hl : (y.bk.ms.zip p).length ≤ 4 := by rw [List.length_zip]; omega
  have := fq_S (N := 60 * 36000) (A := 180 * 2 ^ 17) (f := fun z : Me × Rat => z.1.uses.getD g 0 * z.2) (l := y.bk.ms.zip p) (fun z hz => by
    obtain ⟨h1, h2⟩ := List.of_mem_zip hz
    have hu := hy.bk.ok _ h1
    have hl : g < z.1.uses.length := by rw [hu.ul]; exact hg
    have e : z.1.uses.getD g 0 = z.1.uses[g] := by rw [List.getD_eq_getElem?_getD, List.getElem?_eq_getElem hl]; rfl
    rw [e]
    exact (hu.uses _ (List.getElem_mem hl)).q.mul (hp.2 _ h2).q)
  have h2 := this.up 2
  rw [show 60 * 36000 * 2 = N4 by rw [n4]] at h2
  exact h2.mono (Nat.le_trans (Nat.mul_le_mul_right _ (Nat.mul_le_mul_right _ hl)) (by decide))
theorem madeT (g : Nat) : Fq N4 (2 ^ 26) (madeI y.bk p g) := by
  rw [madeI_eq]
  have h4 := hy.bk.l2
  have hl : (y.bk.ms.zip p).length ≤ 4 := by rw [List.length_zip]; omega
  have := fq_S (N := 36000) (A := 2 ^ 17) (f := fun z : Me × Rat => if z.1.good = g then z.2 else 0) (l := y.bk.ms.zip p) (fun z hz => by
    obtain ⟨h1, h2⟩ := List.of_mem_zip hz
    split
    · exact (hp.2 _ h2).q
    · exact (fq_zero _).mono (by omega))
  have h2 := this.up 120
  rw [show 36000 * 120 = N4 by rw [n4]] at h2
  exact h2.mono (Nat.le_trans (Nat.mul_le_mul_right _ (Nat.mul_le_mul_right _ hl)) (by decide))
theorem nextT {t A : Nat} (ht : t < y.hands.length) {h : Nat → Rat} (hh : ∀ g, g < y.bk.m → Fq N4 A (h g)) : ∀ g, g < y.bk.m → Fq N4 (A + Y33) (nextF y t p h g) := fun g hg => by
  rw [y33]
  have hl : t < y.wants.length := by rw [hy.wl]; exact ht
  have e : y.wants.getD t [] = y.wants[t] := by rw [List.getD_eq_getElem?_getD, List.getElem?_eq_getElem hl]; rfl
  have hw := hy.wn _ (List.getElem_mem hl)
  have hl2 : g < y.wants[t].length := by rw [hw.1]; exact hg
  have e2 : wantF y t g = y.wants[t][g] := by unfold wantF; rw [e, List.getD_eq_getElem?_getD, List.getElem?_eq_getElem hl2]; rfl
  have hq := (hw.2 _ (List.getElem_mem hl2)).q
  rw [← e2] at hq
  unfold nextF moreF leftF
  exact ((((hh g hg).sub (usedT hy hp hg)).add (madeT hy hp g)).sub hq).mono (by omega)
end
theorem rowsT {y : Yr} (hy : LdYr y) : ∀ (ps : List (List Rat)) (t A : Nat) (h : Nat → Rat) (rows r : List (Nat → Rat)), (∀ p ∈ ps, p.length = y.bk.ms.length ∧ ∀ r ∈ p, QC r) → t + ps.length ≤ y.hands.length → (∀ g, g < y.bk.m → Fq N4 A (h g)) → A + ps.length * Y33 < 2 ^ 40 → (∀ f ∈ rows, ∀ g, g < y.bk.m → B0 40 (f g)) → ledGo y t ps h rows = .ok r →
    r.length = rows.length + ps.length ∧ ∀ f ∈ r, ∀ g, g < y.bk.m → B0 40 (f g)
  | [], t, A, h, rows, r, _, _, _, _, hr, e => by
    unfold ledGo at e
    cases e
    exact ⟨rfl, hr⟩
  | p :: ps, t, A, h, rows, r, hp, ht, hh, hA, hr, e => by
    simp only [List.length_cons, Nat.add_mul] at ht hA
    rcases ledGo_cons y t p ps h rows with ⟨_, k2⟩ | ⟨k1, k2⟩
    · rw [k2] at e
      have hn := nextT hy (hp p (List.mem_cons_self ..)) (t := t) (by omega) hh
      obtain ⟨a, b⟩ := rowsT hy ps (t + 1) (A + Y33) _ (rows ++ [nextF y t p h]) r (fun q hq => hp q (List.mem_cons_of_mem _ hq)) (by omega) hn (by omega) (fun f hf g hg => by
        rcases List.mem_append.mp hf with hf | hf
        · exact hr f hf g hg
        · rw [List.mem_singleton] at hf
          subst hf
          exact fq40 (hn g hg) (by have : Y33 ≤ (ps.length + 1) * Y33 := Nat.le_mul_of_pos_left _ (by omega); rw [Nat.add_mul] at this; omega)) e
      exact ⟨by rw [a]; simp; omega, b⟩
    · exact absurd (k1.symm.trans e) (k2 r)
theorem rp_row {m : Nat} {l : List Rat} (h : ∀ r ∈ l, B0 40 r) (hl : l.length ≤ m) : Rp 2 (1302 * m + 3) (rowD l) := Rp.tup (n := 1) (k := 1300) (fun d hd => by
  obtain ⟨r, hr, rfl⟩ := List.mem_map.mp hd
  exact rp_q (by decide) (h r hr)) (by simpa using hl)
theorem rp_rowF {m : Nat} {f : Nat → Rat} (h : ∀ g, g < m → B0 40 (f g)) (hm : m ≤ 6) : Rp 2 8000 (rowF m f) := by
  rw [← rowD_range]
  exact (rp_row (m := 6) (fun r hr => by
    obtain ⟨g, hg, rfl⟩ := List.mem_map.mp hr
    exact h g (List.mem_range.mp hg)) (by simp; omega)).mono (by decide) (by decide)
theorem rp_me {k m : Nat} (hk : k ≤ 40) (hm : m ≤ 6) {e : Me} (h : MeOk k m e) : Rp 3 32000 (meD e) := by
  have hu := h.uses
  refine (Rp.tup (n := 2) (k := 8000) (c := 3) (ds := [.int e.good, rowD e.uses, qD e.work]) (fun d hd => ?_) (by simp)).mono (by decide) (by decide)
  simp only [List.mem_cons, List.not_mem_nil, or_false] at hd
  rcases hd with rfl | rfl | rfl
  · have := h.good
    exact (rp_nat (by omega)).mono (by decide) (by decide)
  · exact (rp_row (m := 6) (fun r hr => (hu.am r hr).b.mono hk) (by rw [hu.len]; exact hm)).mono (by decide) (by decide)
  · exact (rp_q (by decide) (h.work.b.mono hk)).mono (by decide) (by decide)
theorem rp_bk {k : Nat} (hk : k ≤ 40) {b : Bk} (h : BkOk k b) : Rp 5 1300000 (bkD b) := by
  have h6 := h.hi
  have h20 := h.l2
  refine (Rp.tup (n := 4) (k := 645000) (c := 2) (ds := [.int b.m, .tuple (b.ms.map meD)]) (fun d hd => ?_) (by simp)).mono (by decide) (by decide)
  simp only [List.mem_cons, List.not_mem_nil, or_false] at hd
  rcases hd with rfl | rfl
  · exact (rp_nat (by omega)).mono (by decide) (by decide)
  · exact (Rp.tup (n := 3) (k := 32000) (c := 20) (fun d hd => by
      obtain ⟨e, he, rfl⟩ := List.mem_map.mp hd
      exact rp_me hk h6 (h.ok e he)) (by simpa using h20)).mono (by decide) (by decide)
theorem rp_yr {y : Yr} (h : YrOk 40 y) : Rp 6 5300000 (yrD y) := by
  have h6 := h.hi
  have hm := h.bk.hi
  refine (Rp.tup (n := 5) (k := 1300000) (c := 4) (ds := [bkD y.bk, rowD y.stocks, rowD y.hands, .tuple (y.wants.map rowD)]) (fun d hd => ?_) (by simp)).mono (by decide) (by decide)
  · simp only [List.mem_cons, List.not_mem_nil, or_false] at hd
    rcases hd with rfl | rfl | rfl | rfl
    · exact rp_bk (by decide) h.bk
    · exact (rp_row (m := 6) (fun r hr => (h.st.am r hr).b) (by rw [h.st.len]; exact hm)).mono (by decide) (by decide)
    · exact (rp_row (m := 6) (fun r hr => (h.hn.am r hr).b) h6).mono (by decide) (by decide)
    · exact (Rp.tup (n := 2) (k := 8000) (c := 6) (fun d hd => by
        obtain ⟨w, hw, rfl⟩ := List.mem_map.mp hd
        exact (rp_row (m := 6) (fun r hr => ((h.wn w hw).am r hr).b) (by rw [(h.wn w hw).len]; exact hm)).mono (by decide) (by decide)) (by rw [List.length_map, h.wl]; exact h6)).mono (by decide) (by decide)
theorem rp_co {y : Yr} {c : List (List Rat)} (hy : YrOk 40 y) (h : CoOk 40 y c) : Rp 3 200000 (coD c) := by
  have h20 := hy.bk.l2
  have h6 := hy.hi
  exact (Rp.tup (n := 2) (k := 26100) (c := 6) (fun d hd => by
    obtain ⟨w, hw, rfl⟩ := List.mem_map.mp hd
    exact (rp_row (m := 20) (fun r hr => ((h.ok w hw).am r hr).b) (by rw [(h.ok w hw).len]; exact h20)).mono (by decide) (by decide)) (by rw [List.length_map, h.len]; exact h6)).mono (by decide) (by decide)
theorem st_T {y : Yr} (hy : LdYr y) : ∀ g, g < y.bk.m → Fq N4 (2 ^ 32) (stF y g) := fun g hg => by
  have hl : g < y.stocks.length := by rw [hy.st.1]; exact hg
  have e : stF y g = y.stocks[g] := by unfold stF; rw [List.getD_eq_getElem?_getD, List.getElem?_eq_getElem hl]; rfl
  rw [e]
  exact (hy.st.2 _ (List.getElem_mem hl)).q
theorem short_lt {m g : Nat} {a b : Nat → Rat} {r : List Nat} (h : short m a b = g :: r) : g < m := by
  have : g ∈ short m a b := by rw [h]; simp
  unfold short at this
  exact List.mem_range.mp (List.mem_filter.mp this).1
theorem led_idx (y : Yr) : ∀ (ps : List (List Rat)) (t : Nat) (h : Nat → Rat) (rows : List (Nat → Rat)), match ledGo y t ps h rows with
    | .hands a => a < t + ps.length
    | .used a g => a < t + ps.length ∧ g < y.bk.m
    | .taken a g => a < t + ps.length ∧ g < y.bk.m
    | .ok _ => True
  | [], t, h, rows => by unfold ledGo; trivial
  | p :: ps, t, h, rows => by
    have ih := led_idx y ps (t + 1) (nextF y t p h) (rows ++ [nextF y t p h])
    simp only [ledGo, List.length_cons]
    split
    · rename_i a e
      split at e
      · cases e; omega
      · split at e
        · cases e
        · split at e
          · cases e
          · rw [e] at ih; simp only at ih; omega
    · rename_i a g e
      split at e
      · cases e
      · split at e
        · rename_i k; cases e; exact ⟨by omega, short_lt k⟩
        · split at e
          · cases e
          · rw [e] at ih; simp only at ih; exact ⟨by omega, ih.2⟩
    · rename_i a g e
      split at e
      · cases e
      · split at e
        · cases e
        · split at e
          · rename_i k; cases e; exact ⟨by omega, short_lt k⟩
          · rw [e] at ih; simp only at ih; exact ⟨by omega, ih.2⟩
    · trivial
theorem led_rp {y : Yr} {c : List (List Rat)} (hy : LdYr y) (hc : LdCo y c) : ∃ d s, dat (ledSl y.bk.m (led y c)) = some d ∧ reprD d = some (.str s) := by
  have h3 := hy.hi
  have hl := hc.len
  have hm := hy.bk.hi
  cases q : led y c with
  | ok r =>
    obtain ⟨a, b⟩ := rowsT hy c 0 (2 ^ 32) (stF y) [stF y] r hc.ok (by omega) (st_T hy) (by rw [y33]; omega) (fun f hf g hg => by
      rw [List.mem_singleton] at hf
      subst hf
      exact fq40 (st_T hy g hg) (by decide)) q
    have hr := (Rp.lst (n := 2) (k := 8000) (c := 4) (ds := r.map (rowF y.bk.m)) (fun d hd => by
      obtain ⟨f, hf, rfl⟩ := List.mem_map.mp hd
      exact rp_rowF (b f hf) (by omega)) (by simp; simp at a; omega)).mono (n' := 60) (k' := 16000000) (by decide) (by decide)
    exact ⟨_, _, rfl, hr.str (by decide) (by decide)⟩
  | hands t =>
    have ix := led_idx y c 0 (stF y) [stF y]
    rw [show ledGo y 0 c (stF y) [stF y] = Led.hands t from q] at ix
    simp only at ix
    refine ⟨_, _, rfl, Rp.str (n := 1) (k := 2000) ?_ (by decide) (by decide)⟩
    exact (Rp.tup (n := 0) (k := 600) (c := 2) (fun d hd => by
      simp only [List.mem_cons, List.not_mem_nil, or_false] at hd
      rcases hd with rfl | rfl
      · exact ⟨by decide, by decide, by decide +kernel⟩
      · exact rp_nat (by omega)) (by simp)).mono (by decide) (by decide)
  | used t g =>
    have ix := led_idx y c 0 (stF y) [stF y]
    rw [show ledGo y 0 c (stF y) [stF y] = Led.used t g from q] at ix
    simp only at ix
    refine ⟨_, _, rfl, Rp.str (n := 1) (k := 2000) ?_ (by decide) (by decide)⟩
    exact (Rp.tup (n := 0) (k := 600) (c := 3) (fun d hd => by
      simp only [List.mem_cons, List.not_mem_nil, or_false] at hd
      rcases hd with rfl | rfl | rfl
      · exact ⟨by decide, by decide, by decide +kernel⟩
      · exact rp_nat (by omega)
      · exact rp_nat (by omega)) (by simp)).mono (by decide) (by decide)
  | taken t g =>
    have ix := led_idx y c 0 (stF y) [stF y]
    rw [show ledGo y 0 c (stF y) [stF y] = Led.taken t g from q] at ix
    simp only at ix
    refine ⟨_, _, rfl, Rp.str (n := 1) (k := 2000) ?_ (by decide) (by decide)⟩
    exact (Rp.tup (n := 0) (k := 600) (c := 3) (fun d hd => by
      simp only [List.mem_cons, List.not_mem_nil, or_false] at hd
      rcases hd with rfl | rfl | rfl
      · exact ⟨by decide, by decide, by decide +kernel⟩
      · exact rp_nat (by omega)
      · exact rp_nat (by omega)) (by simp)).mono (by decide) (by decide)
/-! ### what is laid for the judges is not too great -/
theorem gd_q {k : Nat} {r : Rat} (h : B0 k r) : gd k (qD r) = true := gd_tup.mpr ⟨by simp, fun d hd => by
  simp only [List.mem_cons, List.not_mem_nil, or_false] at hd
  rcases hd with rfl | rfl
  · simp only [gd, decide_eq_true_eq]; exact h.num
  · simp only [gd, decide_eq_true_eq]; exact natAbs_lt h.den⟩
theorem gd_row {k : Nat} {l : List Rat} (h : ∀ r ∈ l, B0 k r) (hl : l.length ≤ 1000) : gd k (rowD l) = true := gd_tup.mpr ⟨by simpa using hl, fun d hd => by
  obtain ⟨r, hr, rfl⟩ := List.mem_map.mp hd
  exact gd_q (h r hr)⟩
theorem gd_nat {k n : Nat} (h : n < 2 ^ k) : gd k (.int (n : Int)) = true := by simp only [gd, decide_eq_true_eq]; omega
theorem gd_bk {k : Nat} (hk : 3 ≤ k) {b : Bk} (h : BkOk k b) : gd k (bkD b) = true := by
  have h6 := h.hi
  have h20 := h.l2
  have h8 : (2:Nat) ^ 3 ≤ 2 ^ k := Nat.pow_le_pow_right (by decide) hk
  refine gd_tup.mpr ⟨by simp, fun d hd => ?_⟩
  simp only [List.mem_cons, List.not_mem_nil, or_false] at hd
  rcases hd with rfl | rfl
  · exact gd_nat (by omega)
  · refine gd_tup.mpr ⟨by simp; omega, fun d hd => ?_⟩
    obtain ⟨e, he, rfl⟩ := List.mem_map.mp hd
    obtain ⟨a, c, w⟩ := h.ok e he
    refine gd_tup.mpr ⟨by simp, fun d hd => ?_⟩
    simp only [List.mem_cons, List.not_mem_nil, or_false] at hd
    rcases hd with rfl | rfl | rfl
    · exact gd_nat (by omega)
    · exact gd_row (fun r hr => (c.am r hr).b) (by rw [c.len]; omega)
    · exact gd_q w.b
theorem gd_yr {k : Nat} (hk : 3 ≤ k) {y : Yr} (h : YrOk k y) : gd k (yrD y) = true := by
  have h6 := h.hi
  have hm := h.bk.hi
  refine gd_tup.mpr ⟨by simp, fun d hd => ?_⟩
  simp only [List.mem_cons, List.not_mem_nil, or_false] at hd
  rcases hd with rfl | rfl | rfl | rfl
  · exact gd_bk hk h.bk
  · exact gd_row (fun r hr => (h.st.am r hr).b) (by rw [h.st.len]; omega)
  · exact gd_row (fun r hr => (h.hn.am r hr).b) (by omega)
  · refine gd_tup.mpr ⟨by rw [List.length_map, h.wl]; omega, fun d hd => ?_⟩
    obtain ⟨w, hw, rfl⟩ := List.mem_map.mp hd
    exact gd_row (fun r hr => ((h.wn w hw).am r hr).b) (by rw [(h.wn w hw).len]; omega)
theorem gd_co {k : Nat} {y : Yr} {c : List (List Rat)} (hy : YrOk k y) (h : CoOk k y c) : gd k (coD c) = true := by
  have h20 := hy.bk.l2
  have h6 := hy.hi
  refine gd_tup.mpr ⟨by rw [List.length_map, h.len]; omega, fun d hd => ?_⟩
  obtain ⟨w, hw, rfl⟩ := List.mem_map.mp hd
  exact gd_row (fun r hr => ((h.ok w hw).am r hr).b) (by rw [(h.ok w hw).len]; omega)
theorem is_led_ok {y : Yr} {c : List (List Rat)} (hy : LdYr y) (hc : LdCo y c) : m__law_is_led [yrD y, coD c] = some (.v (.bool true)) := by
  have e1 := law_led_ok hy.ok hc.ok40 (by decide)
  have e2 := course_led_ok hy.ok hc.ok40 (by decide) (gd_yr (by decide) hy.ok) (gd_co hy.ok hc.ok40)
  obtain ⟨d, s, h1, h2⟩ := led_rp hy hc
  have h3 := (Rp.tup (n := 6) (k := 5300000) (c := 2) (ds := [yrD y, coD c]) (fun d hd => by
    simp only [List.mem_cons, List.not_mem_nil, or_false] at hd
    rcases hd with rfl | rfl
    · exact rp_yr hy.ok
    · exact (rp_co hy.ok hc.ok40).mono (by decide) (by decide)) (by simp)).str (by decide) (by decide)
  have q1 := eqD_self s
  have q2 := eqD_self (PyData.tuple [yrD y, coD c]).shown
  unfold m__law_is_led b__law_is_led
  cases q : led y c with
  | ok r => rw [q] at e1 e2 h1; cases h1; ktf_call "ms"
  | hands a => rw [q] at e1 e2 h1; cases h1; ktf_call "ms"
  | used a b => rw [q] at e1 e2 h1; cases h1; ktf_call "ms"
  | taken a b => rw [q] at e1 e2 h1; cases h1; ktf_call "ms"
theorem QS.up {r : Rat} (h : QS r) : QT r := ⟨h.p, by
  have := h.q.up 1200
  rw [show 3600 * 1200 = N4 by rw [n4]] at this
  exact this.mono (by decide)⟩
theorem Q0.upT {r : Rat} (h : Q0 180 r) : QT r := ⟨h.p, by
  have := h.q.up 72000
  rw [show 60 * 72000 = N4 by rw [n4]] at this
  exact this.mono (by decide)⟩
theorem Q0.upC {r : Rat} (h : Q0 180 r) : QC r := ⟨h.p, by
  have := h.q.up 600
  exact this.mono (by decide)⟩
theorem DrYr.ld {y : Yr} (h : DrYr y) : LdYr y := ⟨h.bk, ⟨h.st.1, fun r hr => (h.st.2 r hr).up⟩, h.lo, h.hi, fun r hr => (h.hn r hr).up, h.wl, fun w hw => ⟨(h.wn w hw).len, fun r hr => ((h.wn w hw).q r hr).upT⟩⟩
theorem DrCo.ld {y : Yr} {c : List (List Rat)} (h : DrCo y c) : LdCo y c := ⟨h.len, fun p hp => ⟨(h.ok p hp).len, fun r hr => ((h.ok p hp).q r hr).upC⟩⟩
/-- a factor: nought, a half, one, three halves -/
def isF (d : D) : Prop := ∃ f : Rat, d = qD f ∧ 0 ≤ f ∧ Fq 2 3 f
theorem isF_of {a b : Int} {c : Nat} (ha : 0 ≤ a) (hb : 0 < b) (h : b * c = (2 : Nat)) (hA : a.natAbs * c ≤ 3) : isF (qD (Rat.divInt a b)) := ⟨_, rfl, divInt_nonneg ha hb, (fq_div hb h).mono hA⟩
theorem isF_0 : isF (.tuple [.int 0, .int 1]) := isF_of (a := 0) (b := 1) (c := 2) (by decide) (by decide) (by decide) (by decide)
theorem isF_12 : isF (.tuple [.int 1, .int 2]) := isF_of (a := 1) (b := 2) (c := 1) (by decide) (by decide) (by decide) (by decide)
theorem isF_1 : isF (.tuple [.int 1, .int 1]) := isF_of (a := 1) (b := 1) (c := 2) (by decide) (by decide) (by decide) (by decide)
theorem isF_32 : isF (.tuple [.int 3, .int 2]) := isF_of (a := 3) (b := 2) (c := 1) (by decide) (by decide) (by decide) (by decide)
theorem QS.fac {r f : Rat} (h : QS r) (h0 : 0 ≤ f) (hf : Fq 2 3 f) : QT (r * f) := ⟨Rat.mul_nonneg h.p h0, by
  have := (h.q.mul hf).up 600
  rw [show 3600 * 2 * 600 = N4 by rw [n4]] at this
  exact this.mono (by decide)⟩
theorem Q0.fac {r f : Rat} (h : Q0 180 r) (h0 : 0 ≤ f) (hf : Fq 2 3 f) : QT (r * f) := ⟨Rat.mul_nonneg h.p h0, by
  have := (h.q.mul hf).up 36000
  rw [show 60 * 2 * 36000 = N4 by rw [n4]] at this
  exact this.mono (by decide)⟩
theorem fac_b {f : Rat} (hf : Fq 2 3 f) : B0 3 f := hf.b0 (by decide) (by decide) (by decide)
/-- fractions times drawn factors -/
theorem facs (P : Rat → Prop) (hP : ∀ r f, P r → 0 ≤ f → Fq 2 3 f → QT (r * f)) (hB : ∀ r, P r → B0 30 r) (ds : List D) (hds : ds ≠ []) (hds2 : ds.length < 1000000) (hf : ∀ d ∈ ds, isF d) (av : Fa) (hav : ∀ g, av g = some (ds, g)) (E : Option Addr → List D → G) (hE : ∀ t es d, ∃ g, (E t es).set 7 (.v d) = g ∧ g[0]? = some (.own t es) ∧ g[7]? = some (.v d) ∧ (∀ es', (g.set 0 (.own t es'))[7]? = some (.v d)) ∧ (∀ es', wipeG (g.set 0 (.own t es')) [7] = E t es')) :
    ∀ rs : List Rat, (∀ r ∈ rs, P r) → ∀ es, Hand es → ∃ (l : List Rat) (es' : List D), (l.length = rs.length ∧ ∀ r ∈ l, QT r) ∧ Hand es' ∧ ∀ t, lcGo (gVar 7) cYes (eV (eCall m__law_mul (aCons (eVar 7) (aCons (eV (eCallI m__law_any 0 (aCons (eV (vLst av)) aNil))) aNil)))) [7] (rs.map qD) (E t es) = some (l.map qD, E t es') := fun rs hrs es h => by
  obtain ⟨dl, es', d1, d2, H, k⟩ := lcGo_draw (tg := gVar 7) (f := eV (eCall m__law_mul (aCons (eVar 7) (aCons (eV (eCallI m__law_any 0 (aCons (eV (vLst av)) aNil))) aNil)))) (vs := [7]) qD (fun d => ∃ r, d = qD r ∧ QT r) E rs (fun r hr es h => by
    obtain ⟨d, es2, e2, hd, H2⟩ := any_ok (ds := ds) h hds hds2
    obtain ⟨f, rfl, hf0, hfq⟩ := hf d hd
    refine ⟨qD (r * f), es2, ⟨_, rfl, hP r f (hrs r hr) hf0 hfq⟩, H2, fun t => ?_⟩
    obtain ⟨g, hg, h0, h7, h7', hw⟩ := hE t es (qD r)
    have c2 := callI_of (m := m__law_any) (i := 0) (g := g) (by rw [h0]; rfl) (ar_cons (eV_o (vLst_of (hav g))) ar_nil) h0 e2
    have em := law_mul_ok ((hB r (hrs r hr)).mono (by decide)) ((fac_b hfq).mono (by decide))
    exact ⟨g, g.set 0 (.own t es2), by unfold gVar; rw [hg], rfl, eV_v (eCall_of (ar_cons (m_vV h7) (ar_cons (eV_v c2) ar_nil)) em), hw es2⟩) es h
  obtain ⟨l, hl2, hQ⟩ := mapOf (f := qD) (P := QT) (ds := dl) fun d hd => d2 d hd
  subst hl2
  exact ⟨l, es', ⟨by simpa using d1, hQ⟩, H, k⟩
theorem facsH (B : Yr) (x1 x2 x3 x4 x5 x6 x8 : Sl) (P : Rat → Prop) (hP : ∀ r f, P r → 0 ≤ f → Fq 2 3 f → QT (r * f)) (hB : ∀ r, P r → B0 30 r) : ∀ rs : List Rat, (∀ r ∈ rs, P r) → ∀ es, Hand es → ∃ (l : List Rat) (es' : List D), (l.length = rs.length ∧ ∀ r ∈ l, QT r) ∧ Hand es' ∧ ∀ t, lcGo (gVar 7) cYes (eV (eCall m__law_mul (aCons (eVar 7) (aCons (eV (eCallI m__law_any 0 (aCons (eV (vLst (aCons (eTup (aCons (eC (.int 0)) (aCons (eC (.int 1)) aNil))) (aCons (eTup (aCons (eC (.int 1)) (aCons (eC (.int 2)) aNil))) (aCons (eTup (aCons (eC (.int 1)) (aCons (eC (.int 1)) aNil))) aNil))))) aNil))) aNil)))) [7] (rs.map qD) [.own t es, x1, x2, x3, x4, x5, x6, .no, x8] = some (l.map qD, [.own t es', x1, x2, x3, x4, x5, x6, .no, x8]) :=
  facs P hP hB [.tuple [.int 0, .int 1], .tuple [.int 1, .int 2], .tuple [.int 1, .int 1]] (by simp) (by simp) (fun d hd => by
    simp only [List.mem_cons, List.not_mem_nil, or_false] at hd
    rcases hd with rfl | rfl | rfl
    · exact isF_0
    · exact isF_12
    · exact isF_1) _ (fun g => rfl) (fun t es => [.own t es, x1, x2, x3, x4, x5, x6, .no, x8]) (fun t es d => ⟨_, rfl, rfl, rfl, fun es' => rfl, fun es' => rfl⟩)
theorem facsW (x1 x2 x3 x4 x5 x6 x8 : Sl) : ∀ rs : List Rat, (∀ r ∈ rs, Q0 180 r) → ∀ es, Hand es → ∃ (l : List Rat) (es' : List D), (l.length = rs.length ∧ ∀ r ∈ l, QT r) ∧ Hand es' ∧ ∀ t, lcGo (gVar 7) cYes (eV (eCall m__law_mul (aCons (eVar 7) (aCons (eV (eCallI m__law_any 0 (aCons (eV (vLst (aCons (eTup (aCons (eC (.int 1)) (aCons (eC (.int 1)) aNil))) (aCons (eTup (aCons (eC (.int 3)) (aCons (eC (.int 2)) aNil))) aNil)))) aNil))) aNil)))) [7] (rs.map qD) [.own t es, x1, x2, x3, x4, x5, x6, .no, x8] = some (l.map qD, [.own t es', x1, x2, x3, x4, x5, x6, .no, x8]) :=
  facs (Q0 180) (fun r f h h0 hf => h.fac h0 hf) (fun r h => ((h.am (by decide)).b.mono (by decide))) [.tuple [.int 1, .int 1], .tuple [.int 3, .int 2]] (by simp) (by simp) (fun d hd => by
    simp only [List.mem_cons, List.not_mem_nil, or_false] at hd
    rcases hd with rfl | rfl
    · exact isF_1
    · exact isF_32) _ (fun g => rfl) (fun t es => [.own t es, x1, x2, x3, x4, x5, x6, .no, x8]) (fun t es d => ⟨_, rfl, rfl, rfl, fun es' => rfl, fun es' => rfl⟩)
theorem drawn_years_ok {es : List D} (h : Hand es) : ∃ y es', m__law_drawn_years es [] = some (.v (yrD y), es') ∧ LdYr y ∧ Hand es' := by
  obtain ⟨y, c, es1, e1, ⟨hy, hc, _⟩, H1⟩ := fitted_ok h
  obtain ⟨x, es2, e2, x0, x1, H2⟩ := draw_ok H1 (m := 4) (by decide) (by decide)
  have hld := hy.ld
  have h3 := hy.hi
  have hm := hy.bk.hi
  have ty : yrD y = .tuple [bkD y.bk, rowD y.stocks, rowD y.hands, .tuple (y.wants.map rowD)] := rfl
  have ls : y.stocks.length ≤ 3 := by rw [hy.st.1]; exact hm
  have lw : y.wants.length ≤ 3 := by rw [hy.wl]; exact h3
  by_cases k0 : x = 0
  · have c0 : decide (x = 0) = true := decide_eq_true k0
    obtain ⟨l, es3, ⟨l1, l2⟩, H3, k⟩ := facsH y (.v (yrD y)) (.v (bkD y.bk)) (.v (rowD y.stocks)) (.v (rowD y.hands)) (.v (.tuple (y.wants.map rowD))) (.v (.int x)) .no QS (fun r f h a b => h.fac a b) (fun r h => h.am.b.mono (by decide)) y.hands hy.hn es2 H2
    refine ⟨⟨y.bk, y.stocks, l, y.wants⟩, es3, ?_, ⟨hld.bk, hld.st, by rw [l1]; exact hld.lo, by rw [l1]; exact hld.hi, l2, by rw [l1]; exact hld.wl, hld.wn⟩, H3⟩
    unfold m__law_drawn_years
    apply m_iI
    intro a
    have ka := k (some a)
    have hl : (l.map qD).length ≤ 1000000 := by rw [List.length_map]; omega
    apply m_iI3
    · ktf_call "ms"
    · unfold b__law_drawn_years
      ktf_call "ms"
    · rfl
  · have c0 : decide (x = 0) = false := decide_eq_false k0
    by_cases k1 : x = 1
    · have c1 : decide (x = 1) = true := decide_eq_true k1
      obtain ⟨l, es3, ⟨l1, l2⟩, H3, k⟩ := facsH y (.v (yrD y)) (.v (bkD y.bk)) (.v (rowD y.stocks)) (.v (rowD y.hands)) (.v (.tuple (y.wants.map rowD))) (.v (.int x)) .no QS (fun r f h a b => h.fac a b) (fun r h => h.am.b.mono (by decide)) y.stocks hy.st.2 es2 H2
      refine ⟨⟨y.bk, l, y.hands, y.wants⟩, es3, ?_, ⟨hld.bk, ⟨by rw [l1]; exact hld.st.1, l2⟩, hld.lo, hld.hi, hld.hn, hld.wl, hld.wn⟩, H3⟩
      unfold m__law_drawn_years
      apply m_iI
      intro a
      have ka := k (some a)
      have hl : (l.map qD).length ≤ 1000000 := by rw [List.length_map]; omega
      apply m_iI3
      · ktf_call "ms"
      · unfold b__law_drawn_years
        ktf_call "ms"
      · rfl
    · have c1 : decide (x = 1) = false := decide_eq_false k1
      by_cases k2 : x = 2
      · have c2 : decide (x = 2) = true := decide_eq_true k2
        obtain ⟨dl, es3, d1, d2, H3, k⟩ := lcGo_draw (tg := gVar 8) (f := eUn tupD (eV (vLc (iSeq (eVar 8)) (gVar 7) cYes (eV (eCall m__law_mul (aCons (eVar 7) (aCons (eV (eCallI m__law_any 0 (aCons (eV (vLst (aCons (eTup (aCons (eC (.int 1)) (aCons (eC (.int 1)) aNil))) (aCons (eTup (aCons (eC (.int 3)) (aCons (eC (.int 2)) aNil))) aNil)))) aNil))) aNil)))) [7]))) (vs := [8]) rowD (fun d => ∃ l, d = rowD l ∧ (l.length = y.bk.m ∧ ∀ r ∈ l, QT r)) (fun t es => [.own t es, .v (yrD y), .v (bkD y.bk), .v (rowD y.stocks), .v (rowD y.hands), .v (.tuple (y.wants.map rowD)), .v (.int x), .no, .no]) y.wants (fun w hw es h => by
          have hw2 := hy.wn w hw
          obtain ⟨l, es3, ⟨l1, l2⟩, H3, k⟩ := facsW (.v (yrD y)) (.v (bkD y.bk)) (.v (rowD y.stocks)) (.v (rowD y.hands)) (.v (.tuple (y.wants.map rowD))) (.v (.int x)) (.v (rowD w)) w hw2.q es h
          refine ⟨rowD l, es3, ⟨l, rfl, by rw [l1]; exact hw2.len, l2⟩, H3, fun t => ?_⟩
          have ka := k t
          have hwl := hw2.len
          have hl : (l.map qD).length ≤ 1000000 := by rw [List.length_map]; omega
          have tl : tupD (.list (l.map qD)) = some (rowD l) := rfl
          apply ex_lmE <;> ktf_call "ms") es2 H2
        obtain ⟨l, hl2, hQ⟩ := mapOf (f := rowD) (P := fun l : List Rat => l.length = y.bk.m ∧ ∀ r ∈ l, QT r) (ds := dl) fun d hd => d2 d hd
        subst hl2
        have ll : l.length = y.wants.length := by simpa using d1
        refine ⟨⟨y.bk, y.stocks, y.hands, l⟩, es3, ?_, ⟨hld.bk, hld.st, hld.lo, hld.hi, hld.hn, by rw [ll]; exact hld.wl, hQ⟩, H3⟩
        unfold m__law_drawn_years
        apply m_iI
        intro a
        have ka := k (some a)
        have hl : (l.map rowD).length ≤ 1000000 := by rw [List.length_map]; omega
        apply m_iI3
        · ktf_call "ms"
        · unfold b__law_drawn_years
          ktf_call "ms"
        · rfl
      · have c2 : decide (x = 2) = false := decide_eq_false k2
        refine ⟨y, es2, ?_, hld, H2⟩
        unfold m__law_drawn_years
        apply m_iI
        intro a
        apply m_iI3
        · ktf_call "ms"
        · unfold b__law_drawn_years
          ktf_call "ms"
        · rfl
theorem repT_one {k : Nat} (h1 : 1 ≤ k) (h2 : k ≤ 1000) (d : D) : repTD (.tuple [d]) (.int (k : Int)) = some (.tuple (List.replicate k d)) := by
  by_cases h : k = 1
  · subst h
    simp only [repTD]
    rw [if_pos ⟨.inr rfl, by decide, by decide⟩]
    rfl
  · simp only [repTD]
    rw [if_neg (by simp; omega), if_pos ⟨by simp, by omega, by omega, by simp⟩, Int.toNat_natCast]
    congr 2
    clear h1 h2 h
    induction k with
    | zero => rfl
    | succ k ih => rw [List.replicate_succ, List.replicate_succ, List.flatten_cons, ih]; rfl
def isC (d : D) : Prop := ∃ r, d = qD r ∧ QC r
theorem isQ.c {d : D} (h : isQ d) : isC d := by
  obtain ⟨r, e, q⟩ := h
  exact ⟨r, e, q.upC⟩
theorem amounts_draw {α : Type} (enc : α → D) (xs : List α) (x1 x2 x3 x4 x5 x6 x7 : Sl) : ∀ es, Hand es → ∃ (l : List Rat) (es' : List D), (l.length = xs.length ∧ ∀ r ∈ l, QC r) ∧ Hand es' ∧ ∀ t, lcGo (gVar 8) cYes (eV (eCallI m__law_amount 0 aNil)) [8] (xs.map enc) [.own t es, x1, x2, x3, x4, x5, x6, x7, .no] = some (l.map qD, [.own t es', x1, x2, x3, x4, x5, x6, x7, .no]) := fun es h => by
  obtain ⟨dl, es', d1, d2, H, k⟩ := lcGo_draw (tg := gVar 8) (f := eV (eCallI m__law_amount 0 aNil)) (vs := [8]) enc isC (fun t es => [.own t es, x1, x2, x3, x4, x5, x6, x7, .no]) xs (fun r hr es h => by
    obtain ⟨d, es2, e2, hd, H2⟩ := amount_ok h
    refine ⟨d, es2, hd.c, H2, fun t => ?_⟩
    apply ex_lmE <;> ktf_call "ms") es h
  obtain ⟨l, hl2, hQ⟩ := mapOf (f := qD) (P := QC) (ds := dl) fun d hd => d2 d hd
  subst hl2
  exact ⟨l, es', ⟨by simpa using d1, hQ⟩, H, k⟩
theorem rows_draw {y : Yr} (hy : LdYr y) (x2 x4 x5 x6 x7 : Sl) : ∀ es, Hand es → ∃ (c : List (List Rat)) (es' : List D), LdCo y c ∧ Hand es' ∧ ∀ t, lcGo (gVar 3) cYes (eUn tupD (eV (vLc (iSeq (eBin atD (eIxV 1 (eC (.int 0))) (eC (.int 1)))) (gVar 8) cYes (eV (eCallI m__law_amount 0 aNil)) [8]))) [3] (y.hands.map qD) [.own t es, .v (yrD y), x2, .no, x4, x5, x6, x7, .no] = some (c.map rowD, [.own t es', .v (yrD y), x2, .no, x4, x5, x6, x7, .no]) := fun es h => by
  have h4 := hy.bk.l2
  obtain ⟨dl, es', d1, d2, H, k⟩ := lcGo_draw (tg := gVar 3) (f := eUn tupD (eV (vLc (iSeq (eBin atD (eIxV 1 (eC (.int 0))) (eC (.int 1)))) (gVar 8) cYes (eV (eCallI m__law_amount 0 aNil)) [8]))) (vs := [3]) qD (fun d => ∃ p, d = rowD p ∧ (p.length = y.bk.ms.length ∧ ∀ r ∈ p, QC r)) (fun t es => [.own t es, .v (yrD y), x2, .no, x4, x5, x6, x7, .no]) y.hands (fun r hr es h => by
    obtain ⟨l, es2, hl, H2, k⟩ := amounts_draw meD y.bk.ms (.v (yrD y)) x2 (.v (qD r)) x4 x5 x6 x7 es h
    refine ⟨rowD l, es2, ⟨l, rfl, hl⟩, H2, fun t => ?_⟩
    have kt := k t
    have hl1 := hl.1
    have hll : (l.map qD).length ≤ 1000000 := by rw [List.length_map]; omega
    have tl : tupD (.list (l.map qD)) = some (rowD l) := rfl
    have a0 : atD (yrD y) (.int 0) = some (bkD y.bk) := rfl
    have a1 : atD (bkD y.bk) (.int 1) = some (.tuple (y.bk.ms.map meD)) := rfl
    apply ex_lmE <;> ktf_call "ms") es h
  obtain ⟨c, hc2, hQ⟩ := mapOf (f := rowD) (P := fun p : List Rat => p.length = y.bk.ms.length ∧ ∀ r ∈ p, QC r) (ds := dl) fun d hd => d2 d hd
  subst hc2
  exact ⟨c, es', ⟨by simpa using d1, hQ⟩, H, k⟩
theorem other_ok {y : Yr} {c : List (List Rat)} (hy : LdYr y) (hcl : c.length = y.hands.length) (hc : ∀ p ∈ c, QRow y.bk.ms.length 180 p) {es : List D} (h : Hand es) :
    ∃ (cs : List (List (List Rat))) (es' : List D), m__law_other_courses es [yrD y, coD c] = some (.own none (cs.map coD), es') ∧ (∀ c ∈ cs, LdCo y c) ∧ cs.length ≤ 3 ∧ Hand es' := by
  have hlo := hy.lo
  have hhi := hy.hi
  have hm1 := hy.bk.l1
  have hm4 := hy.bk.l2
  obtain ⟨x, es1, e1, x0, x1, H1⟩ := draw_ok h (m := (c.length : Nat)) (by omega) (by omega)
  obtain ⟨x, rfl⟩ := Int.eq_ofNat_of_zero_le x0
  have hx : x < c.length := by omega
  obtain ⟨z, es2, e2, z0, z1, H2⟩ := draw_ok H1 (m := (y.bk.ms.length : Nat)) (by omega) (by omega)
  obtain ⟨z, rfl⟩ := Int.eq_ofNat_of_zero_le z0
  have hz : z < y.bk.ms.length := by omega
  obtain ⟨p, hp⟩ : ∃ p, c[x]? = some p := ⟨c[x], List.getElem?_eq_getElem hx⟩
  have hpq := hc p (List.mem_of_getElem? hp)
  have hpl := hpq.len
  obtain ⟨r, hr⟩ : ∃ r, p[z]? = some r := ⟨p[z]'(by omega), List.getElem?_eq_getElem (by omega)⟩
  have hrq := hpq.q r (List.mem_of_getElem? hr)
  obtain ⟨am, es3, e3, ham, H3⟩ := amount_ok H2
  have b1 : Fq 100 1 (Rat.divInt 1 100) := (fq_div (a := 1) (b := 100) (N := 100) (c := 1) (by decide) (by decide)).mono (by decide)
  have b2 : Fq 10 9 (Rat.divInt 9 10) := (fq_div (a := 9) (b := 10) (N := 10) (c := 1) (by decide) (by decide)).mono (by decide)
  have q1 : QC (r + Rat.divInt 1 100) := ⟨Rat.add_nonneg hrq.p (divInt_nonneg (by decide) (by decide)), ((hrq.q.up 600).add (b1.up 360)).mono (by decide)⟩
  have q2 : QC (r * Rat.divInt 9 10) := ⟨Rat.mul_nonneg hrq.p (divInt_nonneg (by decide) (by decide)), ((hrq.q.mul b2).up 60).mono (by decide)⟩
  have f1 : m__law_add [qD r, .tuple [.int 1, .int 100]] = some (.v (qD (r + Rat.divInt 1 100))) := law_add_ok (s := Rat.divInt 1 100) (((hrq.am (by decide)).b).mono (by decide)) ((b1.b0 (k := 8) (by decide) (by decide) (by decide)).mono (by decide))
  have f2 : m__law_mul [qD r, .tuple [.int 9, .int 10]] = some (.v (qD (r * Rat.divInt 9 10))) := law_mul_ok (s := Rat.divInt 9 10) (((hrq.am (by decide)).b).mono (by decide)) ((b2.b0 (k := 8) (by decide) (by decide) (by decide)).mono (by decide))
  obtain ⟨o, es4, e4, ho, H4⟩ := any_ok (ds := [.tuple [.int 0, .int 1], qD (r + Rat.divInt 1 100), qD (r * Rat.divInt 9 10), am]) H3 (by simp) (by simp)
  have hoc : isC o := by
    simp only [List.mem_cons, List.not_mem_nil, or_false] at ho
    rcases ho with rfl | rfl | rfl | rfl
    · exact isQ_0.c
    · exact ⟨_, rfl, q1⟩
    · exact ⟨_, rfl, q2⟩
    · exact ham.c
  obtain ⟨o, rfl, hoq⟩ := hoc
  obtain ⟨c2, es5, hc2, H5, k5⟩ := rows_draw hy (.v (coD c)) (.v (.int (z : Int))) (.v (rowD p)) (.v (qD o)) (.own none [coD (splA c x (splA p z o))]) es4 H4
  have old : ∀ q ∈ c, q.length = y.bk.ms.length ∧ ∀ r ∈ q, QC r := fun q hq => ⟨(hc q hq).len, fun r hr => ((hc q hq).q r hr).upC⟩
  have np : (splA p z o).length = y.bk.ms.length ∧ ∀ r ∈ splA p z o, QC r := ⟨by rw [splA_len (by omega), hpl], fun r hr => by
    rcases splA_mem hr with rfl | hr
    · exact hoq
    · exact (old p (List.mem_of_getElem? hp)).2 r hr⟩
  have l1 : LdCo y (splA c x (splA p z o)) := ⟨by rw [splA_len hx, hcl], fun q hq => by
    rcases splA_mem hq with rfl | hq
    · exact np
    · exact old q hq⟩
  have l3 : LdCo y (List.replicate y.hands.length (List.replicate y.bk.ms.length 0)) := ⟨by simp, fun q hq => by
    rw [(List.mem_replicate.mp hq).2]
    exact ⟨by simp, fun r hr => by rw [(List.mem_replicate.mp hr).2]; exact ⟨Rat.le_refl, (fq_zero _).mono (by decide)⟩⟩⟩
  refine ⟨[splA c x (splA p z o), c2, List.replicate y.hands.length (List.replicate y.bk.ms.length 0)], es5, ?_, fun q hq => ?_, by simp, H5⟩
  · have ix : atD (coD c) (.int (x : Int)) = some (rowD p) := atD_map hp
    have ir : atD (rowD p) (.int (z : Int)) = some (qD r) := atD_map hr
    obtain ⟨p0, hp0⟩ : ∃ p0, c[0]? = some p0 := ⟨c[0]'(by omega), List.getElem?_eq_getElem (by omega)⟩
    have i0 : atD (coD c) (.int 0) = some (rowD p0) := atD_map (f := rowD) (i := 0) hp0
    have len0 : lenD (rowD p0) = some (.int (y.bk.ms.length : Nat)) := by simp [lenD, rowD, (hc p0 (List.mem_of_getElem? hp0)).len]
    have lenc : lenD (coD c) = some (.int (c.length : Nat)) := by simp [lenD, coD]
    have a0 : atD (yrD y) (.int 0) = some (bkD y.bk) := rfl
    have a1 : atD (bkD y.bk) (.int 1) = some (.tuple (y.bk.ms.map meD)) := rfl
    have a2 : atD (yrD y) (.int 2) = some (rowD y.hands) := rfl
    have s1 : slK (coD c) none (some (x : Int)) = some (.tuple ((cutL c none (some (x : Int))).map rowD)) := slK_t
    have s2 : slK (coD c) (some ((x : Int) + 1)) none = some (.tuple ((cutL c (some ((x : Int) + 1)) none).map rowD)) := slK_t
    have s3 : slK (rowD p) none (some (z : Int)) = some (.tuple ((cutL p none (some (z : Int))).map qD)) := slK_t
    have s4 : slK (rowD p) (some ((z : Int) + 1)) none = some (.tuple ((cutL p (some ((z : Int) + 1)) none).map qD)) := slK_t
    have t1 := cut_len c none (some (x : Int))
    have t2 := cut_len c (some ((x : Int) + 1)) none
    have t3 := cut_len p none (some (z : Int))
    have t4 := cut_len p (some ((z : Int) + 1)) none
    have g1 : addA (.tuple ((cutL p none (some (z : Int))).map qD)) (.tuple [qD o]) = some (.tuple ((cutL p none (some (z : Int))).map qD ++ [qD o])) := addA_cat (by simp; omega)
    have g2 : addA (.tuple ((cutL p none (some (z : Int))).map qD ++ [qD o])) (.tuple ((cutL p (some ((z : Int) + 1)) none).map qD)) = some (rowD (splA p z o)) := by
      rw [addA_cat (by simp; omega), splA_map]; rfl
    have g3 : addA (.tuple ((cutL c none (some (x : Int))).map rowD)) (.tuple [rowD (splA p z o)]) = some (.tuple ((cutL c none (some (x : Int))).map rowD ++ [rowD (splA p z o)])) := addA_cat (by simp; omega)
    have g4 : addA (.tuple ((cutL c none (some (x : Int))).map rowD ++ [rowD (splA p z o)])) (.tuple ((cutL c (some ((x : Int) + 1)) none).map rowD)) = some (coD (splA c x (splA p z o))) := by
      rw [addA_cat (by simp; omega), splA_map]; rfl
    have g5 := repT_one (k := y.bk.ms.length) hm1 (by omega) (.tuple [.int 0, .int 1])
    have hl5 : (c2.map rowD).length ≤ 1000000 := by rw [List.length_map, hc2.len]; omega
    have key : ∃ d es', m__law_other_courses es [yrD y, coD c] = some (.own none d, es') ∧ (d = [splA c x (splA p z o), c2, List.replicate y.hands.length (List.replicate y.bk.ms.length 0)].map coD ∧ es' = es5) := by
      apply ex_io
      · unfold m__law_other_courses
        apply m_iI
        intro a
        have k5' := k5 (some a)
        apply m_iI3
        · ktf_call "ms"
        · unfold b__law_other_courses
          ktf_call "ms"
        · rfl
      · refine ⟨?_, rfl⟩
        simp [coD, rowD, List.map_replicate, q_zero]
        exact List.map_const'
    obtain ⟨d, es', e, rfl, rfl⟩ := key
    exact e
  · simp only [List.mem_cons, List.not_mem_nil, or_false] at hq
    rcases hq with rfl | rfl | rfl
    · exact l1
    · exact hc2
    · exact l3
/-! ### bent things -/
theorem strD_i {i : Int} (h : i.natAbs < 2 ^ 100) : strD (.int i) = some (.str (toString i : String)) := by
  have := log_lt (k := 100) (by decide) h
  simp only [strD]
  rw [if_pos (by omega)]
def junk : List D := [.none, .tuple [], .tuple [.int 0, .int 1], .tuple [.int 1, .int 0], .tuple [.int 2, .int 4], .tuple [.int (-1), .int 2], .str (Str.ofString "0"), .dict [], .int 0, .bool true, .list [.list [.list [.list []]]]]
theorem junk_gs {k c : Nat} (hk : 1 ≤ k) (hc : 2 ≤ c) : ∀ d ∈ junk, gs (k + 2) (7 * c + 1) d = true := fun d hd => by
  have : gs 3 4 d = true := by
    simp only [junk, List.mem_cons, List.not_mem_nil, or_false] at hd
    rcases hd with rfl | rfl | rfl | rfl | rfl | rfl | rfl | rfl | rfl | rfl | rfl <;> decide
  exact gs_mono (by omega) (by omega) d this
theorem bent_ok {k c : Nat} (hk1 : 1 ≤ k) (hk : k ≤ 90) (hc2 : 2 ≤ c) (hc : c ≤ 100) : ∀ (n : Nat) (deep : Nat) (x : D) (es : List D), deep < n → gs k c x = true → Hand es → ∃ d es', mr__law_bent n es [x, .int (deep : Int)] = some (.v d, es') ∧ gs (k + 2) (7 * c + 1) d = true ∧ Hand es'
  | 0, deep, x, es, hn, _, _ => by omega
  | n + 1, deep, x, es, hn, hx, h => by
    have up := gs_mono (k := k) (k' := k + 2) (c := c) (c' := 7 * c + 1) (by omega) (by omega)
    have hg := gs_gd (by omega) x hx
    have e1 := isi_tupJ hg
    have e2 := law_whole_J hg
    have p1 : (2 : Nat) ≤ 2 ^ k := by
      have := Nat.pow_le_pow_right (n := 2) (by decide) hk1
      omega
    have p2 : (2 : Nat) ^ (k + 2) = 4 * 2 ^ k := by rw [Nat.pow_add]; omega
    have p3 : (2 : Nat) ^ k ≤ 2 ^ 90 := Nat.pow_le_pow_right (by decide) hk
    show ∃ d es', fnI (b__law_bent (mr__law_bent n)) 5 es [x, .int (deep : Int)] = some (.v d, es') ∧ _
    cases ht : isTup x with
    | false =>
      rw [ht] at e1
      cases hi : isI x with
      | false =>
        rw [hi] at e2
        obtain ⟨d, es', e, hd, H⟩ := any_ok (ds := junk) h (by simp [junk]) (by simp [junk])
        unfold junk at e
        refine ⟨d, es', ?_, junk_gs hk1 hc2 d hd, H⟩
        apply m_iI
        intro a
        apply m_iI3
        · ktf_call "ms"
        · unfold b__law_bent
          ktf_call "ms"
        · rfl
      | true =>
        rw [hi] at e2
        obtain ⟨i, rfl⟩ := isI_of hi
        have hib : i.natAbs < 2 ^ k := by simpa [gs] using hx
        have hs := strD_i (i := i) (by omega)
        obtain ⟨d, es', e, hd, H⟩ := any_ok (ds := [.int (i + 1), .int (i - 1), .int (0 - i), .int (2 * i), .bool (i != 0), .str (toString i : String), .int 0, .tuple [.int i, .int 1]]) h (by simp) (by simp)
        refine ⟨d, es', ?_, ?_, H⟩
        · apply m_iI
          intro a
          have hb : boolD (.int i) = some (.bool (i != 0)) := rfl
          apply m_iI3
          · ktf_call "ms"
          · unfold b__law_bent
            ktf_call "ms"
          · rfl
        · simp only [List.mem_cons, List.not_mem_nil, or_false] at hd
          rcases hd with rfl | rfl | rfl | rfl | rfl | rfl | rfl | rfl
          · simp only [gs, decide_eq_true_eq]; rw [p2]; omega
          · simp only [gs, decide_eq_true_eq]; rw [p2]; omega
          · simp only [gs, decide_eq_true_eq]; rw [p2]; omega
          · simp only [gs, decide_eq_true_eq]; rw [p2]; omega
          · rfl
          · rfl
          · simp only [gs, decide_eq_true_eq]; rw [p2]; omega
          · refine gs_tup.mpr ⟨by simp; omega, fun d hd => ?_⟩
            simp only [List.mem_cons, List.not_mem_nil, or_false] at hd
            rcases hd with rfl | rfl <;> (simp only [gs, decide_eq_true_eq]; rw [p2]; omega)
    | true =>
      rw [ht] at e1
      obtain ⟨ds, rfl⟩ := isTup_of ht
      have e2' : m__law_is_whole [.tuple ds] = some (.v (.bool false)) := e2
      obtain ⟨hl, hm⟩ := gs_tup.mp hx
      have hlen : lenD (.tuple ds) = some (.int (ds.length : Nat)) := rfl
      have hrev : revD (.tuple ds) = some (.tuple ds.reverse) := rfl
      have hsq : seqD (.tuple ds) = some ds := rfl
      -- the second and the last way
      have rest : ∀ es, Hand es → ∃ d es', gs (k + 2) (7 * c + 1) d = true ∧ Hand es' ∧ ∀ a : Addr, ∃ g', (sSeq (sIf (tAndT (tOf (eUn (isiD "tuple") (eVar 1))) (tOf (eBin eqD (eV (eCallI m__law_draw 0 (aCons (eC (.int 2)) aNil))) (eC (.int 0))))) (sSeq (sSet 3 (eCallI m__law_draw 0 (aCons (eBin addA (eUn lenD (bVar 1)) (eC (.int 1))) aNil)))
    (sSeq (sSet 4 (vLst (aCons (eV (v1 seqD (bVar 1))) (aCons (eBin addA (eSlU (eVar 1) oNone (oSome (eVar 3))) (eSlU (eVar 1) (oSome (eBin addA (eVar 3) (eC (.int 1)))) oNone)) (aCons (eBin addA (eVar 1) (eSlU (eVar 1) oNone (oSome (eC (.int 1))))) (aCons (eBin repTD (eVar 1) (eC (.int 7))) (aCons (eTup aNil) (aCons (eUn revD (eVar 1)) aNil))))))))
    (sRet (eCallI m__law_any 0 (aCons (eVar 4) aNil))))) sNil)
    (sSeq (sIf (tOf (eV (eCall m__law_is_whole (aCons (eVar 1) aNil)))) (sRet (eCallI m__law_any 0 (aCons (eV (vLst (aCons (eBin addA (eVar 1) (eC (.int 1))) (aCons (eBin subD (eVar 1) (eC (.int 1))) (aCons (eBin subD (eC (.int 0)) (eVar 1)) (aCons (eBin mulD (eC (.int 2)) (eVar 1)) (aCons (eUn boolD (bVar 1)) (aCons (eUn strD (bVar 1)) (aCons (eC (.int 0)) (aCons (eTup (aCons (eVar 1) (aCons (eC (.int 1)) aNil))) aNil)))))))))) aNil))) sNil)
    (sRet (eCallI m__law_any 0 (aCons (eV (vLst (aCons (eC .none) (aCons (eTup aNil) (aCons (eTup (aCons (eC (.int 0)) (aCons (eC (.int 1)) aNil))) (aCons (eTup (aCons (eC (.int 1)) (aCons (eC (.int 0)) aNil))) (aCons (eTup (aCons (eC (.int 2)) (aCons (eC (.int 4)) aNil))) (aCons (eTup (aCons (eUn negD (eC (.int 1))) (aCons (eC (.int 2)) aNil))) (aCons (eC (.str (Str.ofString "0"))) (aCons (eC (.dict [])) (aCons (eC (.int 0)) (aCons (eC (.bool true)) (aCons (eV (vLst (aCons (eV (vLst (aCons (eV (vLst (aCons (eV (vLst aNil)) aNil))) aNil))) aNil))) aNil))))))))))))) aNil))))) [.own (some a) es, .v (.tuple ds), .v (.int (deep : Int)), .no, .no] = some (.ret (.v d) g') ∧ g'[0]? = some (.own (some a) es') := fun es h => by
        obtain ⟨y, es1, q1, y0, y1, H1⟩ := draw_ok h (m := 2) (by decide) (by decide)
        by_cases hy : y = 0
        · have cy : decide (y = 0) = true := decide_eq_true hy
          obtain ⟨z, es2, q2, z0, z1, H2⟩ := draw_ok H1 (m := (ds.length : Int) + 1) (by omega) (by omega)
          obtain ⟨l7, r7, n7, m7⟩ := repT7 (ds := ds) (by omega)
          have s1 : slK (.tuple ds) none (some z) = some (.tuple (cutL ds none (some z))) := rfl
          have s2 : slK (.tuple ds) (some (z + 1)) none = some (.tuple (cutL ds (some (z + 1)) none)) := rfl
          have s3 : slK (.tuple ds) none (some 1) = some (.tuple (cutL ds none (some 1))) := rfl
          have t1 := cut_len ds none (some z)
          have t2 := cut_len ds (some (z + 1)) none
          have t3 := cut_len ds none (some 1)
          obtain ⟨d, es', e, hd, H⟩ := any_ok (ds := [.list ds, .tuple (cutL ds none (some z) ++ cutL ds (some (z + 1)) none), .tuple (ds ++ cutL ds none (some 1)), .tuple l7, .tuple [], .tuple ds.reverse]) H2 (by simp) (by simp)
          refine ⟨d, es', ?_, H, fun a => ?_⟩
          · simp only [List.mem_cons, List.not_mem_nil, or_false] at hd
            rcases hd with rfl | rfl | rfl | rfl | rfl | rfl
            · exact gs_lst.mpr ⟨by omega, fun d hd => up d (hm d hd)⟩
            · exact gs_tup.mpr ⟨by simp; omega, fun d hd => by
                rcases List.mem_append.mp hd with hd | hd
                · exact up d (hm d (cut_mem hd))
                · exact up d (hm d (cut_mem hd))⟩
            · exact gs_tup.mpr ⟨by simp; omega, fun d hd => by
                rcases List.mem_append.mp hd with hd | hd
                · exact up d (hm d hd)
                · exact up d (hm d (cut_mem hd))⟩
            · exact gs_tup.mpr ⟨by omega, fun d hd => up d (hm d (m7 d hd))⟩
            · exact gs_tup.mpr ⟨by simp, fun d hd => by simp at hd⟩
            · exact gs_tup.mpr ⟨by simp; omega, fun d hd => up d (hm d (by simpa using hd))⟩
          · apply ex_fnI
            · ktf_call "ms"
            · rfl
        · have cy : decide (y = 0) = false := decide_eq_false hy
          obtain ⟨d, es', e, hd, H⟩ := any_ok (ds := junk) H1 (by simp [junk]) (by simp [junk])
          unfold junk at e
          refine ⟨d, es', junk_gs hk1 hc2 d hd, H, fun a => ?_⟩
          apply ex_fnI
          · ktf_call "ms"
          · rfl
      have fin : ∀ es1 b, Hand es1 → (∀ a : Addr, (tAndT (tOf (eUn (isiD "tuple") (eVar 1))) (tAndT (tOf (eBin gtD (eUn lenD (bVar 1)) (eC (.int 0)))) (tAndT (tOf (eBin gtD (eVar 2) (eC (.int 0)))) (tOf (eBin gtD (eV (eCallI m__law_draw 0 (aCons (eC (.int 6)) aNil))) (eC (.int 0))))))) [.own (some a) es, .v (.tuple ds), .v (.int (deep : Int)), .no, .no] = some (b, [.own (some a) es1, .v (.tuple ds), .v (.int (deep : Int)), .no, .no])) → b = false → ∃ d es', fnI (b__law_bent (mr__law_bent n)) 5 es [.tuple ds, .int (deep : Int)] = some (.v d, es') ∧ gs (k + 2) (7 * c + 1) d = true ∧ Hand es' := fun es1 b h1 hb hb0 => by
        subst hb0
        obtain ⟨d, es', gd, H, kk⟩ := rest es1 h1
        refine ⟨d, es', fnI_ret fun a => ?_, gd, H⟩
        obtain ⟨g', r1, r2⟩ := kk a
        exact ⟨g', by unfold b__law_bent; exact seq_nx (if_f (hb a) rfl) r1, r2⟩
      by_cases h0 : 0 < ds.length
      · have c0 : decide (0 < ((ds.length : Nat) : Int)) = true := decide_eq_true (by omega)
        by_cases hd0 : 0 < deep
        · have c1 : decide (0 < ((deep : Nat) : Int)) = true := decide_eq_true (by omega)
          obtain ⟨v, es1, q1, v0, v1, H1⟩ := draw_ok h (m := 6) (by decide) (by decide)
          by_cases hv : 0 < v
          · have c2 : decide (0 < v) = true := decide_eq_true hv
            obtain ⟨x, es2, q2, x0, x1, H2⟩ := draw_ok H1 (m := (ds.length : Nat)) (by omega) (by omega)
            obtain ⟨x, rfl⟩ := Int.eq_ofNat_of_zero_le x0
            obtain ⟨ch, hch⟩ : ∃ ch, ds[x]? = some ch := ⟨ds[x]'(by omega), List.getElem?_eq_getElem (by omega)⟩
            have hat : atD (.tuple ds) (.int (x : Int)) = some ch := by
              have := atD_map (f := fun d : D => d) hch
              rwa [List.map_id'] at this
            obtain ⟨d, es3, q3, gd3, H3⟩ := bent_ok hk1 hk hc2 hc n (deep - 1) ch es2 (by omega) (hm ch (List.mem_of_getElem? hch)) H2
            have cd : (((deep - 1 : Nat)) : Int) = (deep : Int) - 1 := by omega
            rw [cd] at q3
            have s1 : slK (.tuple ds) none (some (x : Int)) = some (.tuple (cutL ds none (some (x : Int)))) := rfl
            have s2 : slK (.tuple ds) (some ((x : Int) + 1)) none = some (.tuple (cutL ds (some ((x : Int) + 1)) none)) := rfl
            have t1 := cut_len ds none (some (x : Int))
            have t2 := cut_len ds (some ((x : Int) + 1)) none
            refine ⟨.tuple (splA ds x d), es3, ?_, ?_, H3⟩
            · unfold splA
              apply m_iI
              intro a
              apply m_iI3
              · ktf_call "ms"
              · unfold b__law_bent
                ktf_call "ms"
              · rfl
            · have hxl : x < ds.length := by omega
              have hl2 : (splA ds x d).length ≤ 7 * c + 1 := by
                rw [splA_len hxl]
                exact Nat.le_trans hl (by omega)
              refine gs_tup.mpr ⟨hl2, fun y hy => ?_⟩
              rcases splA_mem hy with rfl | hy
              · exact gd3
              · exact up y (hm y hy)
          · have c2 : decide (0 < v) = false := decide_eq_false hv
            exact fin es1 false H1 (fun a => by ktf_call "ms") rfl
        · have c1 : decide (0 < ((deep : Nat) : Int)) = false := decide_eq_false (by omega)
          exact fin es false h (fun a => by ktf_call "ms") rfl
      · have c0 : decide (0 < ((ds.length : Nat) : Int)) = false := decide_eq_false (by omega)
        exact fin es false h (fun a => by ktf_call "ms") rfl
theorem gs_rowB {k c : Nat} {l : List Rat} (h : ∀ r ∈ l, B0 k r) (hl : l.length ≤ c) (hc : 2 ≤ c) : gs k c (rowD l) = true := gs_map hl fun r hr => gs_q (h r hr) hc
theorem gs_me {k m : Nat} (hk : 3 ≤ k) (hm : m ≤ 6) {e : Me} (h : MeOk k m e) : gs k 20 (meD e) = true := by
  have h8 : (2:Nat) ^ 3 ≤ 2 ^ k := Nat.pow_le_pow_right (by decide) hk
  obtain ⟨a, b, w⟩ := h
  refine gs_tup.mpr ⟨by simp, fun d hd => ?_⟩
  simp only [List.mem_cons, List.not_mem_nil, or_false] at hd
  rcases hd with rfl | rfl | rfl
  · exact gs_nat (by omega)
  · exact gs_rowB (fun r hr => (b.am r hr).b) (by rw [b.len]; omega) (by decide)
  · exact gs_q w.b (by decide)
theorem gs_yr {k : Nat} (hk : 3 ≤ k) {y : Yr} (h : YrOk k y) : gs k 20 (yrD y) = true := by
  have h8 : (2:Nat) ^ 3 ≤ 2 ^ k := Nat.pow_le_pow_right (by decide) hk
  have h6 := h.hi
  have hm := h.bk.hi
  have h20 := h.bk.l2
  refine gs_tup.mpr ⟨by simp, fun d hd => ?_⟩
  simp only [List.mem_cons, List.not_mem_nil, or_false] at hd
  rcases hd with rfl | rfl | rfl | rfl
  · refine gs_tup.mpr ⟨by simp, fun d hd => ?_⟩
    simp only [List.mem_cons, List.not_mem_nil, or_false] at hd
    rcases hd with rfl | rfl
    · exact gs_nat (by omega)
    · exact gs_map h20 fun e he => gs_me hk hm (h.bk.ok e he)
  · exact gs_rowB (fun r hr => (h.st.am r hr).b) (by rw [h.st.len]; omega) (by decide)
  · exact gs_rowB (fun r hr => (h.hn.am r hr).b) (by omega) (by decide)
  · exact gs_map (by rw [h.wl]; omega) fun w hw => gs_rowB (fun r hr => ((h.wn w hw).am r hr).b) (by rw [(h.wn w hw).len]; omega) (by decide)
theorem gs_co {k : Nat} {y : Yr} {c : List (List Rat)} (hy : YrOk k y) (h : CoOk k y c) : gs k 20 (coD c) = true := by
  have h20 := hy.bk.l2
  have h6 := hy.hi
  exact gs_map (by rw [h.len]; omega) fun p hp => gs_rowB (fun r hr => ((h.ok p hp).am r hr).b) (by rw [(h.ok p hp).len]; omega) (by decide)
theorem repr_b (b : Bool) : ∃ s, reprD (.bool b) = some (.str s) := ⟨_, (rp_bool b).str (by decide) (by decide)⟩
/-- one bent turn -/
theorem bent_turn {y : Yr} {c : List (List Rat)} (hy : YrOk 22 y) (hc : CoOk 22 y c) (X Y2 T : D) (i : Nat) {es : List D} (h : Hand es) :
    ∃ es', Hand es' ∧ ∃ g1, gVar 7 (.int (i : Int)) [.v X, .own none es, .v T, .v (yrD y), .v (coD c), .v Y2, .no, .no, .no, .no, .no, .no] = some g1 ∧ l_law_3 g1 = some (.nx [.v X, .own none es', .v T, .v (yrD y), .v (coD c), .v Y2, .no, .no, .no, .no, .no, .no]) := by
  obtain ⟨b, es1, e1, g1, H1⟩ := bent_ok (k := 22) (c := 20) (by decide) (by decide) (by decide) (by decide) 8 5 _ es (by decide) (gs_yr (by decide) hy) h
  obtain ⟨w, es2, e2, g2, H2⟩ := bent_ok (k := 22) (c := 20) (by decide) (by decide) (by decide) (by decide) 8 3 _ es1 (by decide) (gs_co hy hc) H1
  have m1 : m__law_bent es [yrD y, .int 5] = some (.v b, es1) := by unfold m__law_bent; exact e1
  have m2 : m__law_bent es1 [coD c, .int 3] = some (.v w, es2) := by unfold m__law_bent; exact e2
  have gb := gs_gd (by decide) b g1
  have gw := gs_gd (by decide) w g2
  have gy := gs_gd (by decide) _ (gs_yr (by decide) hy)
  have f1 := is_years_J gb
  have f2 := law_years_J (by decide) gb
  obtain ⟨s, hs⟩ := repr_b (isYr b)
  have ns := neD_self s
  have nY := neD_self (Str.ofString "years")
  have nL := neD_self (Str.ofString "let")
  have nC := neD_self (Str.ofString "course")
  have f3 := law_course_J (by decide) hy gw
  have wp : (isCo y.hands.length y.bk.ms.length w = true → m__law_word [yrD y, w] = some (wd "let")) ∧ (isCo y.hands.length y.bk.ms.length w = false → m__law_word [yrD y, w] = some (wd "course")) := by
    refine ⟨fun q => ?_, fun q => word_course gy gw rfl hy q⟩
    obtain ⟨c2, rfl, hc2⟩ := isCo_of q gw
    have hy24 : YrOk 24 y := ⟨hy.bk.mono (by decide), hy.st.mono (by decide), hy.lo, hy.hi, hy.hn.mono (by decide), hy.wl, fun w hw => (hy.wn w hw).mono (by decide)⟩
    exact word_let hy24 hc2 (by decide) (gd_yr (by decide) hy24) gw
  unfold wd at wp
  refine ⟨es2, H2, ?_⟩
  cases hb : isYr b with
  | false =>
    rw [hb] at f1 f2 hs
    have w1 := word_years (e := w) gb hb
    unfold wd at w1
    cases hq : isCo y.hands.length y.bk.ms.length w with
    | false =>
      rw [hq] at f3
      have w2 := wp.2 hq
      apply ex_b
      · ktf_call "ms"
      · unfold l_law_3
        ktf_call "ms"
    | true =>
      rw [hq] at f3
      have w2 := wp.1 hq
      apply ex_b
      · ktf_call "ms"
      · unfold l_law_3
        ktf_call "ms"
  | true =>
    rw [hb] at f1 f2 hs
    obtain ⟨y', rfl, hy'⟩ := isYr_of hb gb
    have f4 := law_course_J (by decide) hy' gw
    cases hq' : isCo y'.hands.length y'.bk.ms.length w with
    | false =>
      rw [hq'] at f4
      have w1 := word_course gb gw rfl hy' hq'
      unfold wd at w1
      cases hq : isCo y.hands.length y.bk.ms.length w with
      | false =>
        rw [hq] at f3
        have w2 := wp.2 hq
        apply ex_b
        · ktf_call "ms"
        · unfold l_law_3
          ktf_call "ms"
      | true =>
        rw [hq] at f3
        have w2 := wp.1 hq
        apply ex_b
        · ktf_call "ms"
        · unfold l_law_3
          ktf_call "ms"
    | true =>
      rw [hq'] at f4
      obtain ⟨c2, ec, hc2⟩ := isCo_of hq' gw
      have w1 : m__law_word [yrD y', w] = some (wd "let") := by rw [ec]; rw [ec] at gw; exact word_let hy' hc2 (by decide) gb gw
      unfold wd at w1
      cases hq : isCo y.hands.length y.bk.ms.length w with
      | false =>
        rw [hq] at f3
        have w2 := wp.2 hq
        apply ex_b
        · ktf_call "ms"
        · unfold l_law_3
          ktf_call "ms"
      | true =>
        rw [hq] at f3
        have w2 := wp.1 hq
        apply ex_b
        · ktf_call "ms"
        · unfold l_law_3
          ktf_call "ms"
theorem forGo_const {α : Type} {tg : Fg} {b : Fs} (enc : α → D) (E : Dl.G) : ∀ (xs : List α), (∀ x ∈ xs, ∃ g1, tg (enc x) E = some g1 ∧ b g1 = some (.nx E)) → forGo tg b (xs.map enc) E = some (.nx E)
  | [], _ => rfl
  | x :: xs, H => by
    obtain ⟨g1, h2, h3⟩ := H x (List.mem_cons_self ..)
    have k1 := forGo_const enc E xs fun y hy => H y (List.mem_cons_of_mem _ hy)
    simp [forGo, h2, h3, k1]
theorem turn1 {y : Yr} (hy : LdYr y) (cs : List (List (List Rat))) (hcs : ∀ c ∈ cs, LdCo y c) (X T C Y2 : Sl) (es : List D) :
    forGo (gVar 6) l_law_1 (cs.map coD) [X, .own none es, T, .v (yrD y), C, Y2, .no, .no, .no, .no, .no, .no] = some (.nx [X, .own none es, T, .v (yrD y), C, Y2, .no, .no, .no, .no, .no, .no]) :=
  forGo_const coD _ cs fun c hc => by
    have e := is_led_ok hy (hcs c hc)
    apply ex_b
    · ktf_call "ms"
    · unfold l_law_1
      ktf_call "ms"
theorem turn2 {y : Yr} (hy : LdYr y) (cs : List (List (List Rat))) (hcs : ∀ c ∈ cs, LdCo y c) (X T Y C : Sl) (es : List D) :
    forGo (gVar 6) l_law_2 (cs.map coD) [X, .own none es, T, Y, C, .v (yrD y), .no, .no, .no, .no, .no, .no] = some (.nx [X, .own none es, T, Y, C, .v (yrD y), .no, .no, .no, .no, .no, .no]) :=
  forGo_const coD _ cs fun c hc => by
    have e := is_led_ok hy (hcs c hc)
    apply ex_b
    · ktf_call "ms"
    · unfold l_law_2
      ktf_call "ms"
theorem turns3 {y : Yr} {c : List (List Rat)} (hy : YrOk 22 y) (hc : CoOk 22 y c) (X Y2 T : D) {es : List D} (h : Hand es) :
    ∃ es', Hand es' ∧ forGo (gVar 7) l_law_3 ((List.range 5).map fun (i : Nat) => .int (i : Int)) [.v X, .own none es, .v T, .v (yrD y), .v (coD c), .v Y2, .no, .no, .no, .no, .no, .no] = some (.nx [.v X, .own none es', .v T, .v (yrD y), .v (coD c), .v Y2, .no, .no, .no, .no, .no, .no]) := by
  have key : ∀ (xs : List Nat) (es : List D), Hand es → ∃ es', Hand es' ∧ forGo (gVar 7) l_law_3 (xs.map fun (i : Nat) => .int (i : Int)) [.v X, .own none es, .v T, .v (yrD y), .v (coD c), .v Y2, .no, .no, .no, .no, .no, .no] = some (.nx [.v X, .own none es', .v T, .v (yrD y), .v (coD c), .v Y2, .no, .no, .no, .no, .no, .no]) := by
    intro xs
    induction xs with
    | nil => intro es h; exact ⟨es, h, rfl⟩
    | cons i xs ih =>
      intro es h
      obtain ⟨es1, H1, g1, e1, e2⟩ := bent_turn hy hc X Y2 T i h
      obtain ⟨es2, H2, e3⟩ := ih es1 H1
      exact ⟨es2, H2, by simp only [List.map_cons, forGo, e1, e2, Option.bind_some, e3]⟩
  exact key _ es h
def ones (y : Yr) : List (List Rat) := List.replicate y.hands.length (List.replicate y.bk.ms.length 1)
theorem q_one : qD 1 = .tuple [.int 1, .int 1] := rfl
theorem ones_row (y : Yr) : ∀ p ∈ ones y, QRow y.bk.ms.length 180 p := fun p hp => by
  rw [(List.mem_replicate.mp hp).2]
  refine ⟨by simp, fun r hr => ?_⟩
  rw [(List.mem_replicate.mp hr).2]
  exact q0_div (a := 1) (b := 1) (c := 60) (by decide) (by decide) (by decide) (by decide)
/-- one turn of the law -/
theorem law_turn (X : D) (i : Nat) {es : List D} (h : Hand es) : ∃ es', Hand es' ∧ ∃ g1, gVar 2 (.int (i : Int)) [.v X, .own none es, .no, .no, .no, .no, .no, .no, .no, .no, .no, .no] = some g1 ∧ l_law_4 g1 = some (.nx [.v X, .own none es', .no, .no, .no, .no, .no, .no, .no, .no, .no, .no]) := by
  obtain ⟨y, c, es1, e1, ⟨hy, hc, r, hr⟩, H1⟩ := fitted_ok h
  obtain ⟨y2, es2, e2, hy2, H2⟩ := drawn_years_ok H1
  obtain ⟨cs, es3, e3, hcs, hcl, H3⟩ := other_ok hy.ld hc.len hc.ok H2
  obtain ⟨cs2, es4, e4, hcs2, hcl2, H4⟩ := other_ok hy2 (by simp [ones]) (ones_row y2) H3
  have hok := hy.ld.ok
  have cok := hc.ld.ok40
  have f1 := is_years_J (gd_yr (by decide) hok)
  rw [isYr_yr hok] at f1
  have f2 := course_led_ok hok cok (by decide) (gd_yr (by decide) hok) (gd_co hok cok)
  rw [hr] at f2
  have f2' : m_course_led [yrD y, coD c] = some (.own none (r.map (rowF y.bk.m))) := f2
  have i2 : isiD "list" (.list (r.map (rowF y.bk.m))) = some (.bool true) := isiD_of rfl (by decide +kernel)
  have hy22 : YrOk 22 y := hy.ok
  have hc22 : CoOk 22 y c := hc.ok22
  obtain ⟨es5, H5, e5⟩ := turns3 hy22 hc22 X (yrD y2) (.int (i : Int)) H4
  have t1 := turn1 hy.ld (c :: cs) (fun q hq => by
    rcases List.mem_cons.mp hq with rfl | hq
    · exact hc.ld
    · exact hcs q hq) (.v X) (.v (.int (i : Int))) (.v (coD c)) (.v (yrD y2)) es3
  rw [List.map_cons] at t1
  have t2 := turn2 hy2 cs2 hcs2 (.v X) (.v (.int (i : Int))) (.v (yrD y)) (.v (coD c)) es4
  have hlo := hy2.lo
  have hhi := hy2.hi
  have hm1 := hy2.bk.l1
  have hm4 := hy2.bk.l2
  have r1 := repT_one (k := y2.bk.ms.length) hm1 (by omega) (.tuple [.int 1, .int 1])
  have a0 : atD (yrD y2) (.int 0) = some (bkD y2.bk) := rfl
  have a1 : atD (bkD y2.bk) (.int 1) = some (.tuple (y2.bk.ms.map meD)) := rfl
  have a2 : atD (yrD y2) (.int 2) = some (rowD y2.hands) := rfl
  have a3 : lenD (.tuple (y2.bk.ms.map meD)) = some (.int (y2.bk.ms.length : Nat)) := by simp [lenD]
  have lc := List.length_cons (a := coD c) (as := cs.map coD)
  have o1 : tupD (.list (y2.hands.map fun _ => PyData.tuple (List.replicate y2.bk.ms.length (.tuple [.int 1, .int 1])))) = some (coD (ones y2)) := by
    simp only [tupD, coD, ones, List.map_replicate, rowD, q_one]
    rw [List.map_const']
  refine ⟨es5, H5, ?_⟩
  apply ex_b
  · ktf_call "ms"
  · unfold l_law_4
    ktf_call "ms"
theorem law_good : ∀ ns : List Int, ns.length ≤ 63 → m_law [.list (ns.map .int)] = some (.v (.bool true)) := by
  intro ns hl
  obtain ⟨es, e1, H1⟩ := hand_ok ns (by omega)
  obtain ⟨A, hA⟩ : ∃ A : D, A = .list (ns.map .int) := ⟨_, rfl⟩
  rw [← hA] at e1 ⊢
  have key : ∀ (xs : List Nat) (es : List D), Hand es → ∃ es', Hand es' ∧ forGo (gVar 2) l_law_4 (xs.map fun (i : Nat) => .int (i : Int)) [.v A, .own none es, .no, .no, .no, .no, .no, .no, .no, .no, .no, .no] = some (.nx [.v A, .own none es', .no, .no, .no, .no, .no, .no, .no, .no, .no, .no]) := by
    intro xs
    induction xs with
    | nil => intro es h; exact ⟨es, h, rfl⟩
    | cons i xs ih =>
      intro es h
      obtain ⟨es1, H1, g1, e1, e2⟩ := law_turn A i h
      obtain ⟨es2, H2, e3⟩ := ih es1 H1
      exact ⟨es2, H2, by simp only [List.map_cons, forGo, e1, e2, Option.bind_some, e3]⟩
  obtain ⟨es', H', F⟩ := key (List.range 4) es H1
  have F' : forGo (gVar 2) l_law_4 ((List.range ((4 : Int).toNat)).map fun (i : Nat) => .int (i : Int)) [.v A, .own none es, .no, .no, .no, .no, .no, .no, .no, .no, .no, .no] = some (.nx [.v A, .own none es', .no, .no, .no, .no, .no, .no, .no, .no, .no, .no]) := F
  unfold m_law b_law
  ktf_call "ms"
end K80
set_option Elab.async false
set_option linter.all false
open PySem PySem.W PySem.Calls PyProof.Rows
set_option maxHeartbeats 0 in
theorem PySem.Challenge.cw_makeprice_k80_whole_courses_led_year_by_holds : PySem.Challenge.rw_makeprice_k80_whole_courses_led_year_by.Holds := by
  w_on; o_law
  refine HandSHeadRun.head_any (r := OpenLaw.row PySem.Challenge.rw_makeprice_k80_whole_courses_led_year_by) (q := view (OpenLaw.row PySem.Challenge.rw_makeprice_k80_whole_courses_led_year_by).prog [63]) (H := K80.hk) (ob := K80.hob) (M := 4000) (loose := K80.hloose) (d := HandSHeadRun.topDef (OpenLaw.row PySem.Challenge.rw_makeprice_k80_whole_courses_led_year_by).prog 63) (kwd := []) K80.hob_eq
    (by kernel_rfl) (fun s => by kernel_rfl) K80.hrun (by kernel_rfl) (by kernel_rfl) (by kernel_rfl) (by rfl) (by first | assumption | decide +kernel) (by decide +kernel) ⟨rfl, rfl, rfl, rfl, rfl, by decide +kernel⟩ ?hw ?hc
  case hw => w_witness2
  case hc =>
    refine Dl.walkK (l := PySem.Challenge.rw_makeprice_k80_whole_courses_led_year_by) (n := 63) (k := 11) (x := "script") (m := K80.m_law) rfl (by decide) (by kernel_rfl) ⟨rfl, by decide, by decide⟩ ?G K80.law_good
    intro w mg fa h Y G hmg0
    obtain ⟨K, KX, c⟩ := Y
    have hmg : mg ("law" : PySem.Str) = some (.ref fa) := by
      have e : (HandSHeadRun.topDef (OpenLaw.row PySem.Challenge.rw_makeprice_k80_whole_courses_led_year_by).prog 63).name = ("law" : PySem.Str) := by kernel_rfl
      rw [← e]
      exact hmg0
    obtain ⟨T⟩ := K80.txt_of KX G c
    have e := hmg.symm.trans T.f_law.g
    cases e
    exact ⟨K, T.f_law.fd, KX, fun s u => T.f_law.bA s [u] rfl, fun base _ _ => K80.ok_law T⟩
