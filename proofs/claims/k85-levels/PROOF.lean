import PyProof.Rows.All
import Wide.All
import OpenK.AllK
import Wide.FinOn
import HandS.ForMost
import HandS.Wide
import HandS.Walk
import HandS.IsInst
import HandS.Zip
import HandS.Flow
import HandS.TupAny
import KE.GoesMore
import KE.GoesEnum
import HandS.Defaults
import HandS.More
import HandS.Words
import HandS.Style
import HandS.Rev
import HandS.Deep
import HandS.Head0
import HandS.Head1
import HandS.Head2
import HandS.HeadEnd
import HandS.HeadHook1
import HandS.HeadHook2
import HandS.HeadHook3
import HandS.HeadHook4
import KE.KStateDown
import Lean
import PyProof.ReprLen
import PySem.Challenge.RW_makeprice_k85_whole_levels_or_years_that
set_option Elab.async false
set_option linter.all false
set_option maxRecDepth 100000
/-! Dl: plain data over the hand layer. A def is told by a plain function of data. -/
namespace Dl
open PySem PySem.Spec PyProof.Rows L2

abbrev D := PyData
abbrev Sg := L2.St

/-! ### data stands while the heap grows -/
theorem Same.tupS {K : PySem.W.Frag} {H H' : Hp} {a : Addr} {xs : List V} (e : Same H H') (h : SqT K H a xs) : SqT K H' a xs := by
  rcases h with (h | ⟨o, h⟩) | h
  · exact .inl (.inl (e _ _ h))
  · exact .inl (.inr ⟨o, e _ _ h⟩)
  · exact .inr h

mutual
theorem dpMono {K : PySem.W.Frag} {H H' : Hp} (e : Same H H') : ∀ (d : D) (v : V), Dp K H v d → Dp K H' v d
  | .none, _, h => by cases h; exact .non
  | .bool b, _, h => by cases h; exact .bl b
  | .int i, _, h => by cases h; exact .int i
  | .str x, _, h => by cases h; exact .str x
  | .list ds, _, h => by
    cases h with
    | lst hs ha => exact .lst (e.seq hs) (dpMonos e ds _ ha)
  | .tuple ds, _, h => by
    cases h with
    | tup hs ha => exact .tup (Same.tupS e hs) (dpMonos e ds _ ha)
  | .dict _, _, h => by cases h
theorem dpMonos {K : PySem.W.Frag} {H H' : Hp} (e : Same H H') : ∀ (ds : List D) (vs : List V), DpAll K H vs ds → DpAll K H' vs ds
  | [], _, h => by cases h; exact .nil
  | d :: ds, _, h => by
    cases h with
    | cons h1 h2 => exact .cons (dpMono e d _ h1) (dpMonos e ds _ h2)
end

theorem dpLen {K : PySem.W.Frag} {H : Hp} : ∀ {vs : List V} {ds : List D}, DpAll K H vs ds → vs.length = ds.length
  | _, [], h => by cases h; rfl
  | _, d :: ds, h => by
    cases h with
    | cons _ h2 => simp [dpLen h2]
theorem dpAt {K : PySem.W.Frag} {H : Hp} : ∀ {vs : List V} {ds : List D} {i : Nat} {d : D}, DpAll K H vs ds → ds[i]? = some d → ∃ v, vs[i]? = some v ∧ Dp K H v d
  | _, [], _, _, _, e => by simp at e
  | _, d :: ds, 0, d', h, e => by
    cases h with
    | cons h1 h2 => simp at e; subst e; exact ⟨_, rfl, h1⟩
  | _, d :: ds, i + 1, d', h, e => by
    cases h with
    | cons h1 h2 =>
      obtain ⟨v, q, r⟩ := dpAt h2 (i := i) (by simpa using e)
      exact ⟨v, by simpa using q, r⟩
theorem dpAtV {K : PySem.W.Frag} {H : Hp} : ∀ {vs : List V} {ds : List D} {i : Nat} {v : V}, DpAll K H vs ds → vs[i]? = some v → ∃ d, ds[i]? = some d ∧ Dp K H v d
  | _, [], _, _, h, e => by cases h; simp at e
  | _, d :: ds, 0, d', h, e => by
    cases h with
    | cons h1 h2 => simp at e; subst e; exact ⟨_, rfl, h1⟩
  | _, d :: ds, i + 1, d', h, e => by
    cases h with
    | cons h1 h2 =>
      obtain ⟨v, q, r⟩ := dpAtV h2 (i := i) (by simpa using e)
      exact ⟨v, by simpa using q, r⟩
theorem dpApp {K : PySem.W.Frag} {H : Hp} : ∀ {vs ws : List V} {ds es : List D}, DpAll K H vs ds → DpAll K H ws es → DpAll K H (vs ++ ws) (ds ++ es)
  | _, _, [], _, h, g => by cases h; exact g
  | _, _, d :: ds, _, h, g => by
    cases h with
    | cons h1 h2 => exact .cons h1 (dpApp h2 g)
theorem dpTake {K : PySem.W.Frag} {H : Hp} : ∀ (n : Nat) {vs : List V} {ds : List D}, DpAll K H vs ds → DpAll K H (vs.take n) (ds.take n)
  | 0, _, _, _ => .nil
  | n + 1, _, [], h => by cases h; exact .nil
  | n + 1, _, d :: ds, h => by
    cases h with
    | cons h1 h2 => exact .cons h1 (dpTake n h2)
theorem dpDrop {K : PySem.W.Frag} {H : Hp} : ∀ (n : Nat) {vs : List V} {ds : List D}, DpAll K H vs ds → DpAll K H (vs.drop n) (ds.drop n)
  | 0, _, _, h => h
  | n + 1, _, [], h => by cases h; exact .nil
  | n + 1, _, d :: ds, h => by
    cases h with
    | cons h1 h2 => exact dpDrop n h2
theorem dpSet {K : PySem.W.Frag} {H : Hp} {v : V} {d : D} (hd : Dp K H v d) : ∀ (n : Nat) {vs : List V} {ds : List D}, DpAll K H vs ds → DpAll K H (vs.set n v) (ds.set n d)
  | _, _, [], h => by cases h; exact .nil
  | 0, _, d :: ds, h => by
    cases h with
    | cons h1 h2 => exact .cons hd h2
  | n + 1, _, d :: ds, h => by
    cases h with
    | cons h1 h2 => exact .cons h1 (dpSet hd n h2)

/-! ### slots -/
/-- what a slot holds: nothing, data that stays, a list that this frame alone may change -/
inductive Sl where
  | no | v (d : D) | own (t : Option Addr) (ds : List D)
abbrev G := List Sl

def RepS (K : PySem.W.Frag) (F H : Hp) : Sl → Option V → Prop
  | .no, _ => True
  | .v d, o => ∃ x, o = some x ∧ Dp K F x d
  | .own t ds, o => ∃ a xs, o = some (.ref a) ∧ F a = none ∧ H a = some (.lst xs) ∧ DpAll K F xs ds ∧ ∀ b, t = some b → b = a

/-- the address of a list of the frame's own -/
def OwnAt (g : G) (s : Sg) (a : Addr) : Prop := ∃ (i : Nat) (t : Option Addr) (ds : List D), g[i]? = some (.own t ds) ∧ s[i]? = some (some (.ref a))

structure Rep (K : PySem.W.Frag) (F : Hp) (g : G) (s : Sg) (H : Hp) : Prop where
  fh : Same F H
  len : g.length = s.length
  sl : ∀ (i : Nat) (x : Sl) (o : Option V), g[i]? = some x → s[i]? = some o → RepS K F H x o
  uq : ∀ (i j : Nat) (a : Addr) (t u : Option Addr) (ds es : List D), g[i]? = some (.own t ds) → g[j]? = some (.own u es) → s[i]? = some (some (.ref a)) → s[j]? = some (some (.ref a)) → i = j

/-- from one heap to a later one: what is frozen stays, all but the addresses O stays -/
structure Stp (O : Addr → Prop) (F H F' H' : Hp) : Prop where
  fs : Same F F'
  keep : ∀ b o, H b = some o → ¬ O b → H' b = some o
  fresh : ∀ b, F b = none → F' b ≠ none → H b = none ∨ O b
  dom : ∀ b, H b ≠ none → H' b ≠ none

abbrev Non : Addr → Prop := fun _ => False

theorem Stp.refl {O : Addr → Prop} {F H : Hp} : Stp O F H F H := ⟨.refl _, fun _ _ h _ => h, fun _ h h' => absurd h h', fun _ h => h⟩
theorem Stp.weak {O O' : Addr → Prop} {F H F' H' : Hp} (s : Stp O F H F' H') (h : ∀ b, O b → O' b) : Stp O' F H F' H' :=
  ⟨s.fs, fun b o e n => s.keep b o e fun z => n (h b z), fun b e e' => (s.fresh b e e').imp id (h b), s.dom⟩
theorem Stp.trans {O O1 : Addr → Prop} {F H F1 H1 F2 H2 : Hp} (s : Stp O F H F1 H1) (t : Stp O1 F1 H1 F2 H2) (h : ∀ b, O1 b → O b ∨ H b = none) : Stp O F H F2 H2 where
  fs := s.fs.trans t.fs
  keep := fun b o e n => t.keep b o (s.keep b o e n) fun z => by
    rcases h b z with q | q
    · exact n q
    · rw [q] at e; cases e
  fresh := fun b e e' => by
    by_cases q : F1 b = none
    · rcases t.fresh b q e' with z | z
      · left
        cases hb : H b with
        | none => rfl
        | some o => exact absurd z (s.dom b (by rw [hb]; simp))
      · exact (h b z).symm.imp id id
    · exact s.fresh b e q
  dom := fun b e => t.dom b (s.dom b e)

/-- a new object, frozen at once -/
theorem Stp.laid {O : Addr → Prop} {F H : Hp} {p : Addr} {o : HO} (np : H p = none) (fh : Same F H) : Stp O F H (upd F p o) (upd H p o) := by
  have fp : F p = none := by
    cases e : F p with
    | none => rfl
    | some u => rw [fh _ _ e] at np; cases np
  refine ⟨fun b u e => ?_, fun b u e _ => ?_, fun b e e' => ?_, fun b e => ?_⟩
  · rw [upd_ne (ne_of_none e fp)]; exact e
  · rw [upd_ne (ne_of_none e np)]; exact e
  · by_cases z : b = p
    · left; rw [z]; exact np
    · rw [upd_ne z] at e'; exact absurd e e'
  · by_cases z : b = p
    · rw [z] at e; exact absurd np e
    · rw [upd_ne z]; exact e
/-- a new object, not frozen -/
theorem Stp.made {O : Addr → Prop} {F H : Hp} {p : Addr} {o : HO} (np : H p = none) : Stp O F H F (upd H p o) := by
  refine ⟨.refl _, fun b u e _ => ?_, fun b e e' => absurd e e', fun b e => ?_⟩
  · rw [upd_ne (ne_of_none e np)]; exact e
  · by_cases z : b = p
    · rw [z] at e; exact absurd np e
    · rw [upd_ne z]; exact e
theorem sameLaid {F H : Hp} {p : Addr} {o : HO} (fh : Same F H) (np : H p = none) : Same (upd F p o) (upd H p o) := fun b u e => by
  by_cases z : b = p
  · subst z; rw [upd_same] at e ⊢; exact e
  · rw [upd_ne z] at e ⊢; exact fh b u e
theorem sameMade {F H : Hp} {p : Addr} {o : HO} (fh : Same F H) (np : H p = none) : Same F (upd H p o) := fun b u e => by
  have h := fh b u e
  rw [upd_ne (ne_of_none h np)]; exact h

/-- slots behind a step that touches none of the frame's lists -/
theorem Rep.step {K : PySem.W.Frag} {F F' H H' : Hp} {g : G} {s : Sg} {O : Addr → Prop} (r : Rep K F g s H) (t : Stp O F H F' H') (hO : ∀ b, OwnAt g s b → ¬ O b) (fh : Same F' H') : Rep K F' g s H' := by
  refine ⟨fh, r.len, fun i x o hx ho => ?_, r.uq⟩
  have q := r.sl i x o hx ho
  cases x with
  | no => trivial
  | v d =>
    obtain ⟨y, e, h⟩ := q
    exact ⟨y, e, dpMono t.fs _ _ h⟩
  | own tg ds =>
    obtain ⟨a, xs, e, fa, ha, h, ht⟩ := q
    have ow : OwnAt g s a := ⟨i, tg, ds, hx, by rw [ho, e]⟩
    refine ⟨a, xs, e, ?_, t.keep a _ ha (hO a ow), dpMonos t.fs _ _ h, ht⟩
    cases z : F' a with
    | none => rfl
    | some u =>
      rcases t.fresh a fa (by rw [z]; simp) with q | q
      · rw [q] at ha; cases ha
      · exact absurd q (hO a ow)
theorem Rep.stepN {K : PySem.W.Frag} {F F' H H' : Hp} {g : G} {s : Sg} (r : Rep K F g s H) (t : Stp Non F H F' H') (fh : Same F' H') : Rep K F' g s H' := r.step t (fun _ _ z => z) fh

/-- the frame's lists grow no more -/
def Mo (g g' : G) : Prop := ∀ (i : Nat) (t : Option Addr) (ds : List D), g'[i]? = some (.own t ds) → ∃ es, g[i]? = some (.own t es)
theorem Mo.refl {g : G} : Mo g g := fun _ _ ds h => ⟨ds, h⟩
theorem Mo.trans {a b c : G} (x : Mo a b) (y : Mo b c) : Mo a c := fun i t ds h => let ⟨es, e⟩ := y i t ds h; x i t es e
theorem Mo.own {g g' : G} {s : Sg} {a : Addr} (m : Mo g g') (h : OwnAt g' s a) : OwnAt g s a := by
  obtain ⟨i, t, ds, e, q⟩ := h
  obtain ⟨es, z⟩ := m i t ds e
  exact ⟨i, t, es, z, q⟩

theorem Rep.get {K : PySem.W.Frag} {F H : Hp} {g : G} {s : Sg} (r : Rep K F g s H) {i : Nat} {x : Sl} (h : g[i]? = some x) : ∃ o, s[i]? = some o ∧ RepS K F H x o := by
  have hi : i < s.length := by rw [← r.len]; exact (List.getElem?_eq_some_iff.mp h).1
  exact ⟨s[i], List.getElem?_eq_getElem hi, r.sl i x _ h (List.getElem?_eq_getElem hi)⟩

theorem ownIn {g : G} {s : Sg} {a : Addr} {i : Nat} {x : Sl} {o : Option V} (h : OwnAt (g.set i x) (s.set i o) a) (hl : g.length = s.length) : OwnAt g s a ∨ (∃ t ds, x = .own t ds ∧ o = some (.ref a)) := by
  obtain ⟨j, t, ds, e, q⟩ := h
  by_cases z : i = j
  · subst z
    have hi : i < g.length := by
      have := (List.getElem?_eq_some_iff.mp e).1
      simpa using this
    rw [List.getElem?_set_self hi] at e
    rw [List.getElem?_set_self (by omega)] at q
    right
    cases e; cases q
    exact ⟨t, ds, rfl, rfl⟩
  · rw [List.getElem?_set_ne z] at e q
    exact .inl ⟨j, t, ds, e, q⟩
/-- a slot is written -/
theorem Rep.put {K : PySem.W.Frag} {F H : Hp} {g : G} {s : Sg} (r : Rep K F g s H) (i : Nat) (x : Sl) (o : Option V) (h : RepS K F H x o) (hn : ∀ t ds a, x = .own t ds → o = some (.ref a) → ¬ OwnAt g s a) : Rep K F (g.set i x) (s.set i o) H := by
  refine ⟨r.fh, by simp [r.len], fun j y o' hy ho => ?_, fun j k a t u ds es h1 h2 h3 h4 => ?_⟩
  · by_cases z : i = j
    · subst z
      have hi : i < g.length := by
        have := (List.getElem?_eq_some_iff.mp hy).1
        simpa using this
      rw [List.getElem?_set_self hi] at hy
      rw [List.getElem?_set_self (by rw [← r.len]; exact hi)] at ho
      cases hy; cases ho; exact h
    · rw [List.getElem?_set_ne z] at hy ho
      exact r.sl j y o' hy ho
  · by_cases z1 : i = j
    · by_cases z2 : i = k
      · exact z1.symm.trans z2
      · subst z1
        have hi : i < g.length := by
          have := (List.getElem?_eq_some_iff.mp h1).1
          simpa using this
        rw [List.getElem?_set_self hi] at h1
        rw [List.getElem?_set_self (by rw [← r.len]; exact hi)] at h3
        rw [List.getElem?_set_ne z2] at h2 h4
        cases h1; cases h3
        exact absurd ⟨k, u, es, h2, h4⟩ (hn t ds a rfl rfl)
    · by_cases z2 : i = k
      · subst z2
        have hi : i < g.length := by
          have := (List.getElem?_eq_some_iff.mp h2).1
          simpa using this
        rw [List.getElem?_set_self hi] at h2
        rw [List.getElem?_set_self (by rw [← r.len]; exact hi)] at h4
        rw [List.getElem?_set_ne z1] at h1 h3
        cases h2; cases h4
        exact absurd ⟨j, t, ds, h1, h3⟩ (hn u es a rfl rfl)
      · rw [List.getElem?_set_ne z1] at h1 h3
        rw [List.getElem?_set_ne z2] at h2 h4
        exact r.uq j k a t u ds es h1 h2 h3 h4
end Dl
set_option Elab.async false
set_option linter.all false
set_option maxRecDepth 100000
namespace Dl
open PySem PySem.Spec PyProof.Rows L2

theorem Stp.two {F H F1 H1 F2 H2 : Hp} {g g1 : G} {s : Sg} (t1 : Stp (OwnAt g s) F H F1 H1) (m : Mo g g1) (t2 : Stp (OwnAt g1 s) F1 H1 F2 H2) : Stp (OwnAt g s) F H F2 H2 := t1.trans t2 fun _ h => .inl (m.own h)
theorem Stp.andN {O : Addr → Prop} {F H F1 H1 F2 H2 : Hp} (t1 : Stp O F H F1 H1) (t2 : Stp Non F1 H1 F2 H2) : Stp O F H F2 H2 := t1.trans t2 fun _ h => h.elim

theorem peMono {X : Cx} {e : Expr} {t t' : TE} (h : PE X e t) (m : ∀ s H Q, t' s H Q → t s H Q) : PE X e t' := ⟨fun pins st s H Q I w => h.run pins st s H Q I (m s H Q w)⟩
theorem ptMono {X : Cx} {e : Expr} {t t' : TT} (h : PT X e t) (m : ∀ s H Q, t' s H Q → t s H Q) : PT X e t' := ⟨fun pins st s H Q I w => h.run pins st s H Q I (m s H Q w)⟩
theorem paMono {X : Cx} {e : List Expr} {t t' : TA} (h : PA X e t) (m : ∀ s H Q, t' s H Q → t s H Q) : PA X e t' := ⟨fun pos pins st s H Q I w => h.run pos pins st s H Q I (m s H Q w)⟩
theorem psMono {X : Cx} {e : Stmt} {t t' : TS} (h : PS X e t) (m : ∀ D s H, t' D s H → t D s H) : PS X e t' := ⟨fun pins st s H D I w => h.run pins st s H D I (m D s H w)⟩
theorem pssMono {X : Cx} {e : List Stmt} {t t' : TS} (h : PSs X e t) (m : ∀ D s H, t' D s H → t D s H) : PSs X e t' := ⟨fun pins st s H D I w => h.run pins st s H D I (m D s H w)⟩
theorem pwMono {X : Cx} {e : Expr} {t t' : TT} (h : PW X e t) (m : ∀ s H Q, t' s H Q → t s H Q) : PW X e t' := ⟨fun wh pins st s H Q I w => h.run wh pins st s H Q I (m s H Q w)⟩

/-! ### the judgements by data -/
abbrev Fe := G → Option (D × G)
abbrev Fv := G → Option (Sl × G)
abbrev Ft := G → Option (Bool × G)
abbrev Fa := G → Option (List D × G)

def tD (K : PySem.W.Frag) (f : Fe) : TE := fun s H Q => ∃ F g d g', Rep K F g s H ∧ f g = some (d, g') ∧
  ∀ v F' H', Dp K F' v d → Rep K F' g' s H' → Stp (OwnAt g s) F H F' H' → Mo g g' → Q v H'
/-- data to be read at once: frozen, or a list of the frame's own -/
def BD (K : PySem.W.Frag) (F H : Hp) (v : V) (d : D) : Prop := Dp K F v d ∨ ∃ ds a xs, d = .list ds ∧ v = .ref a ∧ H a = some (.lst xs) ∧ DpAll K F xs ds
theorem BD.dp {K : PySem.W.Frag} {F H : Hp} {v : V} {d : D} (h : BD K F H v d) (fh : Same F H) : Dp K H v d := by
  rcases h with h | ⟨ds, a, xs, rfl, rfl, ha, hp⟩
  · exact dpMono fh _ _ h
  · exact .lst (SqL.of ha) (dpMonos fh _ _ hp)
def tB (K : PySem.W.Frag) (f : Fe) : TE := fun s H Q => ∃ F g d g', Rep K F g s H ∧ f g = some (d, g') ∧
  ∀ v F' H', BD K F' H' v d → Rep K F' g' s H' → Stp (OwnAt g s) F H F' H' → Mo g g' → Q v H'
def tV (K : PySem.W.Frag) (f : Fv) : TE := fun s H Q => ∃ F g x g', Rep K F g s H ∧ f g = some (x, g') ∧
  ∀ v F' H', RepS K F' H' x (some v) → (∀ t ds, x = .own t ds → t = none ∧ ∃ a, v = .ref a ∧ H a = none) → Rep K F' g' s H' → Stp (OwnAt g s) F H F' H' → Mo g g' → Q v H'
def tT (K : PySem.W.Frag) (f : Ft) : TT := fun s H Q => ∃ F g b g', Rep K F g s H ∧ f g = some (b, g') ∧
  ∀ F' H', Rep K F' g' s H' → Stp (OwnAt g s) F H F' H' → Mo g g' → Q b H'
def tA (K : PySem.W.Frag) (f : Fa) : TA := fun s H Q => ∃ F g ds g', Rep K F g s H ∧ f g = some (ds, g') ∧
  ∀ vs F' H', DpAll K F' vs ds → Rep K F' g' s H' → Stp (OwnAt g s) F H F' H' → Mo g g' → Q vs H'
def DE (X : Cx) (e : Expr) (f : Fe) : Prop := PE X e (tD X.K f)
def DB (X : Cx) (e : Expr) (f : Fe) : Prop := PE X e (tB X.K f)
def DV (X : Cx) (e : Expr) (f : Fv) : Prop := PE X e (tV X.K f)
def DT (X : Cx) (e : Expr) (f : Ft) : Prop := PT X e (tT X.K f)
def DW (X : Cx) (e : Expr) (f : Ft) : Prop := PW X e (tT X.K f)
def DA (X : Cx) (es : List Expr) (f : Fa) : Prop := PA X es (tA X.K f)

variable {X : Cx}

/-! ### constants, names -/
def eC (d : D) : Fe := fun g => some (d, g)
theorem de_const {e : Expr} {v : V} {d : D} (h : PE X e (tC v)) (hd : ∀ F, Dp X.K F v d) : DE X e (eC d) := peMono h fun s H Q ⟨F, g, d', g', r, e1, k⟩ => by
  cases e1
  exact k v F H (hd F) r Stp.refl Mo.refl
theorem de_int {i j pos} : DE X (.Constant (.int i) j pos) (eC (.int i)) := de_const pe_int fun _ => .int i
theorem de_str {i j pos} : DE X (.Constant (.str i) j pos) (eC (.str i)) := de_const pe_str fun _ => .str i
theorem de_bl {i j pos} : DE X (.Constant (.bool i) j pos) (eC (.bool i)) := de_const pe_bl fun _ => .bl i
theorem de_non {j pos} : DE X (.Constant .none j pos) (eC .none) := de_const pe_non fun _ => .non
/-- a constant of the module -/
theorem de_glob {x : Str} {v : V} {u : Value} {d : D} {pos : Pos} (hg : Gl X x) (hm : X.mg x = some u) (r : RelV v u) (hd : ∀ F, Dp X.K F v d) (hdb : (x == ("__debug__" : Str)) = false := by decide) : DE X (.Name x pos) (eC d) := de_const (pe_glob hg hm r hdb) hd

def eVar (i : Nat) : Fe := fun g => match g[i]? with
  | some (.v d) => some (d, g)
  | some (.own none ds) => some (.list ds, g.set i (.v (.list ds)))
  | _ => none
/-- read without being frozen -/
def bVar (i : Nat) : Fe := fun g => match g[i]? with
  | some (.v d) => some (d, g)
  | some (.own _ ds) => some (.list ds, g)
  | _ => none

theorem setSelf {s : Sg} {i : Nat} {o : Option V} (h : s[i]? = some o) : s.set i o = s := by
  apply List.ext_getElem?
  intro j
  by_cases z : i = j
  · subst z
    rw [List.getElem?_set_self (List.getElem?_eq_some_iff.mp h).1, h]
  · rw [List.getElem?_set_ne z]

/-- a list of the frame's own is frozen where it stands -/
theorem Rep.freeze {K : PySem.W.Frag} {F H : Hp} {g : G} {s : Sg} (r : Rep K F g s H) {i : Nat} {t : Option Addr} {ds : List D} (h : g[i]? = some (.own t ds)) :
    ∃ a F', s[i]? = some (some (.ref a)) ∧ Dp K F' (.ref a) (.list ds) ∧ Rep K F' (g.set i (.v (.list ds))) s H ∧ Stp (OwnAt g s) F H F' H ∧ Mo g (g.set i (.v (.list ds))) := by
  obtain ⟨o, ho, a, xs, eo, fa, ha, hp, ht⟩ := r.get h
  subst eo
  have hi : i < g.length := (List.getElem?_eq_some_iff.mp h).1
  have sf : Same F (upd F a (.lst xs)) := fun b u e => by rw [upd_ne (ne_of_none e fa)]; exact e
  have fh : Same (upd F a (.lst xs)) H := fun b u e => by
    by_cases z : b = a
    · subst z; rw [upd_same] at e; cases e; exact ha
    · rw [upd_ne z] at e; exact r.fh b u e
  have t1 : Stp (fun b => b = a) F H (upd F a (.lst xs)) H := ⟨sf, fun b o e _ => e, fun b e e' => by
    by_cases z : b = a
    · exact .inr z
    · rw [upd_ne z] at e'; exact absurd e e', fun b e => e⟩
  have r0 : Rep K F (g.set i .no) s H := by
    have := r.put i .no (some (.ref a)) trivial (fun _ _ _ e => nomatch e)
    rwa [setSelf ho] at this
  have r1 : Rep K (upd F a (.lst xs)) (g.set i .no) s H := by
    refine r0.step t1 (fun b hb z => ?_) fh
    subst z
    obtain ⟨j, tg, es, e1, e2⟩ := hb
    by_cases z : i = j
    · subst z; rw [List.getElem?_set_self hi] at e1; cases e1
    · rw [List.getElem?_set_ne z] at e1
      exact z (r.uq i j b t tg ds es h e1 ho e2)
  have dp : Dp K (upd F a (.lst xs)) (.ref a) (.list ds) := .lst (SqL.of upd_same) (dpMonos sf _ _ hp)
  have r2 : Rep K (upd F a (.lst xs)) (g.set i (.v (.list ds))) s H := by
    have := r1.put i (.v (.list ds)) (some (.ref a)) ⟨_, rfl, dp⟩ (fun _ _ _ e => nomatch e)
    rwa [setSelf ho, List.set_set] at this
  refine ⟨a, _, ho, dp, r2, t1.weak fun b z => by subst z; exact ⟨i, t, ds, h, ho⟩, fun j tg es e => ?_⟩
  by_cases z : i = j
  · subst z; rw [List.getElem?_set_self hi] at e; cases e
  · rw [List.getElem?_set_ne z] at e; exact ⟨es, e⟩

theorem de_var (i : Nat) {x : Str} {pos : Pos} (hN : X.N[i]? = some x := by rfl) (hv : Vis X.env.scope x := by first | exact Or.inl rfl | exact Or.inr (Or.inl rfl) | exact Or.inr (Or.inr rfl)) (hd : (x == ("__debug__" : Str)) = false := by decide)
    (hcd : (x == ("__classdict__" : Str)) = false := by decide) : DE X (.Name x pos) (eVar i) := peMono (pe_var hN hv hd hcd) fun s H Q ⟨F, g, d, g', r, e, k⟩ => by
  unfold eVar at e
  split at e
  · rename_i d0 hg
    cases e
    obtain ⟨o, ho, v, rfl, hp⟩ := r.get hg
    exact ⟨v, ho, k v F H hp r Stp.refl Mo.refl⟩
  · rename_i ds hg
    cases e
    obtain ⟨a, F', ho, dp, r2, st, mo⟩ := r.freeze hg
    exact ⟨_, ho, k _ F' H dp r2 st mo⟩
  · cases e
theorem db_var (i : Nat) {x : Str} {pos : Pos} (hN : X.N[i]? = some x := by rfl) (hv : Vis X.env.scope x := by first | exact Or.inl rfl | exact Or.inr (Or.inl rfl) | exact Or.inr (Or.inr rfl)) (hd : (x == ("__debug__" : Str)) = false := by decide)
    (hcd : (x == ("__classdict__" : Str)) = false := by decide) : DB X (.Name x pos) (bVar i) := peMono (pe_var hN hv hd hcd) fun s H Q ⟨F, g, d, g', r, e, k⟩ => by
  unfold bVar at e
  split at e
  · rename_i d0 hg
    cases e
    obtain ⟨o, ho, v, rfl, hp⟩ := r.get hg
    exact ⟨v, ho, k v F H (.inl hp) r Stp.refl Mo.refl⟩
  · rename_i t ds hg
    cases e
    obtain ⟨o, ho, a, xs, rfl, fa, ha, hp, ht⟩ := r.get hg
    exact ⟨_, ho, k _ F H (.inr ⟨ds, a, xs, rfl, rfl, ha, hp⟩) r Stp.refl Mo.refl⟩
  · cases e
theorem db_de {e : Expr} {f : Fe} (h : DE X e f) : DB X e f := peMono h fun s H Q ⟨F, g, d, g', r, e1, k⟩ =>
  ⟨F, g, d, g', r, e1, fun v F' H' p r' t m => k v F' H' (.inl p) r' t m⟩
/-- a value that is no list of the frame's own -/
def vE (f : Fe) : Fv := fun g => (f g).map fun p => (.v p.1, p.2)
theorem dv_de {e : Expr} {f : Fe} (h : DE X e f) : DV X e (vE f) := peMono h fun s H Q ⟨F, g, x, g', r, e1, k⟩ => by
  unfold vE at e1
  cases q : f g with
  | none => rw [q] at e1; cases e1
  | some p =>
    rw [q] at e1; cases e1
    exact ⟨F, g, p.1, p.2, r, q, fun v F' H' hp r' t m => k v F' H' ⟨v, rfl, hp⟩ (fun _ _ z => nomatch z) r' t m⟩
/-- frozen -/
def dat : Sl → Option D
  | .v d => some d
  | .own _ ds => some (.list ds)
  | .no => none
def eV (f : Fv) : Fe := fun g => (f g).bind fun p => (dat p.1).map fun d => (d, p.2)
theorem freezeNew {K : PySem.W.Frag} {F H F' H' : Hp} {g g' : G} {s : Sg} {a : Addr} {xs : List V} {ds : List D} (r0 : Rep K F g s H) (r : Rep K F' g' s H') (fa : F' a = none) (ha : H' a = some (.lst xs)) (hp : DpAll K F' xs ds) (na : H a = none) (t : Stp (OwnAt g s) F H F' H') (m : Mo g g') :
    ∃ F2, Dp K F2 (.ref a) (.list ds) ∧ Rep K F2 g' s H' ∧ Stp (OwnAt g s) F H F2 H' := by
  have sf : Same F' (upd F' a (.lst xs)) := fun b u e => by rw [upd_ne (ne_of_none e fa)]; exact e
  have fh : Same (upd F' a (.lst xs)) H' := fun b u e => by
    by_cases z : b = a
    · subst z; rw [upd_same] at e; cases e; exact ha
    · rw [upd_ne z] at e; exact r.fh b u e
  have t1 : Stp (fun b => b = a) F' H' (upd F' a (.lst xs)) H' := ⟨sf, fun b o e _ => e, fun b e e' => by
    by_cases z : b = a
    · exact .inr z
    · rw [upd_ne z] at e'; exact absurd e e', fun b e => e⟩
  refine ⟨_, .lst (SqL.of upd_same) (dpMonos sf _ _ hp), r.step t1 (fun b hb z => ?_) fh, t.trans t1 fun b z => .inr (by rw [z]; exact na)⟩
  subst z
  obtain ⟨i, tg, es, e1, e2⟩ := m.own hb
  obtain ⟨o, ho, a2, ys, eo, _, ha2, _⟩ := r0.get e1
  rw [e2] at ho; cases ho; cases eo
  rw [na] at ha2; cases ha2
theorem de_dv {e : Expr} {f : Fv} (h : DV X e f) : DE X e (eV f) := peMono h fun s H Q ⟨F, g, d, g', r, e1, k⟩ => by
  unfold eV at e1
  cases q : f g with
  | none => rw [q] at e1; cases e1
  | some p =>
    obtain ⟨x, g1⟩ := p
    rw [q] at e1
    cases x with
    | no => cases e1
    | v d0 =>
      cases e1
      exact ⟨F, g, _, g1, r, q, fun v F' H' hp _ r' t m => by
        obtain ⟨y, e2, hp⟩ := hp
        cases e2
        exact k v F' H' hp r' t m⟩
    | own tg ds =>
      cases e1
      refine ⟨F, g, _, g1, r, q, fun v F' H' hp hn r' t m => ?_⟩
      obtain ⟨a, xs, e2, fa, ha, hp, _⟩ := hp
      cases e2
      obtain ⟨_, a', e3, na⟩ := hn tg ds rfl
      cases e3
      obtain ⟨F2, dp, r2, t2⟩ := freezeNew r r' fa ha hp na t m
      exact k _ F2 H' dp r2 t2 m
/-- read at once, not frozen -/
theorem db_dv {e : Expr} {f : Fv} (h : DV X e f) : DB X e (eV f) := peMono h fun s H Q ⟨F, g, d, g', r, e1, k⟩ => by
  unfold eV at e1
  cases q : f g with
  | none => rw [q] at e1; cases e1
  | some p =>
    obtain ⟨x, g1⟩ := p
    rw [q] at e1
    cases x with
    | no => cases e1
    | v d0 =>
      cases e1
      exact ⟨F, g, _, g1, r, q, fun v F' H' hp _ r' t m => by
        obtain ⟨y, e2, hp⟩ := hp
        cases e2
        exact k v F' H' (.inl hp) r' t m⟩
    | own tg ds =>
      cases e1
      refine ⟨F, g, _, g1, r, q, fun v F' H' hp hn r' t m => ?_⟩
      obtain ⟨a, xs, e2, fa, ha, hp, _⟩ := hp
      cases e2
      exact k _ F' H' (.inr ⟨ds, a, xs, rfl, rfl, ha, hp⟩) r' t m

/-! ### two operands -/
def BinOk (K : PySem.W.Frag) (r : R2) (op : D → D → Option D) : Prop := ∀ (x y : V) (d1 d2 d : D) (F H : Hp) (Q : VK), Same F H → Dp K F x d1 → Dp K F y d2 → op d1 d2 = some d →
  (∀ v F' H', Dp K F' v d → Same F' H' → Stp Non F H F' H' → Q v H') → r x y H Q
def eBin (op : D → D → Option D) (fa fb : Fe) : Fe := fun g => (fa g).bind fun p => (fb p.2).bind fun q => (op p.1 q.1).map fun d => (d, q.2)
theorem eBin_inv {op : D → D → Option D} {fa fb : Fe} {g g' : G} {d : D} (h : eBin op fa fb g = some (d, g')) : ∃ d1 g1 d2, fa g = some (d1, g1) ∧ fb g1 = some (d2, g') ∧ op d1 d2 = some d := by
  unfold eBin at h
  cases q : fa g with
  | none => rw [q] at h; cases h
  | some p =>
    rw [q] at h
    cases q2 : fb p.2 with
    | none =>
      have h : (fb p.2).bind _ = some (d, g') := h
      rw [q2] at h; cases h
    | some p2 =>
      have h : (fb p.2).bind _ = some (d, g') := h
      rw [q2] at h
      have h : (op p.1 p2.1).map _ = some (d, g') := h
      cases q3 : op p.1 p2.1 with
      | none => rw [q3] at h; cases h
      | some d3 =>
        rw [q3] at h; cases h
        exact ⟨p.1, p.2, p2.1, rfl, q2, q3⟩
theorem tD_bin {K : PySem.W.Frag} {op : D → D → Option D} {fa fb : Fe} {r : R2} (hr : BinOk K r op) {s : Sg} {H : Hp} {Q : VK} (h : tD K (eBin op fa fb) s H Q) : tOp r (tD K fa) (tD K fb) s H Q := by
  obtain ⟨F, g, d, g', rp, e, k⟩ := h
  obtain ⟨d1, g1, d2, e1, e2, e3⟩ := eBin_inv e
  refine ⟨F, g, d1, g1, rp, e1, fun v1 F1 H1 p1 r1 t1 m1 => ⟨F1, g1, d2, g', r1, e2, fun v2 F2 H2 p2 r2 t2 m2 => ?_⟩⟩
  exact hr v1 v2 d1 d2 d F2 H2 Q r2.fh (dpMono t2.fs _ _ p1) p2 e3 fun v F3 H3 p3 fh t3 => k v F3 H3 p3 (r2.stepN t3 fh) ((t1.two m1 t2).andN t3) (m1.trans m2)
theorem de_op {a b : Expr} {pos : Pos} {o : Operator} {r : R2} {op : D → D → Option D} {fa fb : Fe} (ho : OpR X (binaryOp o) r) (hr : BinOk X.K r op) (ha : DE X a fa) (hb : DE X b fb) : DE X (.BinOp a o b pos) (eBin op fa fb) :=
  peMono (pe_op ho ha hb) fun _ _ _ h => tD_bin hr h
theorem de_cmp {a b : Expr} {pos : Pos} {o : CmpOp} {r : R2} {op : D → D → Option D} {fa fb : Fe} (ho : OpR X (compareOp o) r) (hr : BinOk X.K r op) (hm : behindInMarks o b = false) (ha : DE X a fa) (hb : DE X b fb) : DE X (.Compare a [o] [b] pos) (eBin op fa fb) :=
  peMono (pe_cmpR ho ha hb hm) fun _ _ _ h => tD_bin hr h
theorem BinOk.or {K : PySem.W.Frag} {r r' : R2} {op op' : D → D → Option D} (h : BinOk K r op) (h' : BinOk K r' op') : BinOk K (fun x y H Q => r x y H Q ∨ r' x y H Q) (fun a b => (op a b).or (op' a b)) := by
  intro x y d1 d2 d F H Q fh p1 p2 e k
  cases q : op d1 d2 with
  | none =>
    have e : (op d1 d2).or _ = _ := e
    rw [q] at e
    exact .inr (h' x y d1 d2 d F H Q fh p1 p2 e k)
  | some d' =>
    have e : (op d1 d2).or _ = _ := e
    rw [q] at e; cases e
    exact .inl (h x y d1 d2 _ F H Q fh p1 p2 q k)

/-- the answer is no new object -/
theorem fin0 {K : PySem.W.Frag} {F H : Hp} {v : V} {d : D} {Q : VK} (fh : Same F H) (hd : Dp K F v d) (k : ∀ v F' H', Dp K F' v d → Same F' H' → Stp Non F H F' H' → Q v H') : Q v H := k v F H hd fh Stp.refl

end Dl
set_option Elab.async false
set_option linter.all false
set_option maxRecDepth 100000
namespace Dl
open PySem PySem.Spec PyProof.Rows L2
variable {X : Cx}

/-! ### arithmetic -/
def addD : D → D → Option D
  | .int i, .int j => some (.int (i + j))
  | _, _ => none
def subD : D → D → Option D
  | .int i, .int j => some (.int (i - j))
  | _, _ => none
/-- the sizes that a product and a quotient are served for -/
def MulOk (i j : Int) : Bool := decide (i.natAbs.log2 + j.natAbs.log2 < 1000000) || decide (i.natAbs < 2 ^ 64) || decide (j.natAbs < 2 ^ 64)
def mulD : D → D → Option D
  | .int i, .int j => if MulOk i j = true then some (.int (i * j)) else none
  | _, _ => none
def DivOk (j : Int) : Bool := decide (j ≠ 0) && decide (j.natAbs.log2 < 9000)
def fdivD : D → D → Option D
  | .int i, .int j => if DivOk j = true then some (.int (i.fdiv j)) else none
  | _, _ => none
def modD : D → D → Option D
  | .int i, .int j => if j = 0 then none else some (.int (i.fmod j))
  | _, _ => none
theorem intOf {K : PySem.W.Frag} {F : Hp} {v : V} {i : Int} (h : Dp K F v (.int i)) : v = .int i := by cases h; rfl
theorem ok_add : BinOk X.K (rI0 fun i j => .int (i + j)) addD := fun x y d1 d2 d F H Q fh p1 p2 e k => by
  unfold addD at e
  split at e
  · cases e
    rename_i i j
    exact ⟨i, j, intOf p1, intOf p2, fin0 fh (.int _) k⟩
  · cases e
theorem ok_sub : BinOk X.K (rI0 fun i j => .int (i - j)) subD := fun x y d1 d2 d F H Q fh p1 p2 e k => by
  unfold subD at e
  split at e
  · cases e
    rename_i i j
    exact ⟨i, j, intOf p1, intOf p2, fin0 fh (.int _) k⟩
  · cases e
theorem op_mulX : OpR X (binaryOp .Mult) (rI (fun i j => CMulW i j ∨ CMul i j) fun i j => .int (i * j)) := by
  intro pins s σ H x y v u Q I rx ry h
  obtain ⟨i, j, e1, e2, c, q⟩ := h
  rcases c with c | c
  · exact op_mulW pins s σ H x y v u Q I rx ry ⟨i, j, e1, e2, c, q⟩
  · exact op_mul pins s σ H x y v u Q I rx ry ⟨i, j, e1, e2, c, q⟩
theorem ok_mul : BinOk X.K (rI (fun i j => CMulW i j ∨ CMul i j) fun i j => .int (i * j)) mulD := fun x y d1 d2 d F H Q fh p1 p2 e k => by
  unfold mulD at e
  split at e
  · rename_i i j
    split at e
    · rename_i hc
      cases e
      refine ⟨i, j, intOf p1, intOf p2, ?_, fin0 fh (.int _) k⟩
      unfold MulOk at hc
      simp only [Bool.or_eq_true, decide_eq_true_eq] at hc
      rcases hc with (hc | hc) | hc
      · exact .inl hc
      · exact .inr (.inl ⟨by omega, by omega⟩)
      · exact .inr (.inr ⟨by omega, by omega⟩)
    · cases e
  · cases e
theorem op_fdivX : OpR X (binaryOp .FloorDiv) (rI (fun _ j => j ≠ 0 ∧ j.natAbs.log2 < 9000) fun i j => .int (i.fdiv j)) := opI fun i j _ _ _ _ _ hc q => floordiv_int hc.1 q (.inl (PyProof.noPylong_of_log2 hc.2))
theorem ok_fdiv : BinOk X.K (rI (fun _ j => j ≠ 0 ∧ j.natAbs.log2 < 9000) fun i j => .int (i.fdiv j)) fdivD := fun x y d1 d2 d F H Q fh p1 p2 e k => by
  unfold fdivD at e
  split at e
  · rename_i i j
    split at e
    · rename_i hc
      cases e
      unfold DivOk at hc
      simp only [Bool.and_eq_true, decide_eq_true_eq] at hc
      exact ⟨i, j, intOf p1, intOf p2, hc, fin0 fh (.int _) k⟩
    · cases e
  · cases e
theorem ok_mod : BinOk X.K (rI (fun _ j => j ≠ 0) fun i j => .int (i.fmod j)) modD := fun x y d1 d2 d F H Q fh p1 p2 e k => by
  unfold modD at e
  split at e
  · rename_i i j
    split at e
    · cases e
    · rename_i hc
      cases e
      exact ⟨i, j, intOf p1, intOf p2, hc, fin0 fh (.int _) k⟩
  · cases e
def powD : D → D → Option D
  | .int i, .int j => if 0 ≤ j ∧ j ≤ 1000000 ∧ i.natAbs < 2 ^ 64 then some (.int (i ^ j.toNat)) else none
  | _, _ => none
theorem ok_pow : BinOk X.K (rI CPow fun i j => .int (i ^ j.toNat)) powD := fun x y d1 d2 d F H Q fh p1 p2 e k => by
  unfold powD at e
  split at e
  · rename_i i j
    split at e
    · rename_i hc
      cases e
      exact ⟨i, j, intOf p1, intOf p2, hc, fin0 fh (.int _) k⟩
    · cases e
  · cases e
section
variable {a b : Expr} {pos : Pos} {fa fb : Fe}
theorem de_add (ha : DE X a fa) (hb : DE X b fb) : DE X (.BinOp a .Add b pos) (eBin addD fa fb) := de_op op_add ok_add ha hb
theorem de_sub (ha : DE X a fa) (hb : DE X b fb) : DE X (.BinOp a .Sub b pos) (eBin subD fa fb) := de_op op_sub ok_sub ha hb
theorem de_mul (ha : DE X a fa) (hb : DE X b fb) : DE X (.BinOp a .Mult b pos) (eBin mulD fa fb) := de_op op_mulX ok_mul ha hb
theorem de_fdiv (ha : DE X a fa) (hb : DE X b fb) : DE X (.BinOp a .FloorDiv b pos) (eBin fdivD fa fb) := de_op op_fdivX ok_fdiv ha hb
theorem de_mod (ha : DE X a fa) (hb : DE X b fb) : DE X (.BinOp a .Mod b pos) (eBin modD fa fb) := de_op op_modN ok_mod ha hb
theorem de_pow (ha : DE X a fa) (hb : DE X b fb) : DE X (.BinOp a .Pow b pos) (eBin powD fa fb) := de_op op_pow ok_pow ha hb
end
def eUn (op : D → Option D) (fa : Fe) : Fe := fun g => (fa g).bind fun p => (op p.1).map fun d => (d, p.2)
theorem eUn_inv {op : D → Option D} {fa : Fe} {g g' : G} {d : D} (h : eUn op fa g = some (d, g')) : ∃ d1, fa g = some (d1, g') ∧ op d1 = some d := by
  unfold eUn at h
  cases q : fa g with
  | none => rw [q] at h; cases h
  | some p =>
    rw [q] at h
    have h : (op p.1).map _ = some (d, g') := h
    cases q2 : op p.1 with
    | none => rw [q2] at h; cases h
    | some d2 =>
      rw [q2] at h; cases h
      exact ⟨p.1, rfl, q2⟩
def negD : D → Option D
  | .int i => some (.int (-i))
  | _ => none
theorem de_neg {a : Expr} {pos : Pos} {fa : Fe} (ha : DE X a fa) : DE X (.UnaryOp .USub a pos) (eUn negD fa) := peMono (pe_un un_neg ha) fun s H Q h => by
  obtain ⟨F, g, d, g', rp, e, k⟩ := h
  obtain ⟨d1, e1, e2⟩ := eUn_inv e
  refine ⟨F, g, d1, g', rp, e1, fun v1 F1 H1 p1 r1 t1 m1 => ?_⟩
  unfold negD at e2
  split at e2
  · cases e2
    rename_i i
    exact ⟨i, intOf p1, k _ F1 H1 (.int _) r1 t1 m1⟩
  · cases e2

/-! ### comparisons -/
def cmpD (p : Int → Int → Bool) : D → D → Option D
  | .int i, .int j => some (.bool (p i j))
  | _, _ => none
theorem ok_cmp {p : Int → Int → Bool} : BinOk X.K (rI0 fun i j => .bl (p i j)) (cmpD p) := fun x y d1 d2 d F H Q fh p1 p2 e k => by
  unfold cmpD at e
  split at e
  · cases e
    rename_i i j
    exact ⟨i, j, intOf p1, intOf p2, fin0 fh (.bl _) k⟩
  · cases e
abbrev ltD := cmpD fun i j => decide (i < j)
abbrev leD := cmpD fun i j => decide (i ≤ j)
abbrev gtD := cmpD fun i j => decide (j < i)
abbrev geD := cmpD fun i j => decide (j ≤ i)
def eqD : D → D → Option D := fun d e => match d, e with
  | .str x, .str y => some (.bool (decide (x = y)))
  | d, e => if SeqAt.shaped d = true ∧ SeqAt.shaped e = true then some (.bool (PyData.eqv d e)) else none
def neD : D → D → Option D := fun d e => match d, e with
  | .str x, .str y => some (.bool (!decide (x = y)))
  | d, e => if SeqAt.shaped d = true ∧ SeqAt.shaped e = true then some (.bool (!PyData.eqv d e)) else none
def rEqX (K : PySem.W.Frag) : R2 := fun x y H Q => rEq x y H Q ∨ rEqD K x y H Q
def rNeX (K : PySem.W.Frag) : R2 := fun x y H Q => rNe x y H Q ∨ rNeD K x y H Q
theorem op_eqX (hu : X.A.units + 64 < cLine) : OpR X (compareOp .Eq) (rEqX X.K) := op_eq.or (op_eqD hu)
theorem op_neX (hu : X.A.units + 64 < cLine) : OpR X (compareOp .NotEq) (rNeX X.K) := op_ne.or (op_neD hu)
theorem decStr {x y : Str} : decide (V.str x = V.str y) = decide (x = y) := by
  by_cases h : x = y
  · subst h; simp
  · simp [h]
theorem ok_eq : BinOk X.K (rEqX X.K) eqD := fun x y d1 d2 d F H Q fh p1 p2 e k => by
  unfold eqD at e
  split at e
  · cases e
    cases p1; cases p2
    refine .inl ⟨rfl, ?_⟩
    rw [decStr]
    exact fin0 fh (.bl _) k
  · split at e
    · rename_i h
      cases e
      exact .inr ⟨d1, d2, dpMono fh _ _ p1, dpMono fh _ _ p2, h.1, h.2, fin0 fh (.bl _) k⟩
    · cases e
theorem ok_ne : BinOk X.K (rNeX X.K) neD := fun x y d1 d2 d F H Q fh p1 p2 e k => by
  unfold neD at e
  split at e
  · cases e
    cases p1; cases p2
    refine .inl ⟨rfl, ?_⟩
    rw [decStr]
    exact fin0 fh (.bl _) k
  · split at e
    · rename_i h
      cases e
      exact .inr ⟨d1, d2, dpMono fh _ _ p1, dpMono fh _ _ p2, h.1, h.2, fin0 fh (.bl _) k⟩
    · cases e
def isND : D → D → Option D
  | .none, .none => some (.bool true)
  | _, .none => some (.bool false)
  | _, _ => none
def notND : D → D → Option D
  | .none, .none => some (.bool false)
  | _, .none => some (.bool true)
  | _, _ => none
theorem dpNone {K : PySem.W.Frag} {F : Hp} {v : V} {d : D} (h : Dp K F v d) (hd : d ≠ .none) : decide (v = .non) = false := by
  cases h <;> first | rfl | exact absurd rfl hd
theorem ok_isN : BinOk X.K (fun x y H Q => y = .non ∧ Q (.bl (decide (x = .non))) H) isND := fun x y d1 d2 d F H Q fh p1 p2 e k => by
  unfold isND at e
  split at e
  · cases e
    cases p1; cases p2
    exact ⟨rfl, fin0 fh (.bl _) k⟩
  · rename_i hn
    cases e
    cases p2
    rw [dpNone p1 hn]
    exact ⟨rfl, fin0 fh (.bl _) k⟩
  · cases e
theorem ok_notN : BinOk X.K (fun x y H Q => y = .non ∧ Q (.bl (!decide (x = .non))) H) notND := fun x y d1 d2 d F H Q fh p1 p2 e k => by
  unfold notND at e
  split at e
  · cases e
    cases p1; cases p2
    exact ⟨rfl, fin0 fh (.bl _) k⟩
  · rename_i hn
    cases e
    cases p2
    rw [dpNone p1 hn]
    exact ⟨rfl, fin0 fh (.bl _) k⟩
  · cases e
section
variable {a b c : Expr} {pos : Pos} {fa fb fc : Fe}
theorem de_lt (ha : DE X a fa) (hb : DE X b fb) : DE X (.Compare a [.Lt] [b] pos) (eBin ltD fa fb) := de_cmp op_lt ok_cmp (nomark _) ha hb
theorem de_le (ha : DE X a fa) (hb : DE X b fb) : DE X (.Compare a [.LtE] [b] pos) (eBin leD fa fb) := de_cmp op_le ok_cmp (nomark _) ha hb
theorem de_gt (ha : DE X a fa) (hb : DE X b fb) : DE X (.Compare a [.Gt] [b] pos) (eBin gtD fa fb) := de_cmp op_gt ok_cmp (nomark _) ha hb
theorem de_ge (ha : DE X a fa) (hb : DE X b fb) : DE X (.Compare a [.GtE] [b] pos) (eBin geD fa fb) := de_cmp op_ge ok_cmp (nomark _) ha hb
theorem de_eq (hu : X.A.units + 64 < cLine) (ha : DE X a fa) (hb : DE X b fb) : DE X (.Compare a [.Eq] [b] pos) (eBin eqD fa fb) := de_cmp (op_eqX hu) ok_eq (nomark _) ha hb
theorem de_ne (hu : X.A.units + 64 < cLine) (ha : DE X a fa) (hb : DE X b fb) : DE X (.Compare a [.NotEq] [b] pos) (eBin neD fa fb) := de_cmp (op_neX hu) ok_ne (nomark _) ha hb
theorem de_isN (ha : DE X a fa) (hb : DE X b fb) : DE X (.Compare a [.Is] [b] pos) (eBin isND fa fb) := de_cmp op_isN ok_isN (nomark _) ha hb
theorem de_notN (ha : DE X a fa) (hb : DE X b fb) : DE X (.Compare a [.IsNot] [b] pos) (eBin notND fa fb) := de_cmp op_notN ok_notN (nomark _) ha hb

/-- a <= b <= c -/
def eChain (op op' : D → D → Option D) (fa fb fc : Fe) : Fe := fun g => (fa g).bind fun p => (fb p.2).bind fun q => match op p.1 q.1 with
  | some (.bool true) => (fc q.2).bind fun w => (op' q.1 w.1).map fun d => (d, w.2)
  | some (.bool false) => some (.bool false, q.2)
  | _ => none
theorem tD_chain {K : PySem.W.Frag} {r r' : R2} {o o' : D → D → Option D} (hr : BinOk K r o) (hr' : BinOk K r' o') {s : Sg} {H : Hp} {Q : VK} (h : tD K (eChain o o' fa fb fc) s H Q) : tChain r r' (tD K fa) (tD K fb) (tD K fc) s H Q := by
  obtain ⟨F, g, d, g', rp, e, k⟩ := h
  unfold eChain at e
  cases q1 : fa g with
  | none => rw [q1] at e; cases e
  | some p =>
    rw [q1] at e
    have e : (fb p.2).bind _ = some (d, g') := e
    cases q2 : fb p.2 with
    | none => rw [q2] at e; cases e
    | some p2 =>
      rw [q2] at e
      refine ⟨F, g, p.1, p.2, rp, q1, fun v1 F1 H1 h1 r1 t1 m1 => ⟨F1, p.2, p2.1, p2.2, r1, q2, fun v2 F2 H2 h2 r2 t2 m2 => ?_⟩⟩
      simp only [Option.bind_some] at e
      split at e
      · rename_i q3
        refine hr v1 v2 p.1 p2.1 _ F2 H2 _ r2.fh (dpMono t2.fs _ _ h1) h2 q3 fun v F3 H3 hv fh t3 => ?_
        cases hv
        refine ⟨true, rfl, ?_⟩
        rw [if_pos rfl]
        have r3 := r2.stepN t3 fh
        cases q4 : fc p2.2 with
        | none => rw [q4] at e; cases e
        | some p4 =>
          rw [q4] at e
          have e : (o' p2.1 p4.1).map _ = some (d, g') := e
          cases q5 : o' p2.1 p4.1 with
          | none => rw [q5] at e; cases e
          | some d5 =>
            rw [q5] at e
            cases e
            refine ⟨F3, p2.2, p4.1, p4.2, r3, q4, fun v4 F4 H4 h4 r4 t4 m4 => ?_⟩
            refine hr' v2 v4 p2.1 p4.1 _ F4 H4 _ r4.fh (dpMono (t3.fs.trans t4.fs) _ _ h2) h4 q5 fun v F5 H5 hv fh5 t5 => ?_
            exact k v F5 H5 hv (r4.stepN t5 fh5) ((((t1.two m1 t2).andN t3).two (m1.trans m2) t4).andN t5) ((m1.trans m2).trans m4)
      · rename_i q3
        cases e
        refine hr v1 v2 p.1 p2.1 _ F2 H2 _ r2.fh (dpMono t2.fs _ _ h1) h2 q3 fun v F3 H3 hv fh t3 => ?_
        cases hv
        refine ⟨false, rfl, ?_⟩
        rw [if_neg (by decide)]
        exact k _ F3 H3 (.bl false) (r2.stepN t3 fh) ((t1.two m1 t2).andN t3) (m1.trans m2)
      · cases e
theorem de_chain {op op' : CmpOp} {r r' : R2} {o o' : D → D → Option D} (ho : OpR X (compareOp op) r) (ho' : OpR X (compareOp op') r') (hr : BinOk X.K r o) (hr' : BinOk X.K r' o') (ha : DE X a fa) (hb : DE X b fb) (hc : DE X c fc)
    (hm : lastMarks [op, op'] [b, c] = false := by with_unfolding_all rfl) :
    DE X (.Compare a [op, op'] [b, c] pos) (eChain o o' fa fb fc) := peMono (pe_chain ho ho' ha hb hc hm) fun _ _ _ h => tD_chain hr hr' h
end

/-! ### truth -/
def truD : D → Option Bool
  | .none => some false
  | .bool b => some b
  | .int i => some (i != 0)
  | .str x => if x.length ≤ sizeLine then some ((x.length : Int) != 0) else none
  | .list ds => some (!ds.isEmpty)
  | .tuple ds => some (!ds.isEmpty)
  | .dict _ => none
theorem empty_of {K : PySem.W.Frag} {F : Hp} {xs : List V} {ds : List D} (h : DpAll K F xs ds) : xs.isEmpty = ds.isEmpty := by
  have := dpLen h
  cases xs <;> cases ds <;> simp_all
theorem truOf {K : PySem.W.Frag} {H : Hp} {v : V} {d : D} {b : Bool} (h : Dp K H v d) (e : truD d = some b) : TruV K v H b := by
  cases h with
  | non => cases e; rfl
  | bl b => cases e; rfl
  | int i => cases e; rfl
  | str x =>
    have e : (if x.length ≤ sizeLine then some ((x.length : Int) != 0) else none) = some b := e
    by_cases z : x.length ≤ sizeLine
    · rw [if_pos z] at e; cases e; exact ⟨z, rfl⟩
    · rw [if_neg z] at e; cases e
  | lst hs ha => cases e; exact .inl ⟨_, hs, by rw [empty_of ha]⟩
  | tup hs ha => cases e; exact .inr (.inl ⟨_, hs, by rw [empty_of ha]⟩)
/-- a value as a test -/
def tOf (f : Fe) : Ft := fun g => (f g).bind fun p => (truD p.1).map fun b => (b, p.2)
theorem tOf_inv {f : Fe} {g g' : G} {b : Bool} (h : tOf f g = some (b, g')) : ∃ d, f g = some (d, g') ∧ truD d = some b := by
  unfold tOf at h
  cases q : f g with
  | none => rw [q] at h; cases h
  | some p =>
    rw [q] at h
    have h : (truD p.1).map _ = some (b, g') := h
    cases q2 : truD p.1 with
    | none => rw [q2] at h; cases h
    | some d2 =>
      rw [q2] at h; cases h
      exact ⟨p.1, rfl, q2⟩
theorem dt_of {e : Expr} {f : Fe} (h : DB X e f) (he : ∀ whole, isTrue e X.env whole = (do let v ← whole; standAt e.pos; holding [v] (truthy v)) := by intro _; rfl) : DT X e (tOf f) := ptMono (pt_truth h he) fun s H Q h => by
  obtain ⟨F, g, b, g', rp, e, k⟩ := h
  obtain ⟨d, e1, e2⟩ := tOf_inv e
  exact ⟨F, g, d, g', rp, e1, fun v1 F1 H1 p1 r1 t1 m1 => ⟨b, truOf (p1.dp r1.fh) e2, k F1 H1 r1 t1 m1⟩⟩
/-- what gives flags alone -/
def IsB (f : Fe) : Prop := ∀ g d g', f g = some (d, g') → ∃ b, d = .bool b
def IsBo (op : D → D → Option D) : Prop := ∀ d1 d2 d, op d1 d2 = some d → ∃ b, d = .bool b
theorem isb_cmp {p} : IsBo (cmpD p) := fun d1 d2 d e => by
  unfold cmpD at e
  split at e
  · cases e; exact ⟨_, rfl⟩
  · cases e
theorem isb_eq : IsBo eqD := fun d1 d2 d e => by
  unfold eqD at e
  split at e
  · cases e; exact ⟨_, rfl⟩
  · split at e
    · cases e; exact ⟨_, rfl⟩
    · cases e
theorem isb_ne : IsBo neD := fun d1 d2 d e => by
  unfold neD at e
  split at e
  · cases e; exact ⟨_, rfl⟩
  · split at e
    · cases e; exact ⟨_, rfl⟩
    · cases e
theorem isb_isN : IsBo isND := fun d1 d2 d e => by
  unfold isND at e
  split at e <;> cases e <;> exact ⟨_, rfl⟩
theorem isb_notN : IsBo notND := fun d1 d2 d e => by
  unfold notND at e
  split at e <;> cases e <;> exact ⟨_, rfl⟩
theorem isb_bin {op : D → D → Option D} {fa fb : Fe} (h : IsBo op) : IsB (eBin op fa fb) := fun g d g' e => by
  obtain ⟨d1, g1, d2, _, _, e3⟩ := eBin_inv e
  exact h d1 d2 d e3
theorem isb_chain {op op' : D → D → Option D} {fa fb fc : Fe} (h : IsBo op') : IsB (eChain op op' fa fb fc) := fun g d g' e => by
  unfold eChain at e
  cases q1 : fa g with
  | none => rw [q1] at e; cases e
  | some p =>
    rw [q1] at e
    have e : (fb p.2).bind _ = some (d, g') := e
    cases q2 : fb p.2 with
    | none => rw [q2] at e; cases e
    | some p2 =>
      rw [q2] at e
      simp only [Option.bind_some] at e
      split at e
      · cases q4 : fc p2.2 with
        | none => rw [q4] at e; cases e
        | some p4 =>
          rw [q4] at e
          have e : (op' p2.1 p4.1).map _ = some (d, g') := e
          cases q5 : op' p2.1 p4.1 with
          | none => rw [q5] at e; cases e
          | some d5 =>
            rw [q5] at e
            cases e
            exact h _ _ _ q5
      · cases e; exact ⟨_, rfl⟩
      · cases e
theorem dt_test {e : Expr} {t : TE} {f : Fe} (h : PT X e (tTest t)) (m : ∀ s H Q, tD X.K f s H Q → t s H Q) (hb : IsB f) : DT X e (tOf f) := ptMono h fun s H Q h => by
  obtain ⟨F, g, b, g', rp, e, k⟩ := h
  obtain ⟨d, e1, e2⟩ := tOf_inv e
  refine m s H _ ⟨F, g, d, g', rp, e1, fun v1 F1 H1 p1 r1 t1 m1 => ?_⟩
  obtain ⟨c, ec⟩ := hb g d g' e1
  subst ec
  cases e2
  cases p1
  exact ⟨_, rfl, k F1 H1 r1 t1 m1⟩
theorem dt_cmp {a b : Expr} {pos : Pos} {o : CmpOp} {r : R2} {op : D → D → Option D} {fa fb : Fe} (ho : OpR X (compareOp o) r) (hr : BinOk X.K r op) (hi : IsBo op) (hm : behindInMarks o b = false) (ha : DE X a fa) (hb : DE X b fb) : DT X (.Compare a [o] [b] pos) (tOf (eBin op fa fb)) :=
  dt_test (pt_cmpR ho ha hb hm) (fun _ _ _ h => tD_bin hr h) (isb_bin hi)
theorem dt_chain {a b c : Expr} {pos : Pos} {fa fb fc : Fe} {op op' : CmpOp} {r r' : R2} {o o' : D → D → Option D} (ho : OpR X (compareOp op) r) (ho' : OpR X (compareOp op') r') (hr : BinOk X.K r o) (hr' : BinOk X.K r' o') (hi : IsBo o') (ha : DE X a fa) (hb : DE X b fb) (hc : DE X c fc)
    (hm : lastMarks [op, op'] [b, c] = false := by with_unfolding_all rfl) :
    DT X (.Compare a [op, op'] [b, c] pos) (tOf (eChain o o' fa fb fc)) := dt_test (pt_chain ho ho' ha hb hc hm) (fun _ _ _ h => tD_chain hr hr' h) (isb_chain hi)
section
variable {a b c : Expr} {pos : Pos} {fa fb fc : Fe}
theorem dt_lt (ha : DE X a fa) (hb : DE X b fb) : DT X (.Compare a [.Lt] [b] pos) (tOf (eBin ltD fa fb)) := dt_cmp op_lt ok_cmp isb_cmp (nomark _) ha hb
theorem dt_le (ha : DE X a fa) (hb : DE X b fb) : DT X (.Compare a [.LtE] [b] pos) (tOf (eBin leD fa fb)) := dt_cmp op_le ok_cmp isb_cmp (nomark _) ha hb
theorem dt_gt (ha : DE X a fa) (hb : DE X b fb) : DT X (.Compare a [.Gt] [b] pos) (tOf (eBin gtD fa fb)) := dt_cmp op_gt ok_cmp isb_cmp (nomark _) ha hb
theorem dt_ge (ha : DE X a fa) (hb : DE X b fb) : DT X (.Compare a [.GtE] [b] pos) (tOf (eBin geD fa fb)) := dt_cmp op_ge ok_cmp isb_cmp (nomark _) ha hb
theorem dt_eq (hu : X.A.units + 64 < cLine) (ha : DE X a fa) (hb : DE X b fb) : DT X (.Compare a [.Eq] [b] pos) (tOf (eBin eqD fa fb)) := dt_cmp (op_eqX hu) ok_eq isb_eq (nomark _) ha hb
theorem dt_ne (hu : X.A.units + 64 < cLine) (ha : DE X a fa) (hb : DE X b fb) : DT X (.Compare a [.NotEq] [b] pos) (tOf (eBin neD fa fb)) := dt_cmp (op_neX hu) ok_ne isb_ne (nomark _) ha hb
theorem dt_isN (ha : DE X a fa) (hb : DE X b fb) : DT X (.Compare a [.Is] [b] pos) (tOf (eBin isND fa fb)) := dt_cmp op_isN ok_isN isb_isN (nomark _) ha hb
theorem dt_notN (ha : DE X a fa) (hb : DE X b fb) : DT X (.Compare a [.IsNot] [b] pos) (tOf (eBin notND fa fb)) := dt_cmp op_notN ok_notN isb_notN (nomark _) ha hb
end

/-! ### and, or, not: tests -/
def tAndT (f h : Ft) : Ft := fun g => (f g).bind fun p => if p.1 = true then h p.2 else some (false, p.2)
def tOrT (f h : Ft) : Ft := fun g => (f g).bind fun p => if p.1 = true then some (true, p.2) else h p.2
def tNotT (f : Ft) : Ft := fun g => (f g).map fun p => (!p.1, p.2)
theorem dt_not {a : Expr} {pos : Pos} {f : Ft} (h : DT X a f) : DT X (.UnaryOp .Not a pos) (tNotT f) := ptMono (pt_not h) fun s H Q ⟨F, g, b, g', rp, e, k⟩ => by
  unfold tNotT at e
  cases q : f g with
  | none => rw [q] at e; cases e
  | some p =>
    rw [q] at e; cases e
    exact ⟨F, g, p.1, p.2, rp, q, fun F1 H1 r1 t1 m1 => k F1 H1 r1 t1 m1⟩
theorem dw_and1 {a : Expr} {pos : Pos} {f : Ft} (h : DT X a f) : DW X (.BoolOp .And [a] pos) f := pw_and1 h
theorem dw_or1 {a : Expr} {pos : Pos} {f : Ft} (h : DT X a f) : DW X (.BoolOp .Or [a] pos) f := pw_or1 h
theorem dw_and {a b : Expr} {rest : List Expr} {pos : Pos} {f h : Ft} (ha : DT X a f) (hb : DW X (.BoolOp .And (b :: rest) pos) h) : DW X (.BoolOp .And (a :: b :: rest) pos) (tAndT f h) := pwMono (pw_and ha hb) fun s H Q ⟨F, g, b, g', rp, e, k⟩ => by
  unfold tAndT at e
  cases q : f g with
  | none => rw [q] at e; cases e
  | some p =>
    obtain ⟨c, g1⟩ := p
    rw [q] at e
    refine ⟨F, g, c, g1, rp, q, fun F1 H1 r1 t1 m1 => ?_⟩
    have e : (if c = true then h g1 else some (false, g1)) = some (b, g') := e
    cases c with
    | true =>
      rw [if_pos rfl] at e
      refine iteT ?_
      exact ⟨F1, g1, b, g', r1, e, fun F2 H2 r2 t2 m2 => k F2 H2 r2 (t1.two m1 t2) (m1.trans m2)⟩
    | false =>
      rw [if_neg (by decide)] at e
      refine iteF ?_
      cases e
      exact k F1 H1 r1 t1 m1
theorem dw_or {a b : Expr} {rest : List Expr} {pos : Pos} {f h : Ft} (ha : DT X a f) (hb : DW X (.BoolOp .Or (b :: rest) pos) h) : DW X (.BoolOp .Or (a :: b :: rest) pos) (tOrT f h) := pwMono (pw_or ha hb) fun s H Q ⟨F, g, b, g', rp, e, k⟩ => by
  unfold tOrT at e
  cases q : f g with
  | none => rw [q] at e; cases e
  | some p =>
    obtain ⟨c, g1⟩ := p
    rw [q] at e
    refine ⟨F, g, c, g1, rp, q, fun F1 H1 r1 t1 m1 => ?_⟩
    have e : (if c = true then some (true, g1) else h g1) = some (b, g') := e
    cases c with
    | true =>
      rw [if_pos rfl] at e
      refine iteT ?_
      cases e
      exact k F1 H1 r1 t1 m1
    | false =>
      rw [if_neg (by decide)] at e
      refine iteF ?_
      exact ⟨F1, g1, b, g', r1, e, fun F2 H2 r2 t2 m2 => k F2 H2 r2 (t1.two m1 t2) (m1.trans m2)⟩
theorem dt_w {a : Expr} {f : Ft} (h : DW X a f) : DT X a f := h.pt

/-! ### and, or, not, if: values -/
def eAnd (f h : Fe) : Fe := fun g => (f g).bind fun p => match truD p.1 with
  | some true => h p.2
  | some false => some p
  | none => none
def eOr (f h : Fe) : Fe := fun g => (f g).bind fun p => match truD p.1 with
  | some true => some p
  | some false => h p.2
  | none => none
def notD (d : D) : Option D := (truD d).map fun b => .bool !b
theorem de_one {a : Expr} {op} {pos : Pos} {f : Fe} (h : DE X a f) : DE X (.BoolOp op [a] pos) f := pe_one h
theorem de_and {a b : Expr} {rest : List Expr} {pos : Pos} {f h : Fe} (ha : DE X a f) (hb : DE X (.BoolOp .And (b :: rest) pos) h) : DE X (.BoolOp .And (a :: b :: rest) pos) (eAnd f h) := peMono (pe_andT ha hb) fun s H Q ⟨F, g, d, g', rp, e, k⟩ => by
  unfold eAnd at e
  cases q : f g with
  | none => rw [q] at e; cases e
  | some p =>
    rw [q] at e
    refine ⟨F, g, p.1, p.2, rp, q, fun v F1 H1 p1 r1 t1 m1 => ?_⟩
    simp only [Option.bind_some] at e
    split at e
    · rename_i q2
      refine ⟨true, truOf (dpMono r1.fh _ _ p1) q2, ?_⟩
      rw [if_pos rfl]
      exact ⟨F1, p.2, d, g', r1, e, fun v2 F2 H2 p2 r2 t2 m2 => k v2 F2 H2 p2 r2 (t1.two m1 t2) (m1.trans m2)⟩
    · rename_i q2
      cases e
      refine ⟨false, truOf (dpMono r1.fh _ _ p1) q2, ?_⟩
      rw [if_neg (by decide)]
      exact k v F1 H1 p1 r1 t1 m1
    · cases e
theorem de_or {a b : Expr} {rest : List Expr} {pos : Pos} {f h : Fe} (ha : DE X a f) (hb : DE X (.BoolOp .Or (b :: rest) pos) h) : DE X (.BoolOp .Or (a :: b :: rest) pos) (eOr f h) := peMono (pe_orT ha hb) fun s H Q ⟨F, g, d, g', rp, e, k⟩ => by
  unfold eOr at e
  cases q : f g with
  | none => rw [q] at e; cases e
  | some p =>
    rw [q] at e
    refine ⟨F, g, p.1, p.2, rp, q, fun v F1 H1 p1 r1 t1 m1 => ?_⟩
    simp only [Option.bind_some] at e
    split at e
    · rename_i q2
      cases e
      refine ⟨true, truOf (dpMono r1.fh _ _ p1) q2, ?_⟩
      rw [if_pos rfl]
      exact k v F1 H1 p1 r1 t1 m1
    · rename_i q2
      refine ⟨false, truOf (dpMono r1.fh _ _ p1) q2, ?_⟩
      rw [if_neg (by decide)]
      exact ⟨F1, p.2, d, g', r1, e, fun v2 F2 H2 p2 r2 t2 m2 => k v2 F2 H2 p2 r2 (t1.two m1 t2) (m1.trans m2)⟩
    · cases e
theorem de_not {a : Expr} {pos : Pos} {f : Fe} (ha : DB X a f) : DE X (.UnaryOp .Not a pos) (eUn notD f) := peMono (pe_notT ha) fun s H Q h => by
  obtain ⟨F, g, d, g', rp, e, k⟩ := h
  obtain ⟨d1, e1, e2⟩ := eUn_inv e
  refine ⟨F, g, d1, g', rp, e1, fun v1 F1 H1 p1 r1 t1 m1 => ?_⟩
  unfold notD at e2
  cases q : truD d1 with
  | none => rw [q] at e2; cases e2
  | some b =>
    rw [q] at e2; cases e2
    exact ⟨b, truOf (p1.dp r1.fh) q, k _ F1 H1 (.bl _) r1 t1 m1⟩
def eIf (t : Ft) (f h : Fe) : Fe := fun g => (t g).bind fun p => if p.1 = true then f p.2 else h p.2
theorem de_if {c a b : Expr} {pos : Pos} {t : Ft} {f h : Fe} (hc : DT X c t) (ha : DE X a f) (hb : DE X b h) : DE X (.IfExp c a b pos) (eIf t f h) := peMono (pe_ifExp hc ha hb) fun s H Q ⟨F, g, d, g', rp, e, k⟩ => by
  unfold eIf at e
  cases q : t g with
  | none => rw [q] at e; cases e
  | some p =>
    obtain ⟨c, g1⟩ := p
    rw [q] at e
    refine ⟨F, g, c, g1, rp, q, fun F1 H1 r1 t1 m1 => ?_⟩
    have e : (if c = true then f g1 else h g1) = some (d, g') := e
    cases c with
    | true =>
      rw [if_pos rfl] at e
      refine iteT ?_
      exact ⟨F1, g1, d, g', r1, e, fun v F2 H2 p2 r2 t2 m2 => k v F2 H2 p2 r2 (t1.two m1 t2) (m1.trans m2)⟩
    | false =>
      rw [if_neg (by decide)] at e
      refine iteF ?_
      exact ⟨F1, g1, d, g', r1, e, fun v F2 H2 p2 r2 t2 m2 => k v F2 H2 p2 r2 (t1.two m1 t2) (m1.trans m2)⟩
end Dl
set_option Elab.async false
set_option linter.all false
set_option maxRecDepth 100000
namespace Dl
open PySem PySem.Spec PyProof.Rows L2
variable {X : Cx}

/-! ### argument lists -/
def aNil : Fa := fun g => some ([], g)
def aCons (f : Fe) (fs : Fa) : Fa := fun g => (f g).bind fun p => (fs p.2).map fun q => (p.1 :: q.1, q.2)
theorem aCons_inv {f : Fe} {fs : Fa} {g g' : G} {ds : List D} (h : aCons f fs g = some (ds, g')) : ∃ d g1 es, f g = some (d, g1) ∧ fs g1 = some (es, g') ∧ ds = d :: es := by
  unfold aCons at h
  cases q : f g with
  | none => rw [q] at h; cases h
  | some p =>
    rw [q] at h
    have h : (fs p.2).map _ = some (ds, g') := h
    cases q2 : fs p.2 with
    | none => rw [q2] at h; cases h
    | some p2 =>
      rw [q2] at h; cases h
      exact ⟨p.1, p.2, p2.1, rfl, q2, rfl⟩
theorem da_nil : DA X [] aNil := paMono pa_nil fun s H Q ⟨F, g, ds, g', rp, e, k⟩ => by
  cases e
  exact k [] F H .nil rp Stp.refl Mo.refl
theorem da_cons {a : Expr} {es : List Expr} {f : Fe} {fs : Fa} (ha : DE X a f) (hr : DA X es fs) (hs : starEach (a :: es) X.env = (false, eval a X.env) :: starEach es X.env := by rfl) : DA X (a :: es) (aCons f fs) := paMono (pa_cons ha hr hs) fun s H Q ⟨F, g, ds, g', rp, e, k⟩ => by
  obtain ⟨d, g1, es', e1, e2, rfl⟩ := aCons_inv e
  exact ⟨F, g, d, g1, rp, e1, fun v F1 H1 p1 r1 t1 m1 => ⟨F1, g1, es', g', r1, e2, fun vs F2 H2 p2 r2 t2 m2 => k (v :: vs) F2 H2 (.cons (dpMono t2.fs _ _ p1) p2) r2 (t1.two m1 t2) (m1.trans m2)⟩⟩
def LenA (f : Fa) (n : Nat) : Prop := ∀ g ds g', f g = some (ds, g') → ds.length = n
theorem lenNil : LenA aNil 0 := fun g ds g' e => by cases e; rfl
theorem lenCons {f : Fe} {fs : Fa} {n : Nat} (h : LenA fs n) : LenA (aCons f fs) (n + 1) := fun g ds g' e => by
  obtain ⟨d, g1, es', e1, e2, rfl⟩ := aCons_inv e
  simp [h _ _ _ e2]

/-! ### displays -/
def eTup (f : Fa) : Fe := fun g => (f g).map fun p => (.tuple p.1, p.2)
theorem eTup_inv {f : Fa} {g g' : G} {d : D} (h : eTup f g = some (d, g')) : ∃ ds, f g = some (ds, g') ∧ d = .tuple ds := by
  unfold eTup at h
  cases q : f g with
  | none => rw [q] at h; cases h
  | some p => rw [q] at h; cases h; exact ⟨_, rfl, rfl⟩
theorem sl1000 {n : Nat} (h : n ≤ 1000) : n ≤ sizeLine := Nat.le_of_lt (small1000 h)
theorem dpUpd {K : PySem.W.Frag} {F : Hp} {p : Addr} {o : HO} {vs : List V} {ds : List D} (hp : DpAll K F vs ds) (np : F p = none) : DpAll K (upd F p o) vs ds := dpMonos (fun b u e => by rw [upd_ne (ne_of_none e np)]; exact e) _ _ hp
theorem nF {F H : Hp} {p : Addr} (fh : Same F H) (np : H p = none) : F p = none := fh.free np
/-- a new tuple -/
theorem newTup {K : PySem.W.Frag} {F H : Hp} {vs : List V} {ds : List D} {Q : VK} (fh : Same F H) (hp : DpAll K F vs ds) (k : ∀ v F' H', Dp K F' v (.tuple ds) → Same F' H' → Stp Non F H F' H' → Q v H') : ∀ p, H p = none → Q (.ref p) (upd H p (.tup vs)) := fun p np =>
  k (.ref p) (upd F p (.tup vs)) _ (.tup (SqT.of upd_same) (dpUpd hp (nF fh np))) (sameLaid fh np) (Stp.laid np fh)
theorem de_tup {es : List Expr} {k : Nat} {pos : Pos} {f : Fa} {n : Nat} (h : DA X es f) (hl : LenA f n) (hn : n ≤ 1000 := by decide) : DE X (.Tuple es k pos) (eTup f) := peMono (pe_tup h) fun s H Q ⟨F, g, d, g', rp, e, k⟩ => by
  obtain ⟨ds, e1, rfl⟩ := eTup_inv e
  refine ⟨F, g, ds, g', rp, e1, fun vs F1 H1 p1 r1 t1 m1 => ⟨by rw [dpLen p1, hl _ _ _ e1]; exact sl1000 hn, ?_⟩⟩
  exact newTup r1.fh p1 fun v F' H' hv fh st => k v F' H' hv (r1.stepN st fh) (t1.andN st) m1
/-- a list of the frame's own -/
def vLst (f : Fa) : Fv := fun g => (f g).map fun p => (.own none p.1, p.2)
theorem vLst_inv {f : Fa} {g g' : G} {x : Sl} (h : vLst f g = some (x, g')) : ∃ ds, f g = some (ds, g') ∧ x = .own none ds := by
  unfold vLst at h
  cases q : f g with
  | none => rw [q] at h; cases h
  | some p => rw [q] at h; cases h; exact ⟨_, rfl, rfl⟩
/-- a new list: k is what tV asks -/
theorem newLst {K : PySem.W.Frag} {F H F0 H0 : Hp} {g0 g : G} {s : Sg} {vs : List V} {ds : List D} {Q : VK} (r : Rep K F g s H) (hp : DpAll K F vs ds) (t0 : Stp (OwnAt g0 s) F0 H0 F H) (m : Mo g0 g)
    (k : ∀ v F' H', RepS K F' H' (.own none ds) (some v) → (∀ t es, (Sl.own none ds) = .own t es → t = none ∧ ∃ a, v = .ref a ∧ H0 a = none) → Rep K F' g s H' → Stp (OwnAt g0 s) F0 H0 F' H' → Mo g0 g → Q v H') : ∀ p, H p = none → Q (.ref p) (upd H p (.lst vs)) := fun p np => by
  refine k (.ref p) F _ ⟨p, vs, rfl, nF r.fh np, upd_same, hp, fun b e => nomatch e⟩ (fun t es e => ?_) (r.stepN (Stp.made np) (sameMade r.fh np)) (t0.andN (Stp.made np)) m
  cases e
  refine ⟨rfl, p, rfl, ?_⟩
  cases q : H0 p with
  | none => rfl
  | some o => exact absurd np (t0.dom p (by rw [q]; simp))
theorem dv_lst {es : List Expr} {pos : Pos} {f : Fa} {n : Nat} (h : DA X es f) (hl : LenA f n) (hn : n ≤ 1000 := by decide) : DV X (.List es pos) (vLst f) := peMono (pe_lst h) fun s H Q ⟨F, g, d, g', rp, e, k⟩ => by
  obtain ⟨ds, e1, rfl⟩ := vLst_inv e
  refine ⟨F, g, ds, g', rp, e1, fun vs F1 H1 p1 r1 t1 m1 => ⟨by rw [dpLen p1, hl _ _ _ e1]; exact sl1000 hn, ?_⟩⟩
  exact newLst r1 p1 t1 m1 k

/-! ### places -/
def atD : D → D → Option D
  | .list ds, .int i => atI ds i
  | .tuple ds, .int i => atI ds i
  | .str x, .int i => if x.length ≤ sizeLine then (atI x.cps.toList i).map fun c => .str ⟨#[c]⟩ else none
  | _, _ => none
theorem atIV {K : PySem.W.Frag} {H : Hp} {vs : List V} {ds : List D} {i : Int} {d : D} (hp : DpAll K H vs ds) (h : atI ds i = some d) : ∃ v, atI vs i = some v ∧ Dp K H v d := by
  unfold atI at h ⊢
  rw [dpLen hp]
  cases q : ixN ds.length i with
  | none => rw [q] at h; cases h
  | some j =>
    rw [q] at h
    exact dpAt hp h
theorem ok_at : BinOk X.K (rIx X.K) atD := fun x y d1 d2 d F H Q fh p1 p2 e k => by
  unfold atD at e
  split at e
  · rename_i ds i
    cases p1 with
    | lst hs ha =>
      obtain ⟨v, q, hv⟩ := atIV ha e
      exact .inl ⟨_, _, i, v, rfl, intOf p2, fh.seq hs, q, fin0 fh hv k⟩
  · rename_i ds i
    cases p1 with
    | tup hs ha =>
      obtain ⟨v, q, hv⟩ := atIV ha e
      exact .inr (.inl ⟨_, _, i, v, rfl, intOf p2, Same.tupS fh hs, q, fin0 fh hv k⟩)
  · rename_i z i
    split at e
    · rename_i hz
      cases q : atI z.cps.toList i with
      | none => rw [q] at e; cases e
      | some c =>
        rw [q] at e; cases e
        cases p1
        exact .inr (.inr ⟨z, i, c, rfl, intOf p2, hz, q, fin0 fh (.str _) k⟩)
    · cases e
  · cases e
theorem de_ix {a b : Expr} {pos : Pos} {fa fb : Fe} (ha : DE X a fa) (hb : DE X b fb) (hs : PlainIx b := by exact fun _ _ => rfl) : DE X (.Subscript a b pos) (eBin atD fa fb) := peMono (pe_ix ix_seq ha hb hs) fun _ _ _ h => tD_bin ok_at h
/-- of a name: its list is not frozen -/
def slD : Option Sl → Option D
  | some (.v d) => some d
  | some (.own _ ds) => some (.list ds)
  | _ => none
def eIxV (i : Nat) (fb : Fe) : Fe := fun g => (slD (g[i]?)).bind fun _ => (fb g).bind fun q => (slD (q.2[i]?)).bind fun b => (atD b q.1).map fun d => (d, q.2)
theorem slGet {K : PySem.W.Frag} {F H : Hp} {g : G} {s : Sg} {i : Nat} {d : D} (r : Rep K F g s H) (h : slD g[i]? = some d) : ∃ x v, g[i]? = some x ∧ s[i]? = some (some v) ∧ RepS K F H x (some v) := by
  cases z : g[i]? with
  | none => rw [z] at h; cases h
  | some x =>
    rw [z] at h
    obtain ⟨o, ho, hx⟩ := r.get z
    cases x with
    | no => cases h
    | v d0 =>
      obtain ⟨y, rfl, hy⟩ := hx
      exact ⟨_, y, rfl, ho, y, rfl, hy⟩
    | own tg ds =>
      obtain ⟨a, xs, rfl, q⟩ := hx
      exact ⟨_, .ref a, rfl, ho, a, xs, rfl, q⟩
theorem eIxV_inv {i : Nat} {fb : Fe} {g g' : G} {d : D} (h : eIxV i fb g = some (d, g')) : ∃ d0 d1 b, slD g[i]? = some d0 ∧ fb g = some (d1, g') ∧ slD g'[i]? = some b ∧ atD b d1 = some d := by
  unfold eIxV at h
  cases q0 : slD g[i]? with
  | none => rw [q0] at h; cases h
  | some d0 =>
    rw [q0] at h
    have h : (fb g).bind _ = some (d, g') := h
    cases q : fb g with
    | none => rw [q] at h; cases h
    | some p =>
      obtain ⟨d1, g1⟩ := p
      rw [q] at h
      have h : (slD g1[i]?).bind _ = some (d, g') := h
      cases q2 : slD g1[i]? with
      | none => rw [q2] at h; cases h
      | some b0 =>
        rw [q2] at h
        have h : (atD b0 d1).map _ = some (d, g') := h
        cases q3 : atD b0 d1 with
        | none => rw [q3] at h; cases h
        | some d3 =>
          rw [q3] at h; cases h
          exact ⟨d0, d1, b0, rfl, rfl, q2, q3⟩
theorem de_ixV (i : Nat) {b : Expr} {pos pos' : Pos} {x : Str} {fb : Fe} (hb : DE X b fb) (hN : X.N[i]? = some x := by rfl) (hv : Vis X.env.scope x := by first | exact Or.inl rfl | exact Or.inr (Or.inl rfl) | exact Or.inr (Or.inr rfl)) (hd : (x == ("__debug__" : Str)) = false := by decide)
    (hcd : (x == ("__classdict__" : Str)) = false := by decide) (hs : PlainIx b := by exact fun _ _ => rfl) : DE X (.Subscript (.Name x pos') b pos) (eIxV i fb) := peMono (pe_ix ix_seq (pe_var hN hv hd hcd) hb hs) fun s H Q ⟨F, g, d, g', rp, e, k⟩ => by
  obtain ⟨d0, d1, b0, q0, q1, q2, q3⟩ := eIxV_inv e
  obtain ⟨_, v, _, hv, _⟩ := slGet rp q0
  refine ⟨v, hv, F, g, d1, g', rp, q1, fun v1 F1 H1 p1 r1 t1 m1 => ?_⟩
  obtain ⟨x0, v0, hx0, hv0, hx⟩ := slGet r1 q2
  rw [hv] at hv0; cases hv0
  rw [hx0] at q2
  cases x0 with
  | no => cases q2
  | v d0 =>
    cases q2
    obtain ⟨y, ey, hy⟩ := hx
    cases ey
    exact ok_at v v1 _ d1 d F1 H1 Q r1.fh hy p1 q3 fun v F3 H3 p3 fh t3 => k v F3 H3 p3 (r1.stepN t3 fh) (t1.andN t3) m1
  | own tg ds =>
    cases q2
    obtain ⟨a, xs, ey, fa, ha, hy, _⟩ := hx
    cases ey
    cases p1 with
    | int j =>
      obtain ⟨w, qw, hw⟩ := atIV hy (show atI ds j = some d from q3)
      exact .inl ⟨a, xs, j, w, rfl, rfl, SqL.of ha, qw, k w F1 H1 hw r1 t1 m1⟩
    | _ => cases q3

/-! ### slices -/
abbrev Fo := G → Option (Option Int × G)
def tO (K : PySem.W.Frag) (f : Fo) : TO := fun s H Q => ∃ F g b g', Rep K F g s H ∧ f g = some (b, g') ∧
  ∀ F' H', Rep K F' g' s H' → Stp (OwnAt g s) F H F' H' → Mo g g' → Q b H'
def DO (X : Cx) (e : Option Expr) (f : Fo) : Prop := PO X e (tO X.K f)
def oNone : Fo := fun g => some (none, g)
def oSome (f : Fe) : Fo := fun g => match f g with
  | some (.int i, g') => some (some i, g')
  | _ => none
theorem poMono {e : Option Expr} {t t' : TO} (h : PO X e t) (m : ∀ s H Q, t' s H Q → t s H Q) : PO X e t' := ⟨fun pins st s H Q I w => h.run pins st s H Q I (m s H Q w)⟩
theorem do_none : DO X none oNone := poMono po_none fun s H Q ⟨F, g, d, g', rp, e, k⟩ => by
  cases e
  exact k F H rp Stp.refl Mo.refl
theorem do_some {a : Expr} {f : Fe} (h : DE X a f) : DO X (some a) (oSome f) := poMono (po_some h) fun s H Q ⟨F, g, d, g', rp, e, k⟩ => by
  unfold oSome at e
  split at e
  · rename_i i g1 q
    cases e
    exact ⟨F, g, _, _, rp, q, fun v F1 H1 p1 r1 t1 m1 => ⟨i, intOf p1, k F1 H1 r1 t1 m1⟩⟩
  · cases e
/-- the items of xs[lo:hi] -/
def cutL {α : Type} (xs : List α) (lo hi : Option Int) : List α := (xs.drop (HT.sIx xs.length 0 lo)).take (HT.sIx xs.length xs.length hi - HT.sIx xs.length 0 lo)
theorem dpCut {K : PySem.W.Frag} {H : Hp} {vs : List V} {ds : List D} {lo hi : Option Int} (h : DpAll K H vs ds) : DpAll K H (cutV vs lo hi) (cutL ds lo hi) := by
  unfold cutV cutL
  rw [dpLen h]
  exact dpTake _ (dpDrop _ h)
def eSl (fa : Fe) (fl fh : Fo) : Fe := fun g => (fa g).bind fun p => (fl p.2).bind fun l => (fh l.2).bind fun h => match p.1 with
  | .tuple ds => some (.tuple (cutL ds l.1 h.1), h.2)
  | _ => none
theorem cut_whole {α : Type} {xs : List α} {lo hi : Option Int} (h1 : HT.sIx xs.length 0 lo = 0) (h2 : HT.sIx xs.length xs.length hi = xs.length) : cutL xs lo hi = xs := by
  unfold cutL
  rw [h1, h2]
  simp
theorem de_slT {a : Expr} {lo hi : Option Expr} {p2 pos : Pos} {fa : Fe} {fl fh : Fo} (ha : DE X a fa) (hl : DO X lo fl) (hu : DO X hi fh) : DE X (.Subscript a (.Slice lo hi none p2) pos) (eSl fa fl fh) := peMono (pe_slice sl_tupA ha hl hu) fun s H Q ⟨F, g, d, g', rp, e, k⟩ => by
  unfold eSl at e
  cases q : fa g with
  | none => rw [q] at e; cases e
  | some p =>
    rw [q] at e
    have e : (fl p.2).bind _ = some (d, g') := e
    cases q2 : fl p.2 with
    | none => rw [q2] at e; cases e
    | some l =>
      rw [q2] at e
      have e : (fh l.2).bind _ = some (d, g') := e
      cases q3 : fh l.2 with
      | none => rw [q3] at e; cases e
      | some h =>
        rw [q3] at e
        obtain ⟨d1, g1⟩ := p
        obtain ⟨l, g2⟩ := l
        obtain ⟨h, g3⟩ := h
        cases d1 with
        | tuple ds =>
          cases e
          refine ⟨F, g, _, g1, rp, q, fun v F1 H1 p1 r1 t1 m1 => ⟨F1, g1, l, g2, r1, q2, fun F2 H2 r2 t2 m2 => ⟨F2, g2, h, g3, r2, q3, fun F3 H3 r3 t3 m3 => ?_⟩⟩⟩
          have p3 := dpMono (t2.fs.trans t3.fs) _ _ p1
          have tt := (t1.two m1 t2).two (m1.trans m2) t3
          have mm := (m1.trans m2).trans m3
          cases p3 with
          | tup hs hp =>
            refine ⟨_, _, rfl, Same.tupS r3.fh hs, fun hw => ?_, fun _ => newTup r3.fh (dpCut hp) fun v F' H' hv fh st => k v F' H' hv (r3.stepN st fh) (tt.andN st) mm⟩
            rw [dpLen hp] at hw
            exact k _ F3 H3 (.tup hs (by rw [cut_whole hw.1 hw.2]; exact hp)) r3 tt mm
        | _ => cases e
def vSl (fa : Fe) (fl fh : Fo) : Fv := fun g => (fa g).bind fun p => (fl p.2).bind fun l => (fh l.2).bind fun h => match p.1 with
  | .list ds => some (.own none (cutL ds l.1 h.1), h.2)
  | _ => none
theorem dv_slL {a : Expr} {lo hi : Option Expr} {p2 pos : Pos} {fa : Fe} {fl fh : Fo} (ha : DE X a fa) (hl : DO X lo fl) (hu : DO X hi fh) : DV X (.Subscript a (.Slice lo hi none p2) pos) (vSl fa fl fh) := peMono (pe_slice sl_list ha hl hu) fun s H Q ⟨F, g, d, g', rp, e, k⟩ => by
  unfold vSl at e
  cases q : fa g with
  | none => rw [q] at e; cases e
  | some p =>
    rw [q] at e
    have e : (fl p.2).bind _ = some (d, g') := e
    cases q2 : fl p.2 with
    | none => rw [q2] at e; cases e
    | some l =>
      rw [q2] at e
      have e : (fh l.2).bind _ = some (d, g') := e
      cases q3 : fh l.2 with
      | none => rw [q3] at e; cases e
      | some h =>
        rw [q3] at e
        obtain ⟨d1, g1⟩ := p
        obtain ⟨l, g2⟩ := l
        obtain ⟨h, g3⟩ := h
        cases d1 with
        | list ds =>
          cases e
          refine ⟨F, g, _, g1, rp, q, fun v F1 H1 p1 r1 t1 m1 => ⟨F1, g1, l, g2, r1, q2, fun F2 H2 r2 t2 m2 => ⟨F2, g2, h, g3, r2, q3, fun F3 H3 r3 t3 m3 => ?_⟩⟩⟩
          have p3 := dpMono (t2.fs.trans t3.fs) _ _ p1
          have tt := (t1.two m1 t2).two (m1.trans m2) t3
          have mm := (m1.trans m2).trans m3
          cases p3 with
          | lst hs hp => exact ⟨_, _, rfl, r3.fh.seq hs, newLst r3 (dpCut hp) tt mm k⟩
        | _ => cases e

/-! ### + and * of sequences -/
def catTD : D → D → Option D
  | .tuple xs, .tuple ys => if xs.length + ys.length ≤ 1000000 then some (.tuple (xs ++ ys)) else none
  | _, _ => none
theorem million : (1000000 : Nat) ≤ sizeLine := by rw [sizeLine_eq]; decide
theorem dpNil {K : PySem.W.Frag} {F : Hp} {xs : List V} {ds : List D} (h : DpAll K F xs ds) (e : xs = []) : ds = [] := by
  subst e; cases h; rfl
theorem ok_catT : BinOk X.K (rCatA X.K) catTD := fun x y d1 d2 d F H Q fh p1 p2 e k => by
  unfold catTD at e
  split at e
  · rename_i xs ys
    split at e
    · rename_i hz
      cases e
      cases p1 with
      | tup hs ha =>
        cases p2 with
        | tup hs2 hb =>
          refine ⟨_, _, _, _, rfl, rfl, Same.tupS fh hs, Same.tupS fh hs2, by rw [dpLen ha, dpLen hb]; exact Nat.le_trans hz million, fun z => ?_, fun _ z => ?_, fun _ _ => newTup fh (dpApp ha hb) k⟩
          · have z1 := dpNil ha z
            subst z1
            exact k _ F H (.tup hs2 hb) fh Stp.refl
          · have z1 := dpNil hb z
            subst z1
            rw [List.append_nil] at k
            exact k _ F H (.tup hs ha) fh Stp.refl
    · cases e
  · cases e
theorem de_catT {a b : Expr} {pos : Pos} {fa fb : Fe} (ha : DE X a fa) (hb : DE X b fb) : DE X (.BinOp a .Add b pos) (eBin catTD fa fb) := de_op op_catA ok_catT ha hb
def catSD : D → D → Option D
  | .str xs, .str ys => if xs.length + ys.length ≤ sizeLine then some (.str (xs ++ ys)) else none
  | _, _ => none
theorem ok_catS : BinOk X.K (fun x y H Q => ∃ i j, x = .str i ∧ y = .str j ∧ i.length + j.length ≤ sizeLine ∧ Q (.str (i ++ j)) H) catSD := fun x y d1 d2 d F H Q fh p1 p2 e k => by
  unfold catSD at e
  split at e
  · rename_i xs ys
    split at e
    · rename_i hz
      cases e
      cases p1; cases p2
      exact ⟨_, _, rfl, rfl, hz, fin0 fh (.str _) k⟩
    · cases e
  · cases e
theorem de_catS {a b : Expr} {pos : Pos} {fa fb : Fe} (ha : DE X a fa) (hb : DE X b fb) : DE X (.BinOp a .Add b pos) (eBin catSD fa fb) := de_op op_add_str ok_catS ha hb
/-- two new lists one behind the other -/
def vCat (fa fb : Fv) : Fv := fun g => (fa g).bind fun p => (fb p.2).bind fun q => match p.1, q.1 with
  | .own none xs, .own none ys => if xs.length + ys.length ≤ 1000000 then some (.own none (xs ++ ys), q.2) else none
  | _, _ => none
theorem dv_cat {a b : Expr} {pos : Pos} {fa fb : Fv} (ha : DV X a fa) (hb : DV X b fb) : DV X (.BinOp a .Add b pos) (vCat fa fb) := peMono (pe_op op_cat ha hb) fun s H Q ⟨F, g, d, g', rp, e, k⟩ => by
  unfold vCat at e
  cases q : fa g with
  | none => rw [q] at e; cases e
  | some p =>
    rw [q] at e
    have e : (fb p.2).bind _ = some (d, g') := e
    cases q2 : fb p.2 with
    | none => rw [q2] at e; cases e
    | some l =>
      rw [q2] at e
      obtain ⟨d1, g1⟩ := p
      obtain ⟨d2, g2⟩ := l
      simp only [Option.bind_some] at e
      split at e
      · rename_i xs ys
        split at e
        · rename_i hz
          cases e
          refine ⟨F, g, _, g1, rp, q, fun v F1 H1 p1 n1 r1 t1 m1 => ⟨F1, g1, _, _, r1, q2, fun v2 F2 H2 p2 n2 r2 t2 m2 => ?_⟩⟩
          obtain ⟨a1, vs1, e1, f1, h1, dp1, _⟩ := p1
          obtain ⟨a2, vs2, e2, f2, h2, dp2, _⟩ := p2
          cases e1; cases e2
          obtain ⟨_, _, ea, na⟩ := n1 _ _ rfl
          cases ea
          have h1' : H2 a1 = some (.lst vs1) := t2.keep _ _ h1 fun z => by
            obtain ⟨i, tg, es, w1, w2⟩ := m1.own z
            obtain ⟨o, ho, a3, ys3, eo, _, ha3, _⟩ := rp.get w1
            rw [w2] at ho; cases ho; cases eo
            rw [na] at ha3; cases ha3
          exact ⟨a1, a2, vs1, vs2, rfl, rfl, h1', h2, by rw [dpLen dp1, dpLen dp2]; exact Nat.le_trans hz million, newLst r2 (dpApp (dpMonos t2.fs _ _ dp1) dp2) (t1.two m1 t2) (m1.trans m2) k⟩
        · cases e
      · cases e
theorem dpRep {K : PySem.W.Frag} {H : Hp} {vs : List V} {ds : List D} (h : DpAll K H vs ds) : ∀ n : Nat, DpAll K H (List.replicate n vs).flatten (List.replicate n ds).flatten
  | 0 => .nil
  | n + 1 => by
    rw [List.replicate_succ, List.replicate_succ, List.flatten_cons, List.flatten_cons]
    exact dpApp h (dpRep h n)
/-- [..] * n -/
def vRep (fa : Fv) (fb : Fe) : Fv := fun g => (fa g).bind fun p => (fb p.2).bind fun q => match p.1, q.1 with
  | .own none xs, .int k => if -1000000 ≤ k ∧ k ≤ 1000000 ∧ xs.length * k.toNat ≤ 1000000 then some (.own none (List.replicate k.toNat xs).flatten, q.2) else none
  | _, _ => none
theorem dv_rep {a b : Expr} {pos : Pos} {fa : Fv} {fb : Fe} (ha : DV X a fa) (hb : DE X b fb) : DV X (.BinOp a .Mult b pos) (vRep fa fb) := peMono (pe_op op_rep ha hb) fun s H Q ⟨F, g, d, g', rp, e, k⟩ => by
  unfold vRep at e
  cases q : fa g with
  | none => rw [q] at e; cases e
  | some p =>
    rw [q] at e
    have e : (fb p.2).bind _ = some (d, g') := e
    cases q2 : fb p.2 with
    | none => rw [q2] at e; cases e
    | some l =>
      rw [q2] at e
      obtain ⟨d1, g1⟩ := p
      obtain ⟨d2, g2⟩ := l
      simp only [Option.bind_some] at e
      split at e
      · rename_i xs n
        split at e
        · rename_i hz
          cases e
          refine ⟨F, g, _, g1, rp, q, fun v F1 H1 p1 n1 r1 t1 m1 => ⟨F1, g1, _, _, r1, q2, fun v2 F2 H2 p2 r2 t2 m2 => ?_⟩⟩
          obtain ⟨a1, vs1, e1, f1, h1, dp1, _⟩ := p1
          cases e1
          obtain ⟨_, _, ea, na⟩ := n1 _ _ rfl
          cases ea
          have h1' : H2 a1 = some (.lst vs1) := t2.keep _ _ h1 fun z => by
            obtain ⟨i, tg, es, w1, w2⟩ := m1.own z
            obtain ⟨o, ho, a3, ys3, eo, _, ha3, _⟩ := rp.get w1
            rw [w2] at ho; cases ho; cases eo
            rw [na] at ha3; cases ha3
          exact ⟨a1, _, vs1, rfl, intOf p2, h1', by omega, by omega, by rw [dpLen dp1]; exact Nat.le_trans hz.2.2 million, newLst r2 (dpRep (dpMonos t2.fs _ _ dp1) _) (t1.two m1 t2) (m1.trans m2) k⟩
        · cases e
      · cases e
end Dl
set_option Elab.async false
set_option linter.all false
set_option maxRecDepth 100000
namespace Dl
open PySem PySem.Spec PyProof.Rows L2
variable {X : Cx}

/-! ### from one state to a later one -/
structure Tr (K : PySem.W.Frag) (F : Hp) (g : G) (s : Sg) (H : Hp) (F' : Hp) (g' : G) (s' : Sg) (H' : Hp) : Prop where
  rep : Rep K F' g' s' H'
  stp : Stp (OwnAt g s) F H F' H'
  own : ∀ b, OwnAt g' s' b → OwnAt g s b ∨ H b = none
section
variable {K : PySem.W.Frag} {F H F1 H1 F2 H2 F3 H3 : Hp} {g g1 g2 g3 : G} {s s1 s2 s3 : Sg}
theorem Tr.refl (r : Rep K F g s H) : Tr K F g s H F g s H := ⟨r, Stp.refl, fun _ h => .inl h⟩
theorem Tr.of (r : Rep K F1 g1 s H1) (t : Stp (OwnAt g s) F H F1 H1) (m : Mo g g1) : Tr K F g s H F1 g1 s H1 := ⟨r, t, fun _ h => .inl (m.own h)⟩
theorem Tr.trans (a : Tr K F g s H F1 g1 s1 H1) (b : Tr K F1 g1 s1 H1 F2 g2 s2 H2) : Tr K F g s H F2 g2 s2 H2 := ⟨b.rep, a.stp.trans b.stp a.own, fun x h => by
  rcases b.own x h with q | q
  · exact a.own x q
  · right
    cases z : H x with
    | none => rfl
    | some o => exact absurd q (a.stp.dom x (by rw [z]; simp))⟩
theorem Tr.free (a : Tr K F g s H F1 g1 s1 H1) {b : Addr} (h : H1 b = none) : H b = none := by
  cases z : H b with
  | none => rfl
  | some o => exact absurd h (a.stp.dom b (by rw [z]; simp))
theorem Rep.ownSome (r : Rep K F g s H) {b : Addr} (h : OwnAt g s b) : ∃ xs, H b = some (.lst xs) ∧ F b = none := by
  obtain ⟨i, t, ds, e, q⟩ := h
  obtain ⟨o, ho, a, xs, eo, fa, ha, _⟩ := r.get e
  rw [q] at ho; cases ho; cases eo
  exact ⟨xs, ha, fa⟩
/-- a slot is set to data -/
theorem Rep.setV (r : Rep K F g s H) (i : Nat) {v : V} {d : D} (h : Dp K F v d) : Tr K F g s H F (g.set i (.v d)) (s.set i (some v)) H :=
  ⟨r.put i _ _ ⟨v, rfl, h⟩ (fun _ _ _ e => nomatch e), Stp.refl, fun b hb => by
    rcases ownIn hb r.len with q | ⟨_, _, e, _⟩
    · exact .inl q
    · cases e⟩
/-- a slot is set to a new list -/
theorem Rep.setO (r : Rep K F g s H) (i : Nat) {a : Addr} {xs : List V} {ds : List D} (fa : F a = none) (ha : H a = some (.lst xs)) (h : DpAll K F xs ds) (n : ¬ OwnAt g s a) : Rep K F (g.set i (.own none ds)) (s.set i (some (.ref a))) H :=
  r.put i _ _ ⟨a, xs, rfl, fa, ha, h, fun b e => nomatch e⟩ (fun _ _ b _ e => by cases e; exact n)
/-- a list of the frame's own is changed -/
theorem Rep.turn (r : Rep K F g s H) {i : Nat} {t : Option Addr} {ds es : List D} {a : Addr} {ys : List V} (hg : g[i]? = some (.own t ds)) (hs : s[i]? = some (some (.ref a))) (h : DpAll K F ys es) :
    Tr K F g s H F (g.set i (.own t es)) s (upd H a (.lst ys)) := by
  obtain ⟨o, ho, a', xs, eo, fa, ha, hp, ht⟩ := r.get hg
  rw [hs] at ho; cases ho; cases eo
  have hi : i < g.length := (List.getElem?_eq_some_iff.mp hg).1
  have fh : Same F (upd H a (.lst ys)) := fun b u e => by
    rw [upd_ne (ne_of_none e fa)]; exact r.fh b u e
  have t1 : Stp (fun b => b = a) F H F (upd H a (.lst ys)) := ⟨.refl _, fun b o e n => by rw [upd_ne n]; exact e, fun b e e' => absurd e e', fun b e => by
    by_cases z : b = a
    · rw [z, upd_same]; simp
    · rw [upd_ne z]; exact e⟩
  have r0 : Rep K F (g.set i .no) s H := by
    have := r.put i .no (some (.ref a)) trivial (fun _ _ _ e => nomatch e)
    rwa [setSelf hs] at this
  have n0 : ¬ OwnAt (g.set i .no) s a := fun ⟨j, tg, es, e1, e2⟩ => by
    by_cases z : i = j
    · subst z; rw [List.getElem?_set_self hi] at e1; cases e1
    · rw [List.getElem?_set_ne z] at e1
      exact z (r.uq i j a t tg ds es hg e1 hs e2)
  have r1 : Rep K F (g.set i .no) s (upd H a (.lst ys)) := r0.step t1 (fun b hb z => n0 (by rw [← z]; exact hb)) fh
  have r2 : Rep K F (g.set i (.own t es)) s (upd H a (.lst ys)) := by
    have := r1.put i (.own t es) (some (.ref a)) ⟨a, ys, rfl, fa, upd_same, h, ht⟩ (fun _ _ b _ e => by cases e; exact n0)
    rwa [setSelf hs, List.set_set] at this
  refine ⟨r2, t1.weak fun b z => by rw [z]; exact ⟨i, t, ds, hg, hs⟩, fun b hb => .inl ?_⟩
  have e := setSelf hs
  rw [← e] at hb
  rcases ownIn hb r.len with q | ⟨_, _, _, e2⟩
  · exact q
  · cases e2; exact ⟨i, t, ds, hg, hs⟩
end

/-! ### statements -/
inductive Out where
  | nx (g : G) | bk (g : G) | ct (g : G) | ret (x : Sl) (g : G)
abbrev Fs := G → Option Out
/-- what is known of a value that a def hands back -/
def RetOk (H : Hp) (g : G) (s : Sg) (g' : G) (s' : Sg) (x : Sl) (v : V) : Prop := ∀ t ds, x = .own t ds → t = none ∧ ∃ a, v = .ref a ∧ (H a = none ∨ OwnAt g s a) ∧ ¬ OwnAt g' s' a
def endS (K : PySem.W.Frag) (F : Hp) (g : G) (s : Sg) (H : Hp) (D : Ends) : Out → Prop
  | .nx g' => ∀ F' s' H', Tr K F g s H F' g' s' H' → D.nx s' H'
  | .bk g' => ∀ F' s' H', Tr K F g s H F' g' s' H' → D.bk s' H'
  | .ct g' => ∀ F' s' H', Tr K F g s H F' g' s' H' → D.ct s' H'
  | .ret x g' => ∀ v F' s' H', RepS K F' H' x (some v) → x ≠ .no → RetOk H g s g' s' x v → Tr K F g s H F' g' s' H' → D.rt v H'
def tS (K : PySem.W.Frag) (f : Fs) : TS := fun D s H => ∃ F g o, Rep K F g s H ∧ f g = some o ∧ endS K F g s H D o
def DS (X : Cx) (st : Stmt) (f : Fs) : Prop := PS X st (tS X.K f)
def DSs (X : Cx) (st : List Stmt) (f : Fs) : Prop := PSs X st (tS X.K f)
theorem RetOk.back {K : PySem.W.Frag} {F H F1 H1 : Hp} {g g1 g2 : G} {s s1 s2 : Sg} {x : Sl} {v : V} (h : RetOk H1 g1 s1 g2 s2 x v) (t : Tr K F g s H F1 g1 s1 H1) : RetOk H g s g2 s2 x v := fun tg ds e => by
  obtain ⟨e1, a, e2, q, n⟩ := h tg ds e
  refine ⟨e1, a, e2, ?_, n⟩
  rcases q with q | q
  · exact .inl (t.free q)
  · exact (t.own a q).symm.imp id id
/-- an end seen from an earlier state -/
theorem endS.back {K : PySem.W.Frag} {F H F1 H1 : Hp} {g g1 : G} {s s1 : Sg} {D : Ends} {o : Out} (t : Tr K F g s H F1 g1 s1 H1) (h : endS K F g s H D o) : endS K F1 g1 s1 H1 D o := by
  cases o with
  | nx g' => exact fun F' s' H' t' => h F' s' H' (t.trans t')
  | bk g' => exact fun F' s' H' t' => h F' s' H' (t.trans t')
  | ct g' => exact fun F' s' H' t' => h F' s' H' (t.trans t')
  | ret x g' => exact fun v F' s' H' a n b t' => h v F' s' H' a n (b.back t) (t.trans t')

def sNil : Fs := fun g => some (.nx g)
def sSeq (f h : Fs) : Fs := fun g => (f g).bind fun o => match o with
  | .nx g1 => h g1
  | o => some o
theorem dss_nil : DSs X [] sNil := pssMono pss_nil fun D s H ⟨F, g, o, r, e, k⟩ => by
  cases e
  exact k F s H (Tr.refl r)
theorem dss_cons {st : Stmt} {rest : List Stmt} {f h : Fs} (h1 : DS X st f) (h2 : DSs X rest h) : DSs X (st :: rest) (sSeq f h) := pssMono (pss_cons h1 h2) fun D s H ⟨F, g, o, r, e, k⟩ => by
  unfold sSeq at e
  cases q : f g with
  | none => rw [q] at e; cases e
  | some o1 =>
    rw [q] at e
    refine ⟨F, g, o1, r, q, ?_⟩
    cases o1 with
    | nx g1 => exact fun F1 s1 H1 t1 => ⟨F1, g1, o, t1.rep, e, k.back t1⟩
    | bk g1 => cases e; exact k
    | ct g1 => cases e; exact k
    | ret x g1 => cases e; exact k
theorem dss_one {st : Stmt} {f : Fs} (h : DS X st f) : DSs X [st] f := pss_one h
/-- code that is never come to -/
def sNo : Fs := fun _ => none
theorem ds_no {st : Stmt} : DS X st sNo := psMono ps_never fun D s H ⟨F, g, o, r, e, k⟩ => nomatch e
theorem dss_no {st : List Stmt} : DSs X st sNo := pssMono pss_never fun D s H ⟨F, g, o, r, e, k⟩ => nomatch e
theorem ds_pass {pos : Pos} : DS X (.Pass pos) sNil := psMono ps_pass fun D s H ⟨F, g, o, r, e, k⟩ => by
  cases e
  exact k F s H (Tr.refl r)
def sBk : Fs := fun g => some (.bk g)
def sCt : Fs := fun g => some (.ct g)
theorem ds_break {pos : Pos} : DS X (.Break pos) sBk := psMono ps_break fun D s H ⟨F, g, o, r, e, k⟩ => by
  cases e
  exact k F s H (Tr.refl r)
theorem ds_continue {pos : Pos} : DS X (.Continue pos) sCt := psMono ps_continue fun D s H ⟨F, g, o, r, e, k⟩ => by
  cases e
  exact k F s H (Tr.refl r)
def sIf (t : Ft) (f h : Fs) : Fs := fun g => (t g).bind fun p => if p.1 = true then f p.2 else h p.2
theorem ds_if {c : Expr} {a b : List Stmt} {pos : Pos} {t : Ft} {f h : Fs} (hc : DT X c t) (ha : DSs X a f) (hb : DSs X b h) : DS X (.If c a b pos) (sIf t f h) := psMono (ps_if hc ha hb) fun D s H ⟨F, g, o, r, e, k⟩ => by
  unfold sIf at e
  cases q : t g with
  | none => rw [q] at e; cases e
  | some p =>
    obtain ⟨c, g1⟩ := p
    rw [q] at e
    refine ⟨F, g, c, g1, r, q, fun F1 H1 r1 t1 m1 => ?_⟩
    have e : (if c = true then f g1 else h g1) = some o := e
    have tr := Tr.of r1 t1 m1
    cases c with
    | true =>
      rw [if_pos rfl] at e
      refine iteT ?_
      exact ⟨F1, g1, o, r1, e, k.back tr⟩
    | false =>
      rw [if_neg (by decide)] at e
      refine iteF ?_
      exact ⟨F1, g1, o, r1, e, k.back tr⟩
/-- e; -/
def sEx (f : Fe) : Fs := fun g => (f g).map fun p => .nx p.2
theorem ds_expr {a : Expr} {pos : Pos} {f : Fe} (h : DE X a f) (hs : swapsWith a none pos.line X.env = pure false := by rfl) : DS X (.Expr a pos) (sEx f) := psMono (ps_expr h hs) fun D s H ⟨F, g, o, r, e, k⟩ => by
  unfold sEx at e
  cases q : f g with
  | none => rw [q] at e; cases e
  | some p =>
    rw [q] at e; cases e
    exact ⟨F, g, p.1, p.2, r, q, fun v F1 H1 _ r1 t1 m1 => k F1 s H1 (Tr.of r1 t1 m1)⟩
/-- return e -/
def sRet (f : Fv) : Fs := fun g => (f g).bind fun p => match p.1 with
  | .no => none
  | x => some (.ret x p.2)
theorem ds_ret {a : Expr} {pos : Pos} {f : Fv} (h : DV X a f) : DS X (.Return (some a) pos) (sRet f) := psMono (ps_ret h) fun D s H ⟨F, g, o, r, e, k⟩ => by
  unfold sRet at e
  cases q : f g with
  | none => rw [q] at e; cases e
  | some p =>
    obtain ⟨x, g1⟩ := p
    rw [q] at e
    refine ⟨F, g, x, g1, r, q, fun v F1 H1 hv hn r1 t1 m1 => ?_⟩
    cases x with
    | no => cases e
    | v d =>
      cases e
      exact k v F1 s H1 hv (fun z => nomatch z) (fun _ _ z => nomatch z) (Tr.of r1 t1 m1)
    | own tg ds =>
      cases e
      refine k v F1 s H1 hv (fun z => nomatch z) (fun _ _ z => ?_) (Tr.of r1 t1 m1)
      obtain ⟨e1, a, e2, na⟩ := hn _ _ z
      refine ⟨e1, a, e2, .inl na, fun w => ?_⟩
      obtain ⟨xs, hx, _⟩ := r.ownSome (m1.own w)
      rw [na] at hx; cases hx
def sRetN : Fs := fun g => some (.ret (.v .none) g)
theorem ds_retN {pos : Pos} : DS X (.Return none pos) sRetN := psMono ps_retN fun D s H ⟨F, g, o, r, e, k⟩ => by
  cases e
  exact k .non F s H ⟨_, rfl, .non⟩ (fun z => nomatch z) (fun _ _ z => nomatch z) (Tr.refl r)
/-- return name, the name's list goes to the caller -/
def sRetV (i : Nat) : Fs := fun g => match g[i]? with
  | some (.v d) => some (.ret (.v d) g)
  | some (.own none ds) => some (.ret (.own none ds) (g.set i .no))
  | _ => none
theorem ds_retV (i : Nat) {x : Str} {pos pos' : Pos} (hN : X.N[i]? = some x := by rfl) (hv : Vis X.env.scope x := by first | exact Or.inl rfl | exact Or.inr (Or.inl rfl) | exact Or.inr (Or.inr rfl)) (hd : (x == ("__debug__" : Str)) = false := by decide)
    (hcd : (x == ("__classdict__" : Str)) = false := by decide) : DS X (.Return (some (.Name x pos')) pos) (sRetV i) := psMono (ps_ret (pe_var hN hv hd hcd)) fun D s H ⟨F, g, o, r, e, k⟩ => by
  unfold sRetV at e
  split at e
  · rename_i d hg
    cases e
    obtain ⟨o, ho, v, rfl, hp⟩ := r.get hg
    exact ⟨v, ho, k v F s H ⟨v, rfl, hp⟩ (fun z => nomatch z) (fun _ _ z => nomatch z) (Tr.refl r)⟩
  · rename_i ds hg
    cases e
    obtain ⟨o, ho, a, xs, rfl, fa, ha, hp, ht⟩ := r.get hg
    have hi : i < g.length := (List.getElem?_eq_some_iff.mp hg).1
    have r0 : Rep X.K F (g.set i .no) s H := by
      have := r.put i .no (some (.ref a)) trivial (fun _ _ _ e => nomatch e)
      rwa [setSelf ho] at this
    have n0 : ¬ OwnAt (g.set i .no) s a := fun ⟨j, tg, es, e1, e2⟩ => by
      by_cases z : i = j
      · subst z; rw [List.getElem?_set_self hi] at e1; cases e1
      · rw [List.getElem?_set_ne z] at e1
        exact z (r.uq i j a none tg ds es hg e1 ho e2)
    refine ⟨_, ho, k _ F s H ⟨a, xs, rfl, fa, ha, hp, ht⟩ (fun z => nomatch z) (fun _ _ z => ?_) ⟨r0, Stp.refl, fun b hb => .inl ?_⟩⟩
    · cases z
      exact ⟨rfl, a, rfl, .inr ⟨i, none, ds, hg, ho⟩, n0⟩
    · rw [← setSelf ho] at hb
      rcases ownIn hb r.len with q | ⟨_, _, e2, _⟩
      · exact q
      · cases e2
  · cases e

/-! ### assignments -/
/-- name = e -/
def setOut (i : Nat) (x : Sl) (g : G) : Option Out := match x with
  | .v d => some (.nx (g.set i (.v d)))
  | .own none ds => some (.nx (g.set i (.own none ds)))
  | _ => none
def sSet (i : Nat) (f : Fv) : Fs := fun g => (f g).bind fun p => setOut i p.1 p.2
theorem set_end {K : PySem.W.Frag} {F H F1 H1 : Hp} {g g1 : G} {s : Sg} {x : Sl} {v : V} {i : Nat} {o : Out} {D : Ends} (r : Rep K F g s H) (r1 : Rep K F1 g1 s H1) (t1 : Stp (OwnAt g s) F H F1 H1) (m1 : Mo g g1) (hv : RepS K F1 H1 x (some v))
    (hn : ∀ t ds, x = .own t ds → t = none ∧ ∃ a, v = .ref a ∧ H a = none) (e : setOut i x g1 = some o) (k : endS K F g s H D o) : D.nx (s.set i (some v)) H1 := by
  cases x with
  | no => cases e
  | v d =>
    cases e
    obtain ⟨y, ey, hp⟩ := hv
    cases ey
    exact k F1 _ H1 ((Tr.of r1 t1 m1).trans (r1.setV i hp))
  | own tg ds =>
    obtain ⟨rfl, a, rfl, na⟩ := hn _ _ rfl
    cases e
    obtain ⟨a', xs, ea, fa, ha, hp, ht⟩ := hv
    cases ea
    have n1 : ¬ OwnAt g1 s a := fun w => by
      obtain ⟨xs, hx, _⟩ := r.ownSome (m1.own w)
      rw [na] at hx; cases hx
    refine k F1 _ H1 ⟨r1.setO i fa ha hp n1, t1, fun b hb => ?_⟩
    rcases ownIn hb r1.len with q | ⟨_, _, _, e2⟩
    · exact .inl (m1.own q)
    · cases e2; exact .inr na
theorem ds_set (i : Nat) {x : Str} {a : Expr} {f : Fv} {pos pos' : Pos} (hN : X.N.Nodup) (he : DV X a f) (hi : X.N[i]? = some x := by rfl) (hx : Loc X.env.scope x := by first | exact Or.inl rfl | exact Or.inr rfl) (hs : swapsWith a (some (.Name x pos')) pos.line X.env = pure false := by rfl)
    (hf : X.fn x = true ∨ X.env.scope.names.lookup x = some .local := by first | exact .inl rfl | exact .inr rfl | assumption) :
    DS X (.Assign [.Name x pos'] a pos) (sSet i f) := psMono (ps_set hN hi hx he hs hf) fun D s H ⟨F, g, o, r, e, k⟩ => by
  unfold sSet at e
  cases q : f g with
  | none => rw [q] at e; cases e
  | some p =>
    obtain ⟨x, g1⟩ := p
    rw [q] at e
    exact ⟨F, g, x, g1, r, q, fun v F1 H1 hv hn r1 t1 m1 => set_end r r1 t1 m1 hv hn e k⟩
/-- name op= e -/
def sAug (i : Nat) (op : D → D → Option D) (f : Fe) : Fs := fun g => match g[i]? with
  | some (.v d0) => (f g).bind fun p => (op d0 p.1).map fun d => .nx (p.2.set i (.v d))
  | _ => none
def IpOk (K : PySem.W.Frag) (r : TIp) (op : D → D → Option D) : Prop := ∀ (x y : V) (d1 d2 d : D) (F H : Hp) (Q : VK), Same F H → Dp K F x d1 → Dp K F y d2 → op d1 d2 = some d →
  (∀ v F' H', Dp K F' v d → Same F' H' → Stp Non F H F' H' → Q v H') → r x y H Q
theorem ds_aug (i : Nat) {x : Str} {a : Expr} {f : Fe} {o : Operator} {op : D → D → Option D} {ti : TIp} {pos pos' : Pos} (hN : X.N.Nodup) (ho : PIp X o ti) (hr : IpOk X.K ti op) (he : DE X a f) (hi : X.N[i]? = some x := by rfl) (hx : Loc X.env.scope x := by first | exact Or.inl rfl | exact Or.inr rfl)
    (hf : X.fn x = true ∨ X.env.scope.names.lookup x = some .local := by first | exact .inl rfl | exact .inr rfl | assumption) : DS X (.AugAssign (.Name x pos') o a pos) (sAug i op f) := psMono (ps_aug hN hi hx he ho hf) fun D s H ⟨F, g, o, r, e, k⟩ => by
  unfold sAug at e
  split at e
  · rename_i d0 hg
    cases q : f g with
    | none => rw [q] at e; cases e
    | some p =>
      rw [q] at e
      have e : (op d0 p.1).map _ = some o := e
      cases q2 : op d0 p.1 with
      | none => rw [q2] at e; cases e
      | some d =>
        rw [q2] at e; cases e
        obtain ⟨o, hs, v, rfl, hp⟩ := r.get hg
        refine ⟨v, hs, F, g, p.1, p.2, r, q, fun v1 F1 H1 p1 r1 t1 m1 => ?_⟩
        refine hr v v1 d0 p.1 d F1 H1 _ r1.fh (dpMono t1.fs _ _ hp) p1 q2 fun z F2 H2 hz fh t2 => ?_
        have r2 := r1.stepN t2 fh
        exact k F2 _ H2 ((Tr.of r2 (t1.andN t2) m1).trans (r2.setV i hz))
  · cases e
theorem ok_ipadd : IpOk X.K (ipI fun i j => i + j) addD := fun x y d1 d2 d F H Q fh p1 p2 e k => by
  unfold addD at e
  split at e
  · cases e
    rename_i i j
    exact ⟨i, j, intOf p1, intOf p2, fin0 fh (.int _) k⟩
  · cases e

/-! ### targets -/
/-- only the slots ws are changed -/
structure Chg (ws : List Nat) (s s' : Sg) : Prop where
  len : s'.length = s.length
  at' : ∀ i, i ∉ ws → s'[i]? = s[i]?
theorem Chg.refl {ws : List Nat} {s : Sg} : Chg ws s s := ⟨rfl, fun _ _ => rfl⟩
theorem Chg.trans {ws vs : List Nat} {a b c : Sg} (x : Chg ws a b) (y : Chg vs b c) : Chg (ws ++ vs) a c := ⟨y.len.trans x.len, fun i h => (y.at' i fun z => h (List.mem_append_right _ z)).trans (x.at' i fun z => h (List.mem_append_left _ z))⟩
abbrev Fg := D → G → Option G
def tG (K : PySem.W.Frag) (f : Fg) (ws : List Nat) : TG := fun v s H Q => ∃ F g d g', Rep K F g s H ∧ Dp K F v d ∧ f d g = some g' ∧ ∀ F' s' H', Tr K F g s H F' g' s' H' → Mo g g' → Chg ws s s' → Q s' H'
def tGs (K : PySem.W.Frag) (f : List D → G → Option G) (ws : List Nat) : TGs := fun vs s H Q => ∃ F g ds g', Rep K F g s H ∧ DpAll K F vs ds ∧ f ds g = some g' ∧ ∀ F' s' H', Tr K F g s H F' g' s' H' → Mo g g' → Chg ws s s' → Q s' H'
def DG (X : Cx) (t : Expr) (f : Fg) (ws : List Nat) : Prop := PG X t (tG X.K f ws)
def DGs (X : Cx) (t : List Expr) (f : List D → G → Option G) (ws : List Nat) : Prop := PGs X t (tGs X.K f ws)
theorem pgMono {t : Expr} {u u' : TG} (h : PG X t u) (m : ∀ v s H Q, u' v s H Q → u v s H Q) : PG X t u' := ⟨fun pins st s H v w Q I r q => h.run pins st s H v w Q I r (m v s H Q q)⟩
theorem pgsMono {t : List Expr} {u u' : TGs} (h : PGs X t u) (m : ∀ v s H Q, u' v s H Q → u v s H Q) : PGs X t u' := ⟨fun pins st s H v w Q I r q => h.run pins st s H v w Q I r (m v s H Q q)⟩
def gVar (i : Nat) : Fg := fun d g => some (g.set i (.v d))
theorem moV {g : G} {i : Nat} {d : D} : Mo g (g.set i (.v d)) := fun j u fs e => by
  by_cases z : i = j
  · subst z
    by_cases hi : i < g.length
    · rw [List.getElem?_set_self hi] at e; cases e
    · rw [List.getElem?_eq_none (by simpa using hi)] at e; cases e
  · rw [List.getElem?_set_ne z] at e; exact ⟨fs, e⟩
theorem dg_name (i : Nat) {x : Str} {pos : Pos} (hN : X.N.Nodup) (hi : X.N[i]? = some x := by rfl) (hx : Loc X.env.scope x := by first | exact Or.inl rfl | exact Or.inr rfl) (hf : X.fn x = true ∨ X.env.scope.names.lookup x = some .local := by first | exact .inl rfl | exact .inr rfl | assumption) : DG X (.Name x pos) (gVar i) [i] :=
  pgMono (pg_name hN hi hx hf) fun v s H Q ⟨F, g, d, g', r, hp, e, k⟩ => by
    cases e
    exact k F _ H (r.setV i hp) moV ⟨by simp, fun j hj => List.getElem?_set_ne fun z => hj (by simp [z])⟩
def gsNil : List D → G → Option G := fun ds g => match ds with
  | [] => some g
  | _ => none
def gsCons (f : Fg) (h : List D → G → Option G) : List D → G → Option G := fun ds g => match ds with
  | d :: r => (f d g).bind fun g1 => h r g1
  | _ => none
theorem dgs_nil : DGs X [] gsNil [] := pgsMono pgs_nil fun v s H Q ⟨F, g, d, g', r, hp, e, k⟩ => by
  unfold gsNil at e
  split at e
  · cases e
    cases hp
    exact ⟨rfl, k F s H (Tr.refl r) Mo.refl Chg.refl⟩
  · cases e
theorem dgs_cons {t : Expr} {ts : List Expr} {f : Fg} {h : List D → G → Option G} {ws vs : List Nat} (h1 : DG X t f ws) (h2 : DGs X ts h vs) (hs : (assignEach (t :: ts) X.env).map (·.2) = assign t X.env :: (assignEach ts X.env).map (·.2) := by rfl) : DGs X (t :: ts) (gsCons f h) (ws ++ vs) :=
  pgsMono (pgs_cons h1 h2 hs) fun v s H Q ⟨F, g, ds, g', r, hp, e, k⟩ => by
    unfold gsCons at e
    split at e
    · rename_i d rs
      cases hp with
      | cons p1 p2 =>
        cases q : f d g with
        | none => rw [q] at e; cases e
        | some g1 =>
          rw [q] at e
          exact ⟨_, _, rfl, F, g, d, g1, r, p1, q, fun F1 s1 H1 t1 m1 c1 => ⟨F1, g1, rs, g', t1.rep, dpMonos t1.stp.fs _ _ p2, e, fun F2 s2 H2 t2 m2 c2 => k F2 s2 H2 (t1.trans t2) (m1.trans m2) (c1.trans c2)⟩⟩
    · cases e
def gTup (f : List D → G → Option G) (n : Nat) : Fg := fun d g => match d with
  | .tuple ds => if ds.length = n then f ds g else none
  | _ => none
theorem dg_tup {es : List Expr} {k : Nat} {pos : Pos} {f : List D → G → Option G} {ws : List Nat} (n : Nat) (hc : X.calm = true) (h : DGs X es f ws) (hn : (assignEach es X.env).length = n := by rfl) (hst : (assignEach es X.env).findIdx? (·.1) = none := by rfl) : DG X (.Tuple es k pos) (gTup f n) ws :=
  pgMono (pg_tup hc h hn hst) fun v s H Q ⟨F, g, d, g', r, hp, e, k⟩ => by
    unfold gTup at e
    split at e
    · rename_i ds
      split at e
      · rename_i hl
        cases hp with
        | tup hs ha => exact ⟨_, _, rfl, Same.tupS r.fh hs, by rw [dpLen ha, hl], F, g, ds, g', r, ha, e, k⟩
      · cases e
    · cases e
/-- target = e (a pattern) -/
def sAsg (f : Fe) (t : Fg) : Fs := fun g => (f g).bind fun p => (t p.1 p.2).map .nx
theorem ds_asg {tg a : Expr} {f : Fe} {t : Fg} {ws : List Nat} {pos : Pos} (he : DE X a f) (hg : DG X tg t ws) (hs : swapsWithSole [tg] a pos.line X.env = pure false := by rfl) (hw : swappedStores [tg] a X.env = pure none := by rfl)
    (h1 : (assignEach [tg] X.env).map (·.2) = [assign tg X.env] := by rfl) : DS X (.Assign [tg] a pos) (sAsg f t) := psMono (ps_asg he hg hs hw h1) fun D s H ⟨F, g, o, r, e, k⟩ => by
  unfold sAsg at e
  cases q : f g with
  | none => rw [q] at e; cases e
  | some p =>
    rw [q] at e
    have e : (t p.1 p.2).map _ = some o := e
    cases q2 : t p.1 p.2 with
    | none => rw [q2] at e; cases e
    | some g2 =>
      rw [q2] at e; cases e
      exact ⟨F, g, p.1, p.2, r, q, fun v F1 H1 p1 r1 t1 m1 => ⟨F1, p.2, p.1, g2, r1, p1, q2, fun F2 s2 H2 t2 _ _ => k F2 s2 H2 ((Tr.of r1 t1 m1).trans t2)⟩⟩

/-! ### two values at once -/
theorem par_set {K : PySem.W.Frag} {F H F1 H1 : Hp} {g g1 : G} {s s1 : Sg} {x : Sl} {v : V} (i : Nat) (r1 : Tr K F g s H F1 g1 s1 H1) (hv : RepS K F1 H1 x (some v)) (hx : x ≠ .no)
    (hn : ∀ t ds, x = .own t ds → t = none ∧ ∃ a, v = .ref a ∧ H a = none ∧ ¬ OwnAt g1 s1 a) : Tr K F g s H F1 (g1.set i x) (s1.set i (some v)) H1 := by
  cases x with
  | no => exact absurd rfl hx
  | v d =>
    obtain ⟨y, ey, hp⟩ := hv
    cases ey
    exact r1.trans (r1.rep.setV i hp)
  | own tg ds =>
    obtain ⟨rfl, a, rfl, na, n1⟩ := hn _ _ rfl
    obtain ⟨a', xs, ea, fa, ha, hp, ht⟩ := hv
    cases ea
    refine ⟨r1.rep.setO i fa ha hp n1, r1.stp, fun b hb => ?_⟩
    rcases ownIn hb r1.rep.len with q | ⟨_, _, _, e2⟩
    · exact r1.own b q
    · cases e2; exact .inr na
/-- a, b = e1, e2 -/
def parOut (i j : Nat) (x y : Sl) (g : G) : Option Out := match x, y with
  | .no, _ => none
  | _, .no => none
  | x, y => some (.nx ((g.set i x).set j y))
def sPar (i j : Nat) (f h : Fv) : Fs := fun g => (f g).bind fun p => (h p.2).bind fun q => parOut i j p.1 q.1 q.2
theorem keepRep {K : PySem.W.Frag} {F H F1 H1 : Hp} {g : G} {s : Sg} {x : Sl} {v : V} (r : Rep K F g s H) (hv : RepS K F H x (some v)) (t : Stp (OwnAt g s) F H F1 H1) (hn : ∀ t ds, x = .own t ds → ∃ a, v = .ref a ∧ ¬ OwnAt g s a) (fh : Same F1 H1) : RepS K F1 H1 x (some v) := by
  cases x with
  | no => trivial
  | v d =>
    obtain ⟨y, ey, hp⟩ := hv
    exact ⟨y, ey, dpMono t.fs _ _ hp⟩
  | own tg ds =>
    obtain ⟨a, xs, ea, fa, ha, hp, ht⟩ := hv
    obtain ⟨a', e, n⟩ := hn _ _ rfl
    cases ea; cases e
    refine ⟨a, xs, rfl, ?_, t.keep a _ ha n, dpMonos t.fs _ _ hp, ht⟩
    cases z : F1 a with
    | none => rfl
    | some u =>
      rcases t.fresh a fa (by rw [z]; simp) with q | q
      · rw [q] at ha; cases ha
      · exact absurd q n
theorem ds_par (i j : Nat) {x y : Str} {a b : Expr} {f h : Fv} {pos px py pt : Pos} {kt k2 pt2} (hc : X.calm = true) (hN : X.N.Nodup) (ha : DV X a f) (hb : DV X b h) (hi : X.N[i]? = some x := by rfl) (hj : X.N[j]? = some y := by rfl) (hij : i ≠ j := by decide)
    (hx : X.env.scope.names.lookup x = some .local := by rfl) (hy : X.env.scope.names.lookup y = some .local := by rfl)
    (hw : swappedStores [.Tuple [.Name x px, .Name y py] kt pt] (.Tuple [a, b] k2 pt2) X.env = pure (some [x, y]) := by rfl)
    (hs : swapsWithSole [.Tuple [.Name x px, .Name y py] kt pt] (.Tuple [a, b] k2 pt2) pos.line X.env = pure false := by rfl)
    (h1 : starEach [a, b] X.env = (false, eval a X.env) :: starEach [b] X.env := by rfl) (h2 : starEach [b] X.env = (false, eval b X.env) :: starEach [] X.env := by rfl) :
    DS X (.Assign [.Tuple [.Name x px, .Name y py] kt pt] (.Tuple [a, b] k2 pt2) pos) (sPar i j f h) := psMono (ps_par hc hN hi hj hij hx hy (pa_cons ha (pa_cons hb pa_nil h2) h1) hw hs) fun D s H ⟨F, g, o, r, e, k⟩ => by
  unfold sPar at e
  cases q : f g with
  | none => rw [q] at e; cases e
  | some p =>
    obtain ⟨x1, g1⟩ := p
    rw [q] at e
    have e : (h g1).bind _ = some o := e
    cases q2 : h g1 with
    | none => rw [q2] at e; cases e
    | some p2 =>
      obtain ⟨x2, g2⟩ := p2
      rw [q2] at e
      have e : parOut i j x1 x2 g2 = some o := e
      have hx1 : x1 ≠ .no := fun z => by subst z; cases e
      have hx2 : x2 ≠ .no := fun z => by subst z; cases x1 <;> cases e
      have eo : o = Out.nx ((g2.set i x1).set j x2) := by
        cases x1 <;> cases x2 <;> first | (cases e; rfl) | exact absurd rfl hx1 | exact absurd rfl hx2
      subst eo
      refine ⟨F, g, x1, g1, r, q, fun v F1 H1 hv hn r1 t1 m1 => ⟨F1, g1, x2, g2, r1, q2, fun w F2 H2 hw2 hn2 r2 t2 m2 => ⟨v, w, rfl, ?_⟩⟩⟩
      have na : ∀ a, H a = none → ¬ OwnAt g1 s a := fun a ha z => by
        obtain ⟨xs, hx, _⟩ := r.ownSome (m1.own z)
        rw [ha] at hx; cases hx
      have hv2 : RepS X.K F2 H2 x1 (some v) := keepRep r1 hv t2 (fun tg ds z => by
        obtain ⟨_, a, ea, n⟩ := hn tg ds z
        exact ⟨a, ea, na a n⟩) r2.fh
      have t02 := Tr.of r2 (t1.two m1 t2) (m1.trans m2)
      have s1 := par_set i t02 hv2 hx1 fun tg ds z => by
        obtain ⟨e1, a, ea, n⟩ := hn tg ds z
        exact ⟨e1, a, ea, n, fun z2 => na a n (m2.own z2)⟩
      have s2 := par_set j s1 hw2 hx2 fun tg ds z => by
        obtain ⟨e1, a, ea, n⟩ := hn2 tg ds z
        refine ⟨e1, a, ea, ?_, fun z2 => ?_⟩
        · cases z3 : H a with
          | none => rfl
          | some u => exact absurd n (t1.dom a (by rw [z3]; simp))
        · rcases ownIn z2 r2.len with q3 | ⟨_, _, e3, e4⟩
          · obtain ⟨xs, hx, _⟩ := r1.ownSome (m2.own q3)
            rw [n] at hx; cases hx
          · subst e3
            cases e4
            obtain ⟨a', xs, ea', _, ha', _⟩ := hv
            cases ea'
            rw [n] at ha'; cases ha'
      exact k F2 _ H2 s2

/-! ### stores into a list of the frame's own -/
/-- name[e] = e' -/
def sPut (i : Nat) (fj : Fe) (f : Fv) : Fs := fun g => (eV f g).bind fun p => (slD p.2[i]?).bind fun _ => (fj p.2).bind fun q => match q.2[i]?, q.1 with
  | some (.own t ds), .int k => (ixN ds.length k).map fun m => .nx (q.2.set i (.own t (ds.set m p.1)))
  | _, _ => none
theorem ds_put (i : Nat) {x : Str} {a b : Expr} {f : Fv} {fj : Fe} {pos p1 p2 : Pos} (he : DV X a f) (hj : DE X b fj) (hN : X.N[i]? = some x := by rfl) (hv : Vis X.env.scope x := by first | exact Or.inl rfl | exact Or.inr (Or.inl rfl) | exact Or.inr (Or.inr rfl)) (hd : (x == ("__debug__" : Str)) = false := by decide)
    (hcd : (x == ("__classdict__" : Str)) = false := by decide) (hs : swapsWithSole [.Subscript (.Name x p1) b p2] a pos.line X.env = pure false := by rfl) (hw : swappedStores [.Subscript (.Name x p1) b p2] a X.env = pure none := by rfl)
    (h1 : (assignEach [.Subscript (.Name x p1) b p2] X.env).map (·.2) = [assign (.Subscript (.Name x p1) b p2) X.env] := by rfl)
    (ha : ∀ v, assign (.Subscript (.Name x p1) b p2) X.env v = (do
      let ov ← holding [v] (eval (.Name x p1) X.env)
      let iv ← holding [v, ov] (eval b X.env)
      standAt p2
      holding [v, ov, iv] (setItem ov iv v)
      release [v, ov, iv] []) := by intro _; rfl) : DS X (.Assign [.Subscript (.Name x p1) b p2] a pos) (sPut i fj f) :=
  psMono (ps_asg (de_dv he) (pg_sub (pe_var hN hv hd hcd) hj set_list ha) hs hw h1) fun D s H ⟨F, g, o, r, e, k⟩ => by
    unfold sPut at e
    cases q : eV f g with
    | none => rw [q] at e; cases e
    | some p =>
      obtain ⟨d, g1⟩ := p
      rw [q] at e
      have e : (slD g1[i]?).bind _ = some o := e
      cases q0 : slD g1[i]? with
      | none => rw [q0] at e; cases e
      | some d0 =>
        rw [q0] at e
        have e : (fj g1).bind _ = some o := e
        cases q2 : fj g1 with
        | none => rw [q2] at e; cases e
        | some p2 =>
          obtain ⟨dj, g2⟩ := p2
          rw [q2] at e
          simp only [Option.bind_some] at e
          split at e
          · rename_i tg ds kk hg
            cases q3 : ixN ds.length kk with
            | none => rw [q3] at e; cases e
            | some m =>
              rw [q3] at e; cases e
              refine ⟨F, g, d, g1, r, q, fun v F1 H1 hp r1 t1 m1 => ?_⟩
              obtain ⟨x0, w, _, hw, _⟩ := slGet r1 q0
              refine ⟨w, hw, F1, g1, _, g2, r1, q2, fun vj F2 H2 hpj r2 t2 m2 => ?_⟩
              obtain ⟨o, ho, a, xs, eo, fa, hal, hps, ht⟩ := r2.get hg
              rw [hw] at ho; cases ho; cases eo
              refine ⟨a, xs, kk, m, rfl, intOf hpj, hal, by rw [dpLen hps]; exact q3, ?_⟩
              exact k F2 _ _ ((Tr.of r2 (t1.two m1 t2) (m1.trans m2)).trans (r2.turn hg hw (dpSet (dpMono t2.fs _ _ hp) m hps)))
          · cases e
def ownD : Option Sl → Option (List D)
  | some (.own _ ds) => some ds
  | _ => none
/-- name.append(e) -/
def eApp (i : Nat) (f : Fv) : Fe := fun g => (ownD g[i]?).bind fun _ => (eV f g).bind fun q => match q.2[i]? with
  | some (.own t ds) => if ds.length < 1000000 then some (.none, q.2.set i (.own t (ds ++ [q.1]))) else none
  | _ => none
theorem moSet {g : G} {i : Nat} {t : Option Addr} {ds es : List D} (h : g[i]? = some (.own t ds)) : Mo g (g.set i (.own t es)) := fun j u fs e => by
  by_cases z : i = j
  · subst z
    rw [List.getElem?_set_self (List.getElem?_eq_some_iff.mp h).1] at e
    cases e; exact ⟨ds, h⟩
  · rw [List.getElem?_set_ne z] at e; exact ⟨fs, e⟩
theorem de_app (i : Nat) {x : Str} {a : Expr} {f : Fv} {pos p1 p2 : Pos} (he : DV X a f) (hN : X.N[i]? = some x := by rfl) (hv : Vis X.env.scope x := by first | exact Or.inl rfl | exact Or.inr (Or.inl rfl) | exact Or.inr (Or.inr rfl)) (hd : (x == ("__debug__" : Str)) = false := by decide)
    (hcd : (x == ("__classdict__" : Str)) = false := by decide) (t : PE X (.Call (.Attribute (.Name x p1) "append" p2) [a] [] pos) (tBM X.K "list" rAppend (tVar i) (tCons (tD X.K (eV f)) tNil))) : DE X (.Call (.Attribute (.Name x p1) "append" p2) [a] [] pos) (eApp i f) :=
  peMono t fun s H Q ⟨F, g, d, g', r, e, k⟩ => by
    unfold eApp at e
    cases q0 : ownD g[i]? with
    | none => rw [q0] at e; cases e
    | some d0 =>
      rw [q0] at e
      have e : (eV f g).bind _ = some (d, g') := e
      cases q2 : eV f g with
      | none => rw [q2] at e; cases e
      | some p2 =>
        obtain ⟨dj, g2⟩ := p2
        rw [q2] at e
        simp only [Option.bind_some] at e
        split at e
        · rename_i tg ds hg
          split at e
          · rename_i hl
            cases e
            have hw : ∃ w xs, s[i]? = some (some (.ref w)) ∧ H w = some (.lst xs) := by
              unfold ownD at q0
              split at q0
              · rename_i t0 ds0 hx0
                obtain ⟨o, ho, a, xs, ea, _, ha, _⟩ := r.get hx0
                subst ea
                exact ⟨a, xs, ho, ha⟩
              · cases q0
            obtain ⟨w, xs0, hw, hxs0⟩ := hw
            refine ⟨.ref w, hw, .inl ⟨rfl, _, SqL.of hxs0⟩, F, g, dj, g2, r, q2, fun vj F2 H2 hpj r2 t2 m2 => ?_⟩
            · obtain ⟨o, ho, a, xs, eo, fa, hal, hps, ht⟩ := r2.get hg
              rw [hw] at ho; cases ho; cases eo
              have tr := r2.turn hg hw (dpApp hps (.cons hpj .nil))
              exact ⟨_, xs, vj, rfl, rfl, hal, by rw [dpLen hps]; exact Nat.lt_of_lt_of_le hl million, k .non F2 _ .non tr.rep (t2.two m2 tr.stp) (m2.trans (moSet hg))⟩
          · cases e
        · cases e
end Dl
set_option Elab.async false
set_option linter.all false
set_option maxRecDepth 100000
namespace Dl
open PySem PySem.Spec PyProof.Rows L2
variable {X : Cx}

/-! ### while -/
/-- n turns and an end -/
inductive WhN (t : Ft) (b : Fs) : Nat → G → Out → Prop
  | stop {g g1 : G} : t g = some (false, g1) → WhN t b 0 g (.nx g1)
  | nx {n : Nat} {g g1 g2 : G} {o : Out} : t g = some (true, g1) → b g1 = some (.nx g2) → WhN t b n g2 o → WhN t b (n + 1) g o
  | ct {n : Nat} {g g1 g2 : G} {o : Out} : t g = some (true, g1) → b g1 = some (.ct g2) → WhN t b n g2 o → WhN t b (n + 1) g o
  | bk {g g1 g2 : G} : t g = some (true, g1) → b g1 = some (.bk g2) → WhN t b 0 g (.nx g2)
  | ret {g g1 g2 : G} {x : Sl} : t g = some (true, g1) → b g1 = some (.ret x g2) → WhN t b 0 g (.ret x g2)
theorem WhN.det {t : Ft} {b : Fs} {n : Nat} {g : G} {o : Out} (h : WhN t b n g o) : ∀ {m : Nat} {o' : Out}, WhN t b m g o' → n = m ∧ o = o' := by
  induction h with
  | stop h1 =>
    intro m o' h'
    cases h' <;> rename_i h2 <;> simp_all
  | nx h1 h2 h3 ih =>
    intro m o' h'
    cases h' with
    | nx k1 k2 k3 =>
      rw [h1] at k1; cases k1
      rw [h2] at k2; cases k2
      obtain ⟨e1, e2⟩ := ih k3
      exact ⟨by rw [e1], e2⟩
    | stop k1 => rw [h1] at k1; cases k1
    | ct k1 k2 k3 => rw [h1] at k1; cases k1; rw [h2] at k2; cases k2
    | bk k1 k2 => rw [h1] at k1; cases k1; rw [h2] at k2; cases k2
    | ret k1 k2 => rw [h1] at k1; cases k1; rw [h2] at k2; cases k2
  | ct h1 h2 h3 ih =>
    intro m o' h'
    cases h' with
    | ct k1 k2 k3 =>
      rw [h1] at k1; cases k1
      rw [h2] at k2; cases k2
      obtain ⟨e1, e2⟩ := ih k3
      exact ⟨by rw [e1], e2⟩
    | stop k1 => rw [h1] at k1; cases k1
    | nx k1 k2 k3 => rw [h1] at k1; cases k1; rw [h2] at k2; cases k2
    | bk k1 k2 => rw [h1] at k1; cases k1; rw [h2] at k2; cases k2
    | ret k1 k2 => rw [h1] at k1; cases k1; rw [h2] at k2; cases k2
  | bk h1 h2 =>
    intro m o' h'
    cases h' with
    | bk k1 k2 => rw [h1] at k1; cases k1; rw [h2] at k2; cases k2; exact ⟨rfl, rfl⟩
    | stop k1 => rw [h1] at k1; cases k1
    | nx k1 k2 k3 => rw [h1] at k1; cases k1; rw [h2] at k2; cases k2
    | ct k1 k2 k3 => rw [h1] at k1; cases k1; rw [h2] at k2; cases k2
    | ret k1 k2 => rw [h1] at k1; cases k1; rw [h2] at k2; cases k2
  | ret h1 h2 =>
    intro m o' h'
    cases h' with
    | ret k1 k2 => rw [h1] at k1; cases k1; rw [h2] at k2; cases k2; exact ⟨rfl, rfl⟩
    | stop k1 => rw [h1] at k1; cases k1
    | nx k1 k2 k3 => rw [h1] at k1; cases k1; rw [h2] at k2; cases k2
    | ct k1 k2 k3 => rw [h1] at k1; cases k1; rw [h2] at k2; cases k2
    | bk k1 k2 => rw [h1] at k1; cases k1; rw [h2] at k2; cases k2
open Classical in
/-- the end of a while, where it comes to one -/
noncomputable def sWhile (t : Ft) (b : Fs) : Fs := fun g => if h : ∃ o n, WhN t b n g o then some h.choose else none
theorem sWhile_of {t : Ft} {b : Fs} {n : Nat} {g : G} {o : Out} (h : WhN t b n g o) : sWhile t b g = some o := by
  have hx : ∃ o n, WhN t b n g o := ⟨o, n, h⟩
  unfold sWhile
  rw [dif_pos hx]
  obtain ⟨m, hm⟩ := hx.choose_spec
  rw [(h.det hm).2]
theorem sWhile_inv {t : Ft} {b : Fs} {g : G} {o : Out} (h : sWhile t b g = some o) : ∃ n, WhN t b n g o := by
  unfold sWhile at h
  split at h
  · rename_i hx
    cases h
    exact hx.choose_spec
  · cases h
/-- one turn -/
theorem sWhile_stop {t : Ft} {b : Fs} {g g1 : G} (h : t g = some (false, g1)) : sWhile t b g = some (.nx g1) := sWhile_of (.stop h)
theorem sWhile_nx {t : Ft} {b : Fs} {g g1 g2 : G} (h : t g = some (true, g1)) (h2 : b g1 = some (.nx g2)) {o : Out} (h3 : sWhile t b g2 = some o) : sWhile t b g = some o := by
  obtain ⟨n, hn⟩ := sWhile_inv h3
  exact sWhile_of (.nx h h2 hn)
theorem ds_while {c : Expr} {body : List Stmt} {pos : Pos} {t : Ft} {b : Fs} (hp : PassesOwn (model X.prog X.w) X.A X.env X.xe) (hc : DT X c t) (hb : DSs X body b) : DS X (.While c body [] pos) (sWhile t b) := psMono (ps_while hp hc hb) fun D s H ⟨F, g, o, r, e, k⟩ => by
  obtain ⟨n, hn⟩ := sWhile_inv e
  refine ⟨fun m s1 H1 => ∃ F1 g1, Tr X.K F g s H F1 g1 s1 H1 ∧ WhN t b m g1 o, ⟨n, F, g, Tr.refl r, hn⟩, fun m s1 H1 ⟨F1, g1, t1, w⟩ => ?_⟩
  cases w with
  | stop h1 =>
    refine ⟨F1, g1, _, _, t1.rep, h1, fun F2 H2 r2 st2 m2 => ?_⟩
    exact iteF (k F2 s1 H2 (t1.trans (Tr.of r2 st2 m2)))
  | @nx n' _ ga gb _ h1 h2 h3 =>
    refine ⟨F1, g1, _, _, t1.rep, h1, fun F2 H2 r2 st2 m2 => iteT ?_⟩
    refine ⟨fun s' H' => ∃ F3, Tr X.K F g s H F3 gb s' H', fun s' H' ⟨F3, t3⟩ => ⟨n', Nat.lt_succ_self _, F3, gb, t3, h3⟩, F2, ga, _, r2, h2, fun F3 s3 H3 t3 => ⟨F3, (t1.trans (Tr.of r2 st2 m2)).trans t3⟩⟩
  | @ct n' _ ga gb _ h1 h2 h3 =>
    refine ⟨F1, g1, _, _, t1.rep, h1, fun F2 H2 r2 st2 m2 => iteT ?_⟩
    refine ⟨fun s' H' => ∃ F3, Tr X.K F g s H F3 gb s' H', fun s' H' ⟨F3, t3⟩ => ⟨n', Nat.lt_succ_self _, F3, gb, t3, h3⟩, F2, ga, _, r2, h2, fun F3 s3 H3 t3 => ⟨F3, (t1.trans (Tr.of r2 st2 m2)).trans t3⟩⟩
  | @bk _ ga gb h1 h2 =>
    refine ⟨F1, g1, _, _, t1.rep, h1, fun F2 H2 r2 st2 m2 => iteT ?_⟩
    refine ⟨fun _ _ => False, fun _ _ z => z.elim, F2, ga, _, r2, h2, fun F3 s3 H3 t3 => k F3 s3 H3 ((t1.trans (Tr.of r2 st2 m2)).trans t3)⟩
  | @ret _ ga gb x h1 h2 =>
    refine ⟨F1, g1, _, _, t1.rep, h1, fun F2 H2 r2 st2 m2 => iteT ?_⟩
    have tt := t1.trans (Tr.of r2 st2 m2)
    exact ⟨fun _ _ => False, fun _ _ z => z.elim, F2, ga, _, r2, h2, fun v F3 s3 H3 a n b t3 => k v F3 s3 H3 a n (b.back tt) (tt.trans t3)⟩

/-! ### what is walked -/
/-- the walk J gives the data ds, one by one -/
structure Itd (K : PySem.W.Frag) (F0 : Hp) (J : It) (ds : List D) : Prop where
  go : ∀ (i : Nat) (H : Hp), Same F0 H → i < ds.length → J.go i H
  stop : ∀ H, Same F0 H → J.stop ds.length H
  yld : ∀ (i : Nat) (F H : Hp) (x : V) (H' : Hp), Same F0 F → Same F H → i < ds.length → J.yld i H x H' → ∃ F' d, ds[i]? = some d ∧ Dp K F' x d ∧ Same F' H' ∧ Stp Non F H F' H'
def tI (K : PySem.W.Frag) (f : Fa) : TI := fun s H R => ∃ F g ds g', Rep K F g s H ∧ f g = some (ds, g') ∧
  ∀ J F' H', Rep K F' g' s H' → Stp (OwnAt g s) F H F' H' → Mo g g' → Itd K F' J ds → R J H'
def DI (X : Cx) (tg iter : Expr) (f : Fa) : Prop := PI X tg iter (tI X.K f)
theorem piMono {tg iter : Expr} {t t' : TI} (h : PI X tg iter t) (m : ∀ s H R, t' s H R → t s H R) : PI X tg iter t' := ⟨fun pins st s H R I w => h.run pins st s H R I (m s H R w)⟩
theorem piOr {tg iter : Expr} {t t' : TI} (h : PI X tg iter t) (h' : PI X tg iter t') : PI X tg iter (fun s H R => t s H R ∨ t' s H R) := ⟨fun pins st s H R I w => w.elim (h.run pins st s H R I) (h'.run pins st s H R I)⟩
theorem itdSeq {K : PySem.W.Frag} {F : Hp} {J : It} {xs : List V} {ds : List D} {P : Hp → Prop} (hp : DpAll K F xs ds) (hP : ∀ H, Same F H → P H) (w : Walk J xs.length P (YAt xs)) : Itd K F J ds where
  go := fun i H h hi => w.goes i H (by rw [dpLen hp]; exact hi) (hP H h)
  stop := fun H h => by rw [← dpLen hp]; exact w.stops H (hP H h)
  yld := fun i F1 H x H' h1 h2 hi y => by
    obtain ⟨e, hx⟩ := w.yields i H x H' (by rw [dpLen hp]; exact hi) (hP H (h1.trans h2)) y
    subst e
    obtain ⟨d, hd, q⟩ := dpAtV hp hx
    exact ⟨F1, d, hd, dpMono h1 _ _ q, h2, Stp.refl⟩
def seqD : D → Option (List D)
  | .list ds => some ds
  | .tuple ds => some ds
  | _ => none
def iSeq (f : Fe) : Fa := fun g => (f g).bind fun p => (seqD p.1).map fun ds => (ds, p.2)
theorem iSeq_inv {f : Fe} {g g' : G} {ds : List D} (h : iSeq f g = some (ds, g')) : ∃ d, f g = some (d, g') ∧ seqD d = some ds := by
  unfold iSeq at h
  cases q : f g with
  | none => rw [q] at h; cases h
  | some p =>
    rw [q] at h
    have h : (seqD p.1).map _ = some (ds, g') := h
    cases q2 : seqD p.1 with
    | none => rw [q2] at h; cases h
    | some d2 => rw [q2] at h; cases h; exact ⟨p.1, rfl, q2⟩
/-- a list or a tuple -/
theorem di_seq {tg a : Expr} {f : Fe} (h : DE X a f) : DI X tg a (iSeq f) := piMono (piOr (pi_list h) (pi_tup h)) fun s H R ⟨F, g, ds, g', r, e, k⟩ => by
  obtain ⟨d, e1, e2⟩ := iSeq_inv e
  cases d with
  | list es =>
    cases e2
    refine .inl ⟨F, g, _, g', r, e1, fun v F1 H1 p1 r1 t1 m1 => ?_⟩
    cases p1 with
    | lst hs ha => exact ⟨_, rfl, ⟨_, r1.fh.seq hs⟩, k _ F1 H1 r1 t1 m1 (itdSeq ha (fun H q => q.seq hs) walk_list)⟩
  | tuple es =>
    cases e2
    refine .inr ⟨F, g, _, g', r, e1, fun v F1 H1 p1 r1 t1 m1 => ?_⟩
    cases p1 with
    | tup hs ha => exact ⟨_, rfl, ⟨_, Same.tupS r1.fh hs⟩, k _ F1 H1 r1 t1 m1 (itdSeq ha (fun H q => Same.tupS q hs) walk_tup)⟩
  | _ => cases e2
/-- range -/
def rangeL (lo : Int) (n : Nat) : List D := (List.range n).map fun (i : Nat) => PyData.int (lo + (i : Nat))
theorem itdRange {K : PySem.W.Frag} {F : Hp} {lo : Int} {n : Nat} : Itd K F (Itr lo n) (rangeL lo n) where
  go := fun i H h hi => by
    show i < n
    simpa [rangeL] using hi
  stop := fun H h => by
    show n ≤ (rangeL lo n).length
    simp [rangeL]
  yld := fun i F1 H x H' h1 h2 hi y => by
    obtain ⟨e, hx⟩ := y
    subst e hx
    have hi' : i < n := by simpa [rangeL] using hi
    exact ⟨F1, .int (lo + i), by simp [rangeL, hi'], .int _, h2, Stp.refl⟩
def SmI (i : Int) : Prop := -(2 ^ 62) ≤ i ∧ i < 2 ^ 62
instance (i : Int) : Decidable (SmI i) := by unfold SmI; exact inferInstance
def iRange1 (f : Fa) : Fa := fun g => match f g with
  | some ([.int j], g') => if SmI j then some (rangeL 0 j.toNat, g') else none
  | _ => none
def iRange2 (f : Fa) : Fa := fun g => match f g with
  | some ([.int i, .int j], g') => if SmI i ∧ SmI j then some (rangeL i (j - i).toNat, g') else none
  | _ => none
theorem dp1 {K : PySem.W.Frag} {F : Hp} {vs : List V} {i : Int} (h : DpAll K F vs [.int i]) : vs = [.int i] := by
  cases h with
  | cons h1 h2 => cases h1; cases h2; rfl
theorem dp2 {K : PySem.W.Frag} {F : Hp} {vs : List V} {i j : Int} (h : DpAll K F vs [.int i, .int j]) : vs = [.int i, .int j] := by
  cases h with
  | cons h1 h2 =>
    cases h1
    cases h2 with
    | cons h3 h4 => cases h3; cases h4; rfl
theorem di_range1 {tg a : Expr} {p pos : Pos} {f : Fa} (hg : Gl X "range") (hm : X.mg "range" = none) (ha : DA X [a] f)
    (hs : starEach [a] X.env = [(false, eval a X.env)] := by rfl) :
    DI X tg (.Call (.Name "range" p) [a] [] pos) (iRange1 f) := piMono (pi_range1 hg hm ha hs) fun s H R ⟨F, g, ds, g', r, e, k⟩ => by
  unfold iRange1 at e
  split at e
  · rename_i j g1 q
    split at e
    · rename_i hj
      cases e
      exact ⟨F, g, _, _, r, q, fun vs F1 H1 p1 r1 t1 m1 => ⟨j, dp1 p1, hj.1, hj.2, k _ F1 H1 r1 t1 m1 itdRange⟩⟩
    · cases e
  · cases e
theorem di_range2 {tg a b : Expr} {p pos : Pos} {f : Fa} (t : PI X tg (.Call (.Name "range" p) [a, b] [] pos) (iRng2 (tA X.K f))) :
    DI X tg (.Call (.Name "range" p) [a, b] [] pos) (iRange2 f) := piMono t fun s H R ⟨F, g, ds, g', r, e, k⟩ => by
  unfold iRange2 at e
  split at e
  · rename_i i j g1 q
    split at e
    · rename_i hj
      cases e
      exact ⟨F, g, _, _, r, q, fun vs F1 H1 p1 r1 t1 m1 => ⟨i, j, dp2 p1, ⟨hj.1.1, hj.1.2, hj.2.1, hj.2.2⟩, k _ F1 H1 r1 t1 m1 itdRange⟩⟩
    · cases e
  · cases e
end Dl
set_option Elab.async false
set_option linter.all false
set_option maxRecDepth 100000
namespace Dl
open PySem PySem.Spec PyProof.Rows L2

/-! ### enumerate of a tuple -/
section
open Sem (wp)
theorem newEnum1 {v : Value} {ob : Obj} {C : Heap → Prop} (B : Begins v ob C) : Meets (Builtin.«enumerate.__new__» ⟨[.type "enumerate", v], []⟩) (fun _ R st => C st.heap ∧
    R (.ok (.ret (.ref (st.heap.push ob).objs.size))) { st with heap := (st.heap.push ob).push { cls := .type "enumerate", data := .fields #[.none, .bool false, .ref st.heap.objs.size, rawInt 0, .none, .none] } }) :=
  .of_wp fun P w A R st hyp => by
    obtain ⟨hp, gg, dd, tk, os⟩ := st
    obtain ⟨c0, hyp⟩ := hyp
    have hsub := sub_enumerate
    have q1 : ∀ {A' : Around} {E : Value → Shared → Prop} {Q : Value → Shared → Prop}, Q (.ref hp.objs.size) ⟨hp.push ob, gg, dd, tk, os⟩ → wpAny (model P w) A' (pyIter v) Q E ⟨hp, gg, dd, tk, os⟩ := fun q => B.iter P w _ _ ⟨hp, gg, dd, tk, os⟩ _ c0 q
    wp_walk using q1
    refine wpAny_stack_any fun stk => wpAny_pure ?_
    split
    · rename_i cc _ _ _ _ _
      cases (cc == Value.type "enumerate")
      all_goals
        wp_walk using q1
        exact ⟨_, rfl, hyp⟩
    · wp_walk using q1
      exact ⟨_, rfl, hyp⟩
theorem callEnum1 {P : Program} {w : World} {A : Around} {E : Value → Shared → Prop} {st : Shared} {v : Value} {ob : Obj} {C : Heap → Prop} {Q : Value → Shared → Prop} (B : Begins v ob C) (c0 : C st.heap)
    (k : ∀ h', IsEnum h' (st.heap.objs.size + 1) st.heap.objs.size 0 .none → h'.get? st.heap.objs.size = some ob → (∀ b o, st.heap.get? b = some o → h'.get? b = some o) → Q (.ref (st.heap.objs.size + 1)) { st with heap := h' }) :
    wpAny (model P w) A (call (.type "enumerate") [v]) Q E st := by
  refine callType_new F.called_enumerate (by decide) (F.typeCall_enumerate_1 _) (F.newCall_enumerate_1 _) (fun obj => F.args_object_init_2 obj _) F.entry_enumerate_new (newEnum1 B) ⟨c0, ?_⟩
  have sz : (st.heap.push ob).objs.size = st.heap.objs.size + 1 := Heap.size_push ..
  show _ ∧ _
  rw [sz]
  have en := Heap.get?_push_size (st.heap.push ob) (o := { cls := .type "enumerate", data := .fields #[.none, .bool false, .ref st.heap.objs.size, rawInt 0, .none, .none] }) rfl
  rw [sz] at en
  exact ⟨⟨_, en, rfl⟩, k _ en (Heap.get?_push_of_some _ (Heap.get?_push_size _ B.free)) fun b o x => Heap.get?_push_of_some _ (Heap.get?_push_of_some _ x)⟩
end
/-- the tuple at a, its items counted from 0, in new pairs -/
def ItE (K : PySem.W.Frag) (a : Addr) : It :=
  ⟨fun i H => ∃ (xs : List V) (x : V), SqT K H a xs ∧ xs[i]? = some x, fun i H v H' => ∃ T x, v = .ref T ∧ H T = none ∧ H' = upd H T (.tup [.int (i : Nat), x]) ∧ ∀ xs, SqT K H a xs → xs[i]? = some x, fun i H => ∃ xs : List V, SqT K H a xs ∧ xs.length = i⟩
theorem turnE {P : Program} {w : World} {K : PySem.W.Frag} {es : List Expr} {kk : Nat} {tp : Pos} (a e it : Addr) (hae : a ≠ e) (hai : a ≠ it) (hei : e ≠ it) :
    Turn P w K (.Tuple es kk tp) (ItE K a) [e, it] e (fun i h => (∃ old, IsEnum h e it ((0 : Int) + ((i : Nat) : Int)) old) ∧ h.IsTupleIter it a i) where
  mem := by simp
  obj := fun i h tn b hb => by
    obtain ⟨⟨old, q⟩, o, ho, hc, hd⟩ := tn
    rcases List.mem_cons.mp hb with z | z
    · subst z; exact ⟨_, q, fun v z => nomatch z⟩
    · rw [List.mem_singleton.mp z]; exact ⟨o, ho, fun v z => by rw [hd] at z; cases z⟩
  keep := fun i h h' tn kp => by
    obtain ⟨⟨old, q⟩, r⟩ := tn
    exact ⟨⟨old, kp e (by simp) _ q⟩, r.at fun o z => kp it (by simp) o z⟩
  item := by
    intro X e1 e2 e3 hc i pins st s H E I hf tn hg
    subst e1 e2 e3
    obtain ⟨⟨old, en⟩, ti⟩ := tn
    obtain ⟨xs, x, hq, hx⟩ := hg
    obtain ⟨its, rv, tp, _⟩ := I.tuple hq
    have he1 : e < st.heap.objs.size := Heap.lt_size en
    have hi1 : it < st.heap.objs.size := by obtain ⟨_, z, _⟩ := ti; exact Heap.lt_size z
    have hin : i < its.toArray.size := by
      obtain ⟨u, hu, _⟩ := rv.get hx
      have := (List.getElem?_eq_some_iff.mp hu).1
      simpa using this
    refine wpAny_pyNext_enum_itemC (Draws.tuple (A := X.A.in1) (show X.A.in1.handled = none from I.ok.hd hc) it a hai its.toArray) en ⟨ti, tp⟩ hin hei (by simp [hei, Ne.symm hae]) fun u h1 tk hu ho hst hT _ kp => ?_
    refine ⟨_, rfl, wpAny_letOwnedTupleGo_enum (s := { st with heap := h1, toks := tk + 1 }) ho fun h2 en2 sb => ?_⟩
    have hu' : its[i]? = some u := by simpa using hu
    obtain ⟨w, hw, rw'⟩ := rv.get hx
    have : w = u := by rw [hw] at hu'; exact Option.some.inj hu'
    subst this
    have hT2 : h2.get? st.heap.objs.size = some { cls := .type "tuple", data := .seq #[.int (0 + (i : Int)) tk, w] } := (sb.2 _ (Nat.ne_of_gt he1)).trans hT
    have i0 : (0 : Int) + (i : Int) = (i : Int) := by omega
    have new : ObjOk X.prog X.w (upd H st.heap.objs.size (.tup [.int (i : Nat), x])) h2 st.heap.objs.size (.tup [.int (i : Nat), x]) :=
      ⟨by show 2 ≤ sizeLine; decide, [.int (0 + (i : Int)) tk, w], .cons ⟨tk, by rw [i0]⟩ (.cons rw' .nil), ⟨_, hT2, rfl, _, rfl⟩⟩
    have J := I.turnedNew (ob := .tup [.int (i : Nat), x]) (t' := tk + 1) (h' := h2) (ch := [e, it]) (fun b ob hb q => (sb.2 b fun z => hb (by simp [z])).trans (kp b ob (fun z => hb (by simp [z])) (fun z => hb (by simp [z])) q)) hf (Nat.le_refl _) new
    refine ⟨.ref st.heap.objs.size, _, J, rfl, ⟨_, x, rfl, I.hok.fresh (Nat.le_refl _), rfl, fun ys hy => by rw [I.tuple_inj hy hq]; exact hx⟩, ⟨⟨w, ?_⟩, hst.1.at fun o q => (sb.2 it (Ne.symm hei)).trans q⟩, fun b hb => ?_⟩
    · have c1 : (0 : Int) + ((i + 1 : Nat) : Int) = 0 + (i : Int) + 1 := by omega
      rw [c1]; exact en2
    · have hlt : b < st.heap.objs.size := by
        rcases List.mem_cons.mp hb with z | z
        · rw [z]; exact he1
        · rw [List.mem_singleton.mp z]; exact hi1
      rw [upd_ne (Nat.ne_of_lt hlt)]
      exact (hf b hb).1
  done := by
    intro X e1 e2 e3 hc i pins st s H E I hf tn hg
    subst e1 e2 e3
    obtain ⟨⟨old, en⟩, ti⟩ := tn
    obtain ⟨xs, hq, hx⟩ := hg
    obtain ⟨its, rv, tp, _⟩ := I.tuple hq
    obtain ⟨f0, f1, f2, f3, f4, f5⟩ := hf it (by simp)
    have hn : its.toArray.size = i := by rw [List.size_toArray, ← rv.length]; exact hx
    subst hn
    exact wpAny_pyNext_enum_endD (Draws.tuple (A := X.A.in1) (show X.A.in1.handled = none from I.ok.hd hc) it a hai its.toArray) en ⟨ti, tp⟩ fun h' eb => ⟨rfl, I.turned (t' := st.toks) (fun b o hb q => eb b o hb q) f0 f1 f3 f4 f5⟩
  self := fun A i st Q E tn k => by
    obtain ⟨⟨_, en⟩, _⟩ := tn
    exact wpAny_pyIter_enum en k
def iEnT (K : PySem.W.Frag) (ta : TA) : TI := fun s H R => ta s H fun vs H1 => ∃ a xs, vs = [.ref a] ∧ SqT K H1 a xs ∧ R (ItE K a) H1
theorem pi_enT {X : Cx} {e : Expr} {ta : TA} {p pos tp : Pos} {es : List Expr} {kk : Nat} (hg : Gl X "enumerate") (hm : X.mg "enumerate" = none) (ha : PA X [e] ta) (hs : starEach [e] X.env = [(false, eval e X.env)] := by rfl) :
    PI X (.Tuple es kk tp) (.Call (.Name "enumerate" p) [e] [] pos) (iEnT X.K ta) := by
  refine ⟨fun pins st s H R I h => ?_⟩
  refine Call_ (ld_blt I hg hm boot_enumerate (PyProof.Rows.callWith_type1 (thn (ha.run pos pins st s H _ I h) fun us st1 hq => ?_) hs rfl))
  obtain ⟨vs, H1, I1, r1, a, xs, ev, hx, q⟩ := hq
  subst ev
  cases r1 with
  | cons r rr =>
    cases rr
    cases r
    obtain ⟨its, rv, tpl, _⟩ := I1.tuple hx
    refine callEnum1 (begins_tuple a its.toArray) tpl fun h' en hit kp => wpAny_pyIter_enum en ?_
    have ha1 : a < st1.heap.objs.size := by obtain ⟨o, z, _⟩ := tpl; exact Heap.lt_size z
    have I2 : Inv X pins s H1 { st1 with heap := h' } := I1.kept (t' := st1.toks) kp
    refine ⟨st1.heap.objs.size + 1, [st1.heap.objs.size + 1, st1.heap.objs.size], _, _, H1, rfl, I2, turnE a (st1.heap.objs.size + 1) st1.heap.objs.size (Nat.ne_of_lt (Nat.lt_succ_of_lt ha1)) (Nat.ne_of_lt ha1) (Nat.succ_ne_self _), ⟨⟨.none, en⟩, ⟨_, hit, rfl, rfl⟩⟩, fun b hb => ?_, q⟩
    have hle : st1.heap.objs.size ≤ b := by
      rcases List.mem_cons.mp hb with z | z
      · rw [z]; exact Nat.le_succ _
      · rw [List.mem_singleton.mp z]; exact Nat.le_refl _
    exact I1.fpOk hle (I1.hok.fresh hle)

variable {X : Cx}
/-! ### pairs -/
def pairL : Nat → List D → List D
  | _, [] => []
  | i, d :: r => .tuple [.int (i : Nat), d] :: pairL (i + 1) r
theorem pairL_len : ∀ (i : Nat) (ds : List D), (pairL i ds).length = ds.length
  | _, [] => rfl
  | i, d :: r => by simp [pairL, pairL_len (i + 1) r]
theorem pairL_at : ∀ (i : Nat) (ds : List D) (j : Nat) (d : D), ds[j]? = some d → (pairL i ds)[j]? = some (.tuple [.int ((i + j : Nat)), d])
  | _, [], _, _, h => by simp at h
  | i, e :: r, 0, d, h => by simp at h; simp [pairL, h]
  | i, e :: r, j + 1, d, h => by
    have := pairL_at (i + 1) r j d (by simpa using h)
    have c : i + 1 + j = i + (j + 1) := by omega
    rw [c] at this
    simpa [pairL] using this
def zipL : List D → List D → List D
  | x :: xs, y :: ys => .tuple [x, y] :: zipL xs ys
  | _, _ => []
theorem zipL_len : ∀ (xs ys : List D), (zipL xs ys).length = min xs.length ys.length
  | [], _ => by simp [zipL]
  | _ :: _, [] => by simp [zipL]
  | x :: xs, y :: ys => by (simp [zipL, zipL_len xs ys])
theorem zipL_at : ∀ (xs ys : List D) (j : Nat) (x y : D), xs[j]? = some x → ys[j]? = some y → (zipL xs ys)[j]? = some (.tuple [x, y])
  | [], _, _, _, _, h, _ => by simp at h
  | _ :: _, [], _, _, _, _, h => by simp at h
  | a :: xs, b :: ys, 0, x, y, h1, h2 => by simp at h1 h2; simp [zipL, h1, h2]
  | a :: xs, b :: ys, j + 1, x, y, h1, h2 => by
    have := zipL_at xs ys j x y (by simpa using h1) (by simpa using h2)
    simpa [zipL] using this
/-- a new pair is a tuple that stands -/
theorem newPair {K : PySem.W.Frag} {F H : Hp} {T : Addr} {x y : V} {d e : D} (fh : Same F H) (nT : H T = none) (hx : Dp K F x d) (hy : Dp K F y e) :
    ∃ F', Dp K F' (.ref T) (.tuple [d, e]) ∧ Same F' (upd H T (.tup [x, y])) ∧ Stp Non F H F' (upd H T (.tup [x, y])) :=
  ⟨_, .tup (SqT.of upd_same) (dpUpd (.cons hx (.cons hy .nil)) (nF fh nT)), sameLaid fh nT, Stp.laid nT fh⟩
theorem itdPair {K : PySem.W.Frag} {F0 : Hp} {J : It} {xs : List V} {ds : List D} {P : Hp → Prop} (hp : DpAll K F0 xs ds) (hP : ∀ H, Same F0 H → P H) (w : Walk J xs.length P (YPair (fun i => some (.int (i : Nat))) fun i => xs[i]?)) : Itd K F0 J (pairL 0 ds) where
  go := fun i H h hi => w.goes i H (by rw [pairL_len] at hi; rw [dpLen hp]; exact hi) (hP H h)
  stop := fun H h => by rw [pairL_len, ← dpLen hp]; exact w.stops H (hP H h)
  yld := fun i F H x H' h1 h2 hi y => by
    rw [pairL_len] at hi
    obtain ⟨T, a, b, e1, e2, e3, e4, e5⟩ := w.yields i H x H' (by rw [dpLen hp]; exact hi) (hP H (h1.trans h2)) y
    obtain ⟨d, hd, q⟩ := dpAtV hp e5
    have ea : V.int (i : Nat) = a := Option.some.inj e4
    subst e1 e3 ea
    obtain ⟨F', a1, a2, a3⟩ := newPair h2 e2 (Dp.int (i : Nat)) (dpMono h1 _ _ q)
    refine ⟨F', _, pairL_at 0 ds i d hd, ?_, a2, a3⟩
    rw [Nat.zero_add]
    exact a1
theorem itdZip {K : PySem.W.Frag} {F0 : Hp} {J : It} {n : Nat} {xs ys : List V} {ds es : List D} {P : Hp → Prop} (hn : n = min xs.length ys.length) (hp : DpAll K F0 xs ds) (hq : DpAll K F0 ys es) (hP : ∀ H, Same F0 H → P H) (w : Walk J n P (YPair (fun i => xs[i]?) fun i => ys[i]?)) : Itd K F0 J (zipL ds es) := by
  have hl : (zipL ds es).length = n := by rw [zipL_len, hn, dpLen hp, dpLen hq]
  refine ⟨fun i H h hi => w.goes i H (by rw [← hl]; exact hi) (hP H h), fun H h => by rw [hl]; exact w.stops H (hP H h), fun i F H x H' h1 h2 hi y => ?_⟩
  obtain ⟨T, a, b, e1, e2, e3, e4, e5⟩ := w.yields i H x H' (by rw [← hl]; exact hi) (hP H (h1.trans h2)) y
  obtain ⟨d, hd, q1⟩ := dpAtV hp e4
  obtain ⟨e, he, q2⟩ := dpAtV hq e5
  subst e1 e3
  obtain ⟨F', a1, a2, a3⟩ := newPair h2 e2 (dpMono h1 _ _ q1) (dpMono h1 _ _ q2)
  exact ⟨F', _, zipL_at ds es i d e hd he, a1, a2, a3⟩
theorem walkE {K : PySem.W.Frag} {a : Addr} {xs : List V} : Walk (ItE K a) xs.length (fun H => SqT K H a xs) (YPair (fun i => some (.int (i : Nat))) fun i => xs[i]?) := by
  refine ⟨fun i _ hi q => ⟨xs, xs[i], q, by simp [hi]⟩, fun _ q => ⟨xs, q, rfl⟩, fun i H v H' _ q y => ?_⟩
  obtain ⟨T, x, h1, h2, h3, h4⟩ := y
  exact ⟨T, .int (i : Nat), x, h1, h2, h3, rfl, h4 xs q⟩
theorem walkZ {K : PySem.W.Frag} {a b : Addr} {xs ys : List V} {n : Nat} (hn : n = min xs.length ys.length) : Walk (RZ.ItzT K a b) n (fun H => SqT K H a xs ∧ SqT K H b ys) (YPair (fun i => xs[i]?) (fun i => ys[i]?)) := by
  subst hn
  refine ⟨fun i _ hi q => ?_, fun _ q => ⟨xs, ys, q.1, q.2, by omega⟩, fun i H v H' _ q y => ?_⟩
  · have h1 : i < xs.length := by omega
    have h2 : i < ys.length := by omega
    exact ⟨xs, ys, xs[i], ys[i], q.1, q.2, by simp [h1], by simp [h2]⟩
  · obtain ⟨T, x, z, h1, h2, h3, h4, h5⟩ := y
    exact ⟨T, x, z, h1, h2, h3, h4 xs q.1, h5 ys q.2⟩
def iEnum' (f : Fa) : Fa := fun g => match f g with
  | some ([d], g') => (seqD d).map fun ds => (pairL 0 ds, g')
  | _ => none
theorem dpOne {K : PySem.W.Frag} {F : Hp} {vs : List V} {d : D} (h : DpAll K F vs [d]) : ∃ v, vs = [v] ∧ Dp K F v d := by
  cases h with
  | cons h1 h2 => cases h2; exact ⟨_, rfl, h1⟩
theorem dpTwo {K : PySem.W.Frag} {F : Hp} {vs : List V} {d e : D} (h : DpAll K F vs [d, e]) : ∃ v w, vs = [v, w] ∧ Dp K F v d ∧ Dp K F w e := by
  cases h with
  | cons h1 h2 =>
    obtain ⟨w, rfl, q⟩ := dpOne h2
    exact ⟨_, w, rfl, h1, q⟩
theorem di_enum {a : Expr} {p pos tp : Pos} {es : List Expr} {kk : Nat} {f : Fa} (hg : Gl X "enumerate") (hm : X.mg "enumerate" = none) (ha : DA X [a] f) (hs : starEach [a] X.env = [(false, eval a X.env)] := by rfl) :
    DI X (.Tuple es kk tp) (.Call (.Name "enumerate" p) [a] [] pos) (iEnum' f) := piMono (piOr (pi_enum hg hm ha hs) (pi_enT hg hm ha hs)) fun s H R ⟨F, g, ds, g', r, e, k⟩ => by
  unfold iEnum' at e
  split at e
  · rename_i d g1 q
    cases d with
    | list xs =>
      cases e
      refine .inl ⟨F, g, _, _, r, q, fun vs F1 H1 p1 r1 t1 m1 => ?_⟩
      obtain ⟨v, rfl, h⟩ := dpOne p1
      cases h with
      | lst hs ha => exact ⟨_, _, rfl, r1.fh.seq hs, k _ F1 H1 r1 t1 m1 (itdPair ha (fun H q => q.seq hs) walk_enum)⟩
    | tuple xs =>
      cases e
      refine .inr ⟨F, g, _, _, r, q, fun vs F1 H1 p1 r1 t1 m1 => ?_⟩
      obtain ⟨v, rfl, h⟩ := dpOne p1
      cases h with
      | tup hs ha => exact ⟨_, _, rfl, Same.tupS r1.fh hs, k _ F1 H1 r1 t1 m1 (itdPair ha (fun H q => Same.tupS q hs) walkE)⟩
    | _ => cases e
  · cases e
def iZip2 (f : Fa) : Fa := fun g => match f g with
  | some ([.tuple xs, .tuple ys], g') => some (zipL xs ys, g')
  | some ([.list xs, .list ys], g') => some (zipL xs ys, g')
  | _ => none
theorem di_zip {a b : Expr} {p pos tp : Pos} {es : List Expr} {kk : Nat} {f : Fa} (hg : Gl X "zip") (hm : X.mg "zip" = none) (ha : DA X [a, b] f)
    (hs : starEach [a, b] X.env = (false, eval a X.env) :: starEach [b] X.env := by rfl) (hpl : (backTo pos (starEach [b] X.env)).any (·.1) = false := by rfl) :
    DI X (.Tuple es kk tp) (.Call (.Name "zip" p) [a, b] [] pos) (iZip2 f) := piMono (RZ.pi_zipA hg hm ha hs hpl) fun s H R ⟨F, g, ds, g', r, e, k⟩ => by
  unfold iZip2 at e
  split at e
  · rename_i xs ys g1 q
    cases e
    refine ⟨F, g, _, _, r, q, fun vs F1 H1 p1 r1 t1 m1 => ?_⟩
    obtain ⟨v, w, rfl, h1, h2⟩ := dpTwo p1
    cases h1 with
    | tup hs ha =>
      cases h2 with
      | tup hs2 ha2 => exact ⟨_, _, _, _, rfl, .inr ⟨Same.tupS r1.fh hs, Same.tupS r1.fh hs2, k _ F1 H1 r1 t1 m1 (itdZip rfl ha ha2 (fun H q => ⟨Same.tupS q hs, Same.tupS q hs2⟩) (walkZ rfl))⟩⟩
  · rename_i xs ys g1 q
    cases e
    refine ⟨F, g, _, _, r, q, fun vs F1 H1 p1 r1 t1 m1 => ?_⟩
    obtain ⟨v, w, rfl, h1, h2⟩ := dpTwo p1
    cases h1 with
    | lst hs ha =>
      cases h2 with
      | lst hs2 ha2 => exact ⟨_, _, _, _, rfl, .inl ⟨r1.fh.seq hs, r1.fh.seq hs2, k _ F1 H1 r1 t1 m1 (itdZip rfl ha ha2 (fun H q => ⟨q.seq hs, q.seq hs2⟩) (walk_zip rfl))⟩⟩
  · cases e

/-! ### for -/
def forGo (t : Fg) (b : Fs) : List D → G → Option Out
  | [], g => some (.nx g)
  | d :: r, g => (t d g).bind fun g1 => (b g1).bind fun o => match o with
    | .nx g2 => forGo t b r g2
    | .ct g2 => forGo t b r g2
    | .bk g2 => some (.nx g2)
    | .ret x g2 => some (.ret x g2)
def sFor (f : Fa) (t : Fg) (b : Fs) : Fs := fun g => (f g).bind fun p => forGo t b p.1 p.2
theorem dropCons {ds : List D} {i : Nat} {d : D} (h : ds[i]? = some d) : ds.drop i = d :: ds.drop (i + 1) := by
  obtain ⟨hi, e⟩ := List.getElem?_eq_some_iff.mp h
  rw [List.drop_eq_getElem_cons hi, e]
theorem ds_for {tg iter : Expr} {body : List Stmt} {pos : Pos} {f : Fa} {t : Fg} {ws : List Nat} {b : Fs} (hp : PassesOwn (model X.prog X.w) X.A X.env X.xe) (hc : X.calm = true) (hi : DI X tg iter f) (hg : DG X tg t ws) (hb : DSs X body b)
    (hs : ∀ x, foldedSetIterable iter X.env x = pure x := by intro _; rfl) : DS X (.For tg iter body [] pos) (sFor f t b) := psMono (ps_for hp hc hi hg hb hs) fun D s H ⟨F, g, o, r, e, k⟩ => by
  unfold sFor at e
  cases q : f g with
  | none => rw [q] at e; cases e
  | some p =>
    obtain ⟨ds, g1⟩ := p
    rw [q] at e
    have e : forGo t b ds g1 = some o := e
    refine ⟨F, g, ds, g1, r, q, fun J F1 H1 r1 t1 m1 hJ => ?_⟩
    have tr1 := Tr.of r1 t1 m1
    refine ⟨fun i m s2 H2 => m = ds.length - i ∧ i ≤ ds.length ∧ ∃ F2 g2, Tr X.K F g s H F2 g2 s2 H2 ∧ Same F1 F2 ∧ forGo t b (ds.drop i) g2 = some o, ⟨ds.length, by simp, Nat.zero_le _, F1, g1, tr1, .refl _, by rw [List.drop_zero]; exact e⟩, ?_⟩
    rintro i m s2 H2 ⟨rfl, hle, F2, g2, tr2, sm2, w⟩
    by_cases hlt : i < ds.length
    · obtain ⟨d, hd⟩ : ∃ d, ds[i]? = some d := ⟨ds[i], List.getElem?_eq_getElem hlt⟩
      rw [dropCons hd] at w
      unfold forGo at w
      cases q1 : t d g2 with
      | none => rw [q1] at w; cases w
      | some g3 =>
        rw [q1] at w
        have w : (b g3).bind _ = some o := w
        cases q2 : b g3 with
        | none => rw [q2] at w; cases w
        | some o3 =>
          rw [q2] at w
          -- one turn: the item, the target, the body
          have step : ∀ (N : Sg → Hp → Prop) (bk : Sg → Hp → Prop) (rt : VK), (∀ F3 s3 H3, Tr X.K F g s H F3 g3 s3 H3 → Same F1 F3 → endS X.K F3 g3 s3 H3 { nx := N, rt := rt, bk := bk, ct := N } o3) → ∀ x H', J.yld i H2 x H' → tG X.K t ws x s2 H' fun s3 H3 => tS X.K b { nx := N, rt := rt, bk := bk, ct := N } s3 H3 := fun N bk rt hN x H' y => by
            obtain ⟨F', d', hd', hx, fh, st⟩ := hJ.yld i F2 H2 x H' sm2 tr2.rep.fh hlt y
            rw [hd] at hd'; cases hd'
            have r' := tr2.rep.stepN st fh
            have tr' : Tr X.K F g s H F' g2 s2 H' := tr2.trans ⟨r', st.weak fun _ z => z.elim, fun _ z => .inl z⟩
            exact ⟨F', g2, d, g3, r', hx, q1, fun F3 s3 H3 t3 _ _ => ⟨F3, g3, o3, t3.rep, q2, hN F3 s3 H3 (tr'.trans t3) ((sm2.trans st.fs).trans t3.stp.fs)⟩⟩
          refine .inr ⟨hJ.go i H2 (sm2.trans tr2.rep.fh) hlt, ?_⟩
          cases o3 with
          | nx g4 =>
            have w : forGo t b (ds.drop (i + 1)) g4 = some o := w
            refine ⟨fun s4 H4 => ∃ F4, Tr X.K F g s H F4 g4 s4 H4 ∧ Same F1 F4, fun s4 H4 ⟨F4, t4, sm4⟩ => ⟨ds.length - (i + 1), by omega, rfl, hlt, F4, g4, t4, sm4, w⟩, step _ _ _ fun F3 s3 H3 t3 sm3 F4 s4 H4 t4 => ⟨F4, t3.trans t4, sm3.trans t4.stp.fs⟩⟩
          | ct g4 =>
            have w : forGo t b (ds.drop (i + 1)) g4 = some o := w
            refine ⟨fun s4 H4 => ∃ F4, Tr X.K F g s H F4 g4 s4 H4 ∧ Same F1 F4, fun s4 H4 ⟨F4, t4, sm4⟩ => ⟨ds.length - (i + 1), by omega, rfl, hlt, F4, g4, t4, sm4, w⟩, step _ _ _ fun F3 s3 H3 t3 sm3 F4 s4 H4 t4 => ⟨F4, t3.trans t4, sm3.trans t4.stp.fs⟩⟩
          | bk g4 =>
            cases w
            exact ⟨fun _ _ => False, fun _ _ z => z.elim, step _ _ _ fun F3 s3 H3 t3 sm3 F4 s4 H4 t4 => k F4 s4 H4 (t3.trans t4)⟩
          | ret x g4 =>
            cases w
            exact ⟨fun _ _ => False, fun _ _ z => z.elim, step _ _ _ fun F3 s3 H3 t3 sm3 v F4 s4 H4 a n b t4 => k v F4 s4 H4 a n (b.back t3) (t3.trans t4)⟩
    · have hi : i = ds.length := by omega
      subst hi
      rw [List.drop_length] at w
      cases w
      exact .inl ⟨hJ.stop H2 (sm2.trans tr2.rep.fh), k F2 s2 H2 tr2⟩
end Dl
set_option Elab.async false
set_option linter.all false
set_option maxRecDepth 100000
namespace Dl
open PySem PySem.Spec PyProof.Rows L2
variable {X : Cx}

/-! ### comprehensions -/
def wipeG (g : G) : List Nat → G
  | [] => g
  | v :: vs => (wipeG g vs).set v .no
/-- the block's own slots as they were ahead of it -/
def backG (g1 g2 : G) : List Nat → G
  | [] => g2
  | v :: vs => (backG g1 g2 vs).set v (g1.getD v .no)
def okW (g : G) (vs : List Nat) : Bool := vs.all fun i => match g[i]? with
  | some (.own _ _) => false
  | _ => true
def lcGo (t : Fg) (c : Ft) (f : Fe) (vs : List Nat) : List D → G → Option (List D × G)
  | [], g => some ([], g)
  | d :: r, g => (t d g).bind fun g1 => (c g1).bind fun p => if p.1 = true then (f p.2).bind fun q => (lcGo t c f vs r (wipeG q.2 vs)).map fun w => (q.1 :: w.1, w.2) else lcGo t c f vs r (wipeG p.2 vs)
def vLc (fi : Fa) (t : Fg) (c : Ft) (f : Fe) (vs : List Nat) : Fv := fun g => (fi g).bind fun p => if okW p.2 vs = true then (lcGo t c f vs p.1 (wipeG p.2 vs)).bind fun q => if q.1.length ≤ 1000000 then some (.own none q.1, backG p.2 q.2 vs) else none else none

theorem wipeG_len (g : G) : ∀ vs, (wipeG g vs).length = g.length
  | [] => rfl
  | v :: vs => by simp [wipeG, wipeG_len g vs]
theorem wipeG_at (g : G) : ∀ (vs : List Nat) (i : Nat), i ∉ vs → (wipeG g vs)[i]? = g[i]?
  | [], _, _ => rfl
  | v :: vs, i, h => by
    have h1 : v ≠ i := fun e => h (by simp [e])
    rw [wipeG, List.getElem?_set_ne h1]
    exact wipeG_at g vs i fun z => h (List.mem_cons_of_mem _ z)
theorem wipeG_in (g : G) : ∀ (vs : List Nat) (i : Nat) (x : Sl), i ∈ vs → (wipeG g vs)[i]? = some x → x = .no
  | [], _, _, h, _ => by simp at h
  | v :: vs, i, x, h, e => by
    by_cases h1 : v = i
    · subst h1
      rw [wipeG] at e
      by_cases hv : v < (wipeG g vs).length
      · rw [List.getElem?_set_self hv] at e; cases e; rfl
      · rw [List.getElem?_eq_none (by simpa using hv)] at e; cases e
    · rw [wipeG, List.getElem?_set_ne h1] at e
      exact wipeG_in g vs i x ((List.mem_cons.mp h).resolve_left fun z => h1 z.symm) e
theorem wipeMo (g : G) (vs : List Nat) : Mo g (wipeG g vs) := fun i t ds e => by
  by_cases h : i ∈ vs
  · cases wipeG_in g vs i _ h e
  · rw [wipeG_at g vs i h] at e; exact ⟨ds, e⟩
theorem Rep.wipe {K : PySem.W.Frag} {F H : Hp} {g : G} {s : Sg} (r : Rep K F g s H) : ∀ vs : List Nat, Rep K F (wipeG g vs) (L2.wipe s vs) H
  | [] => r
  | v :: vs => (r.wipe vs).put v .no none trivial (fun _ _ _ e => nomatch e)
theorem ownWipe {g : G} {s : Sg} {vs : List Nat} {b : Addr} (h : OwnAt (wipeG g vs) (L2.wipe s vs) b) : OwnAt g s b := by
  obtain ⟨i, t, ds, e, q⟩ := h
  by_cases hi : i ∈ vs
  · cases wipeG_in g vs i _ hi e
  · rw [wipeG_at g vs i hi] at e
    exact ⟨i, t, ds, e, (wipe_some q).1⟩
theorem backG_len (g1 g2 : G) : ∀ vs, (backG g1 g2 vs).length = g2.length
  | [] => rfl
  | v :: vs => by simp [backG, backG_len g1 g2 vs]
theorem backG_at (g1 g2 : G) : ∀ (vs : List Nat) (i : Nat), i ∉ vs → (backG g1 g2 vs)[i]? = g2[i]?
  | [], _, _ => rfl
  | v :: vs, i, h => by
    have h1 : v ≠ i := fun e => h (by simp [e])
    rw [backG, List.getElem?_set_ne h1]
    exact backG_at g1 g2 vs i fun z => h (List.mem_cons_of_mem _ z)
theorem backG_in (g1 g2 : G) : ∀ (vs : List Nat) (i : Nat) (x : Sl), i ∈ vs → (backG g1 g2 vs)[i]? = some x → x = g1.getD i .no
  | [], _, _, h, _ => by simp at h
  | v :: vs, i, x, h, e => by
    by_cases h1 : v = i
    · subst h1
      rw [backG] at e
      by_cases hv : v < (backG g1 g2 vs).length
      · rw [List.getElem?_set_self hv] at e; cases e; rfl
      · rw [List.getElem?_eq_none (by simpa using hv)] at e; cases e
    · rw [backG, List.getElem?_set_ne h1] at e
      exact backG_in g1 g2 vs i x ((List.mem_cons.mp h).resolve_left fun z => h1 z.symm) e
theorem okW_at {g : G} {vs : List Nat} (h : okW g vs = true) {i : Nat} (hi : i ∈ vs) : ∀ t ds, g[i]? ≠ some (.own t ds) := fun t ds e => by
  have := List.all_eq_true.mp h i hi
  rw [e] at this
  cases this
/-- the frame's slots behind the block -/
theorem Rep.back {K : PySem.W.Frag} {F1 H1 F2 H2 : Hp} {g1 g2 : G} {s : Sg} {vs : List Nat} (r1 : Rep K F1 g1 s H1) (r2 : Rep K F2 g2 (L2.wipe s vs) H2) (hf : Same F1 F2) (ok : okW g1 vs = true) : Rep K F2 (backG g1 g2 vs) s H2 := by
  have len : g2.length = s.length := by rw [r2.len, wipe_length]
  have own : ∀ i t ds, (backG g1 g2 vs)[i]? = some (.own t ds) → i ∉ vs ∧ g2[i]? = some (.own t ds) := fun i t ds e => by
    by_cases hi : i ∈ vs
    · have z := backG_in g1 g2 vs i _ hi e
      have nx := okW_at ok hi
      rw [List.getD_eq_getElem?_getD] at z
      cases q : g1[i]? with
      | none => rw [q] at z; cases z
      | some y => rw [q] at z; subst z; exact absurd q (nx t ds)
    · rw [backG_at g1 g2 vs i hi] at e; exact ⟨hi, e⟩
  refine ⟨r2.fh, by rw [backG_len]; exact len, fun i x o hx ho => ?_, fun i j a t u ds es h1 h2 h3 h4 => ?_⟩
  · by_cases hi : i ∈ vs
    · have z := backG_in g1 g2 vs i x hi hx
      rw [List.getD_eq_getElem?_getD] at z
      cases q : g1[i]? with
      | none => rw [q] at z; subst z; trivial
      | some y =>
        rw [q] at z
        subst z
        have hr := r1.sl i x o q ho
        cases x with
        | no => trivial
        | v d =>
          obtain ⟨w, ew, hw⟩ := hr
          exact ⟨w, ew, dpMono hf _ _ hw⟩
        | own t ds => exact absurd q (okW_at ok hi t ds)
    · rw [backG_at g1 g2 vs i hi] at hx
      exact r2.sl i x o hx (by rw [wipe_out hi]; exact ho)
  · obtain ⟨n1, e1⟩ := own i t ds h1
    obtain ⟨n2, e2⟩ := own j u es h2
    exact r2.uq i j a t u ds es e1 e2 (by rw [wipe_out n1]; exact h3) (by rw [wipe_out n2]; exact h4)
theorem backMo {g1 g2 : G} {vs : List Nat} (ok : okW g1 vs = true) (m : Mo (wipeG g1 vs) g2) : Mo g1 (backG g1 g2 vs) := fun i t ds e => by
  by_cases hi : i ∈ vs
  · have z := backG_in g1 g2 vs i _ hi e
    rw [List.getD_eq_getElem?_getD] at z
    cases q : g1[i]? with
    | none => rw [q] at z; cases z
    | some y => rw [q] at z; subst z; exact absurd q (okW_at ok hi t ds)
  · rw [backG_at g1 g2 vs i hi] at e
    obtain ⟨es, h⟩ := m i t ds e
    rw [wipeG_at g1 vs i hi] at h
    exact ⟨es, h⟩
theorem chgWipe {s s' : Sg} {ws vs : List Nat} (c : Chg ws (L2.wipe s vs) s') (h : ∀ i ∈ ws, i ∈ vs) : L2.wipe s' vs = L2.wipe s vs := by
  apply List.ext_getElem?
  intro i
  by_cases hi : i ∈ vs
  · have key : ∀ (t : Sg) (us : List Nat), i ∈ us → (L2.wipe t us)[i]? = if i < t.length then some none else none := by
      intro t us
      induction us with
      | nil => intro hm; simp at hm
      | cons u us ih =>
        intro hm
        unfold L2.wipe
        by_cases hu : u = i
        · subst hu
          by_cases hl : u < t.length
          · rw [if_pos hl, List.getElem?_set_self (by rw [wipe_length]; exact hl)]
          · rw [if_neg hl, List.getElem?_eq_none (by rw [List.length_set, wipe_length]; omega)]
        · rw [List.getElem?_set_ne hu]
          exact ih ((List.mem_cons.mp hm).resolve_left fun z => hu z.symm)
    rw [key s' vs hi, key s vs hi, c.len, wipe_length]
  · rw [wipe_out hi, c.at' i fun z => hi (h i z)]

theorem appNew {K : PySem.W.Frag} {F H : Hp} {g : G} {s : Sg} {p : Addr} {xs : List V} {y : V} (r : Rep K F g s H) (fp : F p = none) (n : ¬ OwnAt g s p) (hp : H p = some (.lst xs)) :
    Rep K F g s (upd H p (.lst (xs ++ [y]))) ∧ Stp (fun b => b = p) F H F (upd H p (.lst (xs ++ [y]))) := by
  have t1 : Stp (fun b => b = p) F H F (upd H p (.lst (xs ++ [y]))) := ⟨.refl _, fun b o e n => by rw [upd_ne n]; exact e, fun b e e' => absurd e e', fun b e => by
    by_cases z : b = p
    · rw [z, upd_same]; simp
    · rw [upd_ne z]; exact e⟩
  exact ⟨r.step t1 (fun b hb z => n (by rw [← z]; exact hb)) fun b u e => by rw [upd_ne (ne_of_none e fp)]; exact r.fh b u e, t1⟩

/-- the reading of a comprehension, by data -/
theorem tLc_of {K : PySem.W.Frag} {fi : Fa} {t : Fg} {ws : List Nat} {c : Ft} {f : Fe} {vs : List Nat} (hw : ∀ i ∈ ws, i ∈ vs) {s : Sg} {H : Hp} {Q : VK} (h : tV K (vLc fi t c f vs) s H Q) : tLc (tI K fi) (tG K t ws) (tT K c) (tD K f) vs s H Q := by
  obtain ⟨F, g, x, g', r, e, k⟩ := h
  unfold vLc at e
  cases q : fi g with
  | none => rw [q] at e; cases e
  | some p =>
    obtain ⟨ds, g1⟩ := p
    rw [q] at e
    simp only [Option.bind_some] at e
    split at e
    · rename_i ok
      cases q2 : lcGo t c f vs ds (wipeG g1 vs) with
      | none => rw [q2] at e; cases e
      | some p2 =>
        obtain ⟨ys, gE⟩ := p2
        rw [q2] at e
        simp only [Option.bind_some] at e
        split at e
        · rename_i hlen
          cases e
          refine ⟨F, g, ds, g1, r, q, fun J F1 H1 r1 t1 m1 hJ A nA => ?_⟩
          have h0A : H A = none := by
            cases z : H A with
            | none => rfl
            | some o => exact absurd nA (t1.dom A (by rw [z]; simp))
          have nOwn : ¬ OwnAt g1 s A := fun z => by
            obtain ⟨xs, hx, _⟩ := r1.ownSome z
            rw [nA] at hx; cases hx
          -- what is true at each turn
          refine ⟨fun i m H2 => m = ds.length - i ∧ i ≤ ds.length ∧ ∃ F2 g2 acc accV rest, Rep K F2 g2 (L2.wipe s vs) H2 ∧ Same F1 F2 ∧ F2 A = none ∧ H2 A = some (.lst accV) ∧ DpAll K F2 accV acc ∧ Stp (OwnAt g1 s) F1 H1 F2 H2 ∧ Mo (wipeG g1 vs) g2 ∧ lcGo t c f vs (ds.drop i) g2 = some (rest, gE) ∧ acc ++ rest = ys,
            ⟨ds.length, by simp, Nat.zero_le _, F1, wipeG g1 vs, [], [], ys, (r1.wipe vs).stepN (Stp.made nA) (sameMade r1.fh nA), .refl _, nF r1.fh nA, upd_same, .nil, Stp.made nA, Mo.refl, by rw [List.drop_zero]; exact q2, rfl⟩, ?_⟩
          rintro i m H2 ⟨rfl, hle, F2, g2, acc, accV, rest, r2, sm2, fA, hA, hac, st2, mo2, w, hsum⟩
          have nOwn2 : ∀ {g3 : G} {s3 : Sg}, (∀ b, OwnAt g3 s3 b → OwnAt g2 (L2.wipe s vs) b ∨ H2 b = none) → ¬ OwnAt g3 s3 A := fun {g3 s3} hh z => by
            rcases hh A z with z | z
            · obtain ⟨j, tg, es, e1, e2⟩ := z
              obtain ⟨es', e3⟩ := mo2 j tg es e1
              exact nOwn (ownWipe ⟨j, tg, es', e3, e2⟩)
            · rw [hA] at z; cases z
          by_cases hlt : i < ds.length
          · obtain ⟨d, hd⟩ : ∃ d, ds[i]? = some d := ⟨ds[i], List.getElem?_eq_getElem hlt⟩
            rw [dropCons hd] at w
            unfold lcGo at w
            cases q3 : t d g2 with
            | none => rw [q3] at w; cases w
            | some g3 =>
              rw [q3] at w
              have w : (c g3).bind _ = some (rest, gE) := w
              cases q4 : c g3 with
              | none => rw [q4] at w; cases w
              | some p4 =>
                obtain ⟨cb, g4⟩ := p4
                rw [q4] at w
                refine .inr ⟨hJ.go i H2 (sm2.trans r2.fh) hlt, fun H5 => ∃ F2 g2 acc accV rest, Rep K F2 g2 (L2.wipe s vs) H5 ∧ Same F1 F2 ∧ F2 A = none ∧ H5 A = some (.lst accV) ∧ DpAll K F2 accV acc ∧ Stp (OwnAt g1 s) F1 H1 F2 H5 ∧ Mo (wipeG g1 vs) g2 ∧ lcGo t c f vs (ds.drop (i + 1)) g2 = some (rest, gE) ∧ acc ++ rest = ys, fun H5 hN => ⟨ds.length - (i + 1), by omega, rfl, hlt, hN⟩, fun x H' y => ?_⟩
                obtain ⟨F', d', hd', hx, fh, st⟩ := hJ.yld i F2 H2 x H' sm2 r2.fh hlt y
                rw [hd] at hd'; cases hd'
                have r' := r2.stepN st fh
                refine ⟨F', g2, d, g3, r', hx, q3, fun F3 s3 H3 t3 m3 c3 => ⟨chgWipe c3 hw, F3, g3, cb, g4, t3.rep, q4, fun F4 H4 r4 st4 m4 => ?_⟩⟩
                have tr : Tr K F2 g2 (L2.wipe s vs) H2 F4 g4 s3 H4 := (Tr.trans ⟨r', st.weak fun _ z => z.elim, fun _ z => .inl z⟩ t3).trans (Tr.of r4 st4 m4)
                have moT : Mo (wipeG g1 vs) g4 := (mo2.trans m3).trans m4
                have keepA : ∀ {F9 H9 : Hp} {g9 : G}, Tr K F2 g2 (L2.wipe s vs) H2 F9 g9 s3 H9 → H9 A = some (.lst accV) ∧ F9 A = none := fun {F9 H9 g9} t9 => by
                  have n2 : ¬ OwnAt g2 (L2.wipe s vs) A := nOwn2 fun _ z => .inl z
                  refine ⟨t9.stp.keep A _ hA n2, ?_⟩
                  cases z : F9 A with
                  | none => rfl
                  | some u =>
                    rcases t9.stp.fresh A fA (by rw [z]; simp) with z2 | z2
                    · rw [hA] at z2; cases z2
                    · exact absurd z2 n2
                have stAll : ∀ {F9 H9 : Hp} {g9 : G}, Tr K F2 g2 (L2.wipe s vs) H2 F9 g9 s3 H9 → Stp (OwnAt g1 s) F1 H1 F9 H9 := fun {F9 H9 g9} t9 => st2.trans t9.stp fun b z => by
                  obtain ⟨j, tg, es, e1, e2⟩ := z
                  obtain ⟨es', e3⟩ := mo2 j tg es e1
                  exact .inl (ownWipe ⟨j, tg, es', e3, e2⟩)
                have wp : ∀ {F9 H9 : Hp} {g9 : G}, Rep K F9 g9 s3 H9 → Rep K F9 (wipeG g9 vs) (L2.wipe s vs) H9 := fun {F9 H9 g9} r9 => by
                  have := r9.wipe vs
                  rwa [chgWipe c3 hw] at this
                cases cb with
                | true =>
                  refine iteT ?_
                  have w : (f g4).bind _ = some (rest, gE) := w
                  cases q5 : f g4 with
                  | none => rw [q5] at w; cases w
                  | some p5 =>
                    obtain ⟨yd, g5⟩ := p5
                    rw [q5] at w
                    have w : (lcGo t c f vs (ds.drop (i + 1)) (wipeG g5 vs)).map _ = some (rest, gE) := w
                    cases q6 : lcGo t c f vs (ds.drop (i + 1)) (wipeG g5 vs) with
                    | none => rw [q6] at w; cases w
                    | some p6 =>
                      obtain ⟨rs, g6⟩ := p6
                      rw [q6] at w
                      cases w
                      refine ⟨F4, g4, yd, g5, r4, q5, fun yv F5 H5 hy r5 st5 m5 => ?_⟩
                      have tr5 := tr.trans (Tr.of r5 st5 m5)
                      obtain ⟨hA5, fA5⟩ := keepA tr5
                      refine ⟨accV, hA5, ?_, ?_⟩
                      · rw [dpLen hac]
                        have : acc.length < ys.length := by rw [← hsum]; simp
                        exact Nat.lt_of_lt_of_le this (Nat.le_trans hlen million)
                      · obtain ⟨ra, sa⟩ := appNew (y := yv) r5 fA5 (nOwn2 tr5.own) hA5
                        refine ⟨F5, wipeG g5 vs, acc ++ [yd], accV ++ [yv], rs, wp ra, sm2.trans tr5.stp.fs, fA5, upd_same, dpApp (dpMonos tr5.stp.fs _ _ hac) (.cons hy .nil), ?_, (moT.trans m5).trans (wipeMo g5 vs), q6, by rw [← hsum]; simp⟩
                        exact (stAll tr5).trans sa fun b z => .inr (by rw [z]; exact nA)
                | false =>
                  refine iteF ?_
                  have w : lcGo t c f vs (ds.drop (i + 1)) (wipeG g4 vs) = some (rest, gE) := w
                  obtain ⟨hA5, fA5⟩ := keepA tr
                  exact ⟨F4, wipeG g4 vs, acc, accV, rest, wp r4, sm2.trans tr.stp.fs, fA5, hA5, dpMonos tr.stp.fs _ _ hac, stAll tr, moT.trans (wipeMo g4 vs), w, hsum⟩
          · have hi : i = ds.length := by omega
            subst hi
            rw [List.drop_length] at w
            cases w
            rw [List.append_nil] at hsum
            subst hsum
            refine .inl ⟨hJ.stop H2 (sm2.trans r2.fh), k (.ref A) F2 H2 ⟨A, accV, rfl, fA, hA, hac, fun b e => nomatch e⟩ (fun tg es z => ?_) (r1.back r2 sm2 ok) (t1.two m1 st2) (m1.trans (backMo ok mo2))⟩
            cases z
            exact ⟨rfl, A, rfl, h0A⟩
        · cases e
    · cases e
def cYes : Ft := fun g => some (true, g)
abbrev Blk (X : Cx) (scope : Scope) (st : Shared) (H : Hp) (C : Addr) (cl : List (Str × Addr)) (fp : List Addr) : Cx := X.blk st H scope (compEnvC scope cl C X.env) fp
def DCs (X : Cx) (ifs : List Expr) (c : Ft) : Prop := PTs X ifs (tT X.K c)
theorem dcs_nil : DCs X [] cYes := ⟨fun pins st s H Q I ⟨F, g, b, g', r, e, k⟩ => by
  cases e
  exact pts_nil.run pins st s H Q I (k F H r Stp.refl Mo.refl)⟩
theorem dcs_one {a : Expr} {c : Ft} (h : DT X a c) : DCs X [a] c := pts_one h
theorem dv_lc {elt tg iter : Expr} {ifs : List Expr} {scope : Scope} (own : List (Str × Nat)) {pos : Pos} {fi : Fa} {t : Fg} {ws : List Nat} {c : Ft} {f : Fe} (hc : X.calm = true) (hN : X.N.Nodup) (hi : DI X tg iter fi) (ok : blkC X.N X.env.scope scope own = true)
    (hg : ∀ st H C cl fp, DG (Blk X scope st H C cl fp) tg t ws) (ht : ∀ st H C cl fp, DCs (Blk X scope st H C cl fp) ifs c)
    (he : ∀ st H C cl fp, DE (Blk X scope st H C cl fp) elt f) (hw : ∀ i ∈ ws, i ∈ own.map (·.2) := by decide) (hs : ∀ x, foldedSetIterable iter X.env x = pure x := by intro _; rfl) :
    DV X (.ListComp elt [⟨tg, iter, ifs, 0⟩] scope pos) (vLc fi t c f (own.map (·.2))) := peMono (pe_lc (g := tG X.K t ws) (tt := tT X.K c) (te := tD X.K f) hc hN hi (blkOk_by ok) hg ht he hs) fun _ _ _ h => tLc_of hw h
/-- name = [..] on one row -/
theorem ds_setLc (i : Nat) {y : Str} {py : Pos} {elt tg iter : Expr} {ifs : List Expr} {scope : Scope} (own : List (Str × Nat)) {pos spos : Pos} {fi : Fa} {t : Fg} {ws : List Nat} {c : Ft} {f : Fe} (hc : X.calm = true) (hN : X.N.Nodup) (hi : DI X tg iter fi) (ok : blkC X.N X.env.scope scope own = true)
    (hg : ∀ st H C cl fp, DG (Blk X scope st H C cl fp) tg t ws) (ht : ∀ st H C cl fp, DCs (Blk X scope st H C cl fp) ifs c)
    (he : ∀ st H C cl fp, DE (Blk X scope st H C cl fp) elt f) (hsw : swapsWith (.ListComp elt [⟨tg, iter, ifs, 0⟩] scope pos) (some (.Name y py)) spos.line X.env = pure true) (hy : X.N[i]? = some y := by rfl) (hyl : X.env.scope.names.lookup y = some .local := by rfl)
    (hw : ∀ i ∈ ws, i ∈ own.map (·.2) := by decide) (hs : ∀ x, foldedSetIterable iter X.env x = pure x := by intro _; rfl) :
    DS X (.Assign [.Name y py] (.ListComp elt [⟨tg, iter, ifs, 0⟩] scope pos) spos) (sSet i (vLc fi t c f (own.map (·.2)))) := psMono (ps_setLc (g := tG X.K t ws) (tt := tT X.K c) (te := tD X.K f) hc hN hy hyl hsw hi (blkOk_by ok) hg ht he hs) fun D s H ⟨F, g, o, r, e, k⟩ => by
  unfold sSet at e
  cases q : vLc fi t c f (own.map (·.2)) g with
  | none => rw [q] at e; cases e
  | some p =>
    obtain ⟨x, g1⟩ := p
    rw [q] at e
    exact tLc_of hw ⟨F, g, x, g1, r, q, fun v F1 H1 hv hn r1 t1 m1 => set_end r r1 t1 m1 hv hn e k⟩
end Dl
set_option Elab.async false
set_option linter.all false
set_option maxRecDepth 100000
namespace Dl
open PySem PySem.Spec PyProof.Rows L2
variable {X : Cx}

/-! ### built-in functions of one argument -/
def C1Ok (K : PySem.W.Frag) (r : List V → Hp → VK → Prop) (op : D → Option D) : Prop := ∀ (v : V) (d1 d : D) (F H : Hp) (Q : VK), Same F H → BD K F H v d1 → op d1 = some d →
  (∀ v F' H', Dp K F' v d → Same F' H' → Stp Non F H F' H' → Q v H') → r [v] H Q
theorem tCB_of {K : PySem.W.Frag} {r : List V → Hp → VK → Prop} {op : D → Option D} {f : Fe} (ok : C1Ok K r op) {s : Sg} {H : Hp} {Q : VK} (h : tD K (eUn op f) s H Q) : tCB r (tCons (tB K f) tNil) s H Q := by
  obtain ⟨F, g, d, g', rp, e, k⟩ := h
  obtain ⟨d1, e1, e2⟩ := eUn_inv e
  exact ⟨F, g, d1, g', rp, e1, fun v1 F1 H1 p1 r1 t1 m1 => ok v1 d1 d F1 H1 Q r1.fh p1 e2 fun v F2 H2 p2 fh t2 => k v F2 H2 p2 (r1.stepN t2 fh) (t1.andN t2) m1⟩
theorem de_b1 {x : Str} {id : String} {p pos : Pos} {a : Expr} {f : Fe} {r : List V → Hp → VK → Prop} {op : D → Option D} (hc : CallR X (.builtin id) r) (ok : C1Ok X.K r op) (hg : Gl X x) (hm : X.mg x = none) (hv : bootBuiltins x = some (.builtin id)) (ha : DB X a f)
    (hn : x ≠ "__name__" := by decide) (hdb : (x == ("__debug__" : Str)) = false := by decide) (he : starEach [a] X.env = (false, eval a X.env) :: starEach [] X.env := by rfl) (hpl : (backTo pos (starEach [] X.env)).any (·.1) = false := by rfl) : DE X (.Call (.Name x p) [a] [] pos) (eUn op f) :=
  peMono (pe_callB hc hg hm hv (pa_cons ha pa_nil he) hn hdb he hpl) fun _ _ _ h => tCB_of ok h
theorem de_t1 {x : Str} {id : String} {p pos : Pos} {a : Expr} {f : Fe} {r : List V → Hp → VK → Prop} {op : D → Option D} (hc : CallR X (.type id) r) (ok : C1Ok X.K r op) (hg : Gl X x) (hm : X.mg x = none) (hv : bootBuiltins x = some (.type id)) (ha : DB X a f)
    (hn : x ≠ "__name__" := by decide) (hdb : (x == ("__debug__" : Str)) = false := by decide) (he : starEach [a] X.env = (false, eval a X.env) :: starEach [] X.env := by rfl) (hpl : (backTo pos (starEach [] X.env)).any (·.1) = false := by rfl) : DE X (.Call (.Name x p) [a] [] pos) (eUn op f) :=
  peMono (pe_callTy hc hg hm hv (pa_cons ha pa_nil he) hn hdb he hpl) fun _ _ _ h => tCB_of ok h
/-- len -/
def lenD : D → Option D
  | .list ds => some (.int (ds.length : Nat))
  | .tuple ds => some (.int (ds.length : Nat))
  | .str x => if x.length ≤ sizeLine then some (.int (x.length : Nat)) else none
  | _ => none
theorem ok_len : C1Ok X.K (fun xs H Q => ∃ x n, xs = [x] ∧ LenV X.K x H n ∧ Q (.int n) H) lenD := fun v d1 d F H Q fh p e k => by
  have p' := p.dp fh
  unfold lenD at e
  split at e
  · cases e
    cases p' with
    | lst hs ha => exact ⟨_, _, rfl, .inl ⟨_, hs, (dpLen ha).symm⟩, k _ F H (.int _) fh Stp.refl⟩
  · cases e
    cases p' with
    | tup hs ha => exact ⟨_, _, rfl, .inr ⟨_, hs, (dpLen ha).symm⟩, k _ F H (.int _) fh Stp.refl⟩
  · split at e
    · rename_i hz
      cases e
      cases p'
      exact ⟨_, _, rfl, ⟨hz, rfl⟩, k _ F H (.int _) fh Stp.refl⟩
    · cases e
  · cases e
/-- abs -/
def absD : D → Option D
  | .int i => some (.int (if i < 0 then -i else i))
  | _ => none
theorem ok_abs : C1Ok X.K (fun xs H Q => ∃ i, xs = [.int i] ∧ Q (.int (if i < 0 then -i else i)) H) absD := fun v d1 d F H Q fh p e k => by
  have p' := p.dp fh
  unfold absD at e
  split at e
  · cases e
    cases p'
    exact ⟨_, rfl, k _ F H (.int _) fh Stp.refl⟩
  · cases e
/-- int of an int, a bool -/
def intD : D → Option D
  | .int i => some (.int i)
  | .bool b => some (.int (if b then 1 else 0))
  | _ => none
theorem ok_int : C1Ok X.K (fun xs H Q => (∃ i, xs = [.int i] ∧ Q (.int i) H) ∨ ∃ k, xs = [.bl k] ∧ Q (.int (if k then 1 else 0)) H) intD := fun v d1 d F H Q fh p e k => by
  have p' := p.dp fh
  unfold intD at e
  split at e
  · cases e
    cases p'
    exact .inl ⟨_, rfl, k _ F H (.int _) fh Stp.refl⟩
  · cases e
    cases p'
    exact .inr ⟨_, rfl, k _ F H (.int _) fh Stp.refl⟩
  · cases e
/-- tuple -/
def tupD : D → Option D
  | .list ds => some (.tuple ds)
  | .tuple ds => some (.tuple ds)
  | _ => none
theorem ok_tup : C1Ok X.K (fun xs H Q => ∃ p ys, xs = [.ref p] ∧ ((SqL X.K H p ys ∧ ∀ l, H l = none → Q (.ref l) (upd H l (.tup ys))) ∨ (SqT X.K H p ys ∧ Q (.ref p) H))) tupD := fun v d1 d F H Q fh p e k => by
  unfold tupD at e
  split at e
  · cases e
    rcases p with p | ⟨ds, a, xs, e1, e2, ha, hp⟩
    · cases p with
      | lst hs ha => exact ⟨_, _, rfl, .inl ⟨fh.seq hs, newTup fh ha k⟩⟩
    · cases e1
      subst e2
      exact ⟨a, xs, rfl, .inl ⟨SqL.of ha, newTup fh hp k⟩⟩
  · cases e
    rcases p with p | ⟨ds, a, xs, e1, e2, ha, hp⟩
    · cases p with
      | tup hs ha => exact ⟨_, _, rfl, .inr ⟨Same.tupS fh hs, k _ F H (.tup hs ha) fh Stp.refl⟩⟩
    · cases e1
  · cases e
/-- flags of a list -/
def boolL : List D → Option (List Bool)
  | [] => some []
  | .bool b :: r => (boolL r).map fun bs => b :: bs
  | _ => none
theorem boolL_of {K : PySem.W.Frag} {H : Hp} : ∀ {ds : List D} {bs : List Bool} {vs : List V}, boolL ds = some bs → DpAll K H vs ds → vs = bs.map V.bl
  | [], _, _, e, h => by cases e; cases h; rfl
  | .bool b :: r, bs, vs, e, h => by
    have e : (boolL r).map _ = some bs := e
    cases q : boolL r with
    | none => rw [q] at e; cases e
    | some cs =>
      rw [q] at e
      cases e
      cases h with
      | cons h1 h2 => cases h1; rw [boolL_of q h2]; rfl
  | .none :: _, _, _, e, _ => by cases e
  | .int _ :: _, _, _, e, _ => by cases e
  | .str _ :: _, _, _, e, _ => by cases e
  | .list _ :: _, _, _, e, _ => by cases e
  | .tuple _ :: _, _, _, e, _ => by cases e
  | .dict _ :: _, _, _, e, _ => by cases e
def allD : D → Option D
  | .list ds => (boolL ds).map fun bs => .bool (bs.all id)
  | _ => none
def anyD : D → Option D
  | .list ds => (boolL ds).map fun bs => .bool (bs.any id)
  | _ => none
theorem ok_all : C1Ok X.K (rAll X.K) allD := fun v d1 d F H Q fh p e k => by
  have p' := p.dp fh
  unfold allD at e
  split at e
  · rename_i ds
    cases q : boolL ds with
    | none => rw [q] at e; cases e
    | some bs =>
      rw [q] at e
      cases e
      cases p' with
      | lst hs ha => exact ⟨_, bs, rfl, by rw [← boolL_of q ha]; exact hs, k _ F H (.bl _) fh Stp.refl⟩
  · cases e
theorem ok_any : C1Ok X.K (rAny X.K) anyD := fun v d1 d F H Q fh p e k => by
  have p' := p.dp fh
  unfold anyD at e
  split at e
  · rename_i ds
    cases q : boolL ds with
    | none => rw [q] at e; cases e
    | some bs =>
      rw [q] at e
      cases e
      cases p' with
      | lst hs ha => exact ⟨_, bs, rfl, by rw [← boolL_of q ha]; exact hs, k _ F H (.bl _) fh Stp.refl⟩
  · cases e
/-- intL of a list -/
def intL : List D → Option (List Int)
  | [] => some []
  | .int b :: r => (intL r).map fun bs => b :: bs
  | _ => none
theorem intL_of {K : PySem.W.Frag} {H : Hp} : ∀ {ds : List D} {bs : List Int} {vs : List V}, intL ds = some bs → DpAll K H vs ds → vs = bs.map V.int
  | [], _, _, e, h => by cases e; cases h; rfl
  | .int b :: r, bs, vs, e, h => by
    have e : (intL r).map _ = some bs := e
    cases q : intL r with
    | none => rw [q] at e; cases e
    | some cs =>
      rw [q] at e
      cases e
      cases h with
      | cons h1 h2 => cases h1; rw [intL_of q h2]; rfl
  | .none :: _, _, _, e, _ => by cases e
  | .bool _ :: _, _, _, e, _ => by cases e
  | .str _ :: _, _, _, e, _ => by cases e
  | .list _ :: _, _, _, e, _ => by cases e
  | .tuple _ :: _, _, _, e, _ => by cases e
  | .dict _ :: _, _, _, e, _ => by cases e
def sumD : D → Option D
  | .list ds => (intL ds).map fun bs => .int bs.sum
  | _ => none
theorem ok_sum : C1Ok X.K (rSum X.K) sumD := fun v d1 d F H Q fh p e k => by
  have p' := p.dp fh
  unfold sumD at e
  split at e
  · rename_i ds
    cases q : intL ds with
    | none => rw [q] at e; cases e
    | some bs =>
      rw [q] at e
      cases e
      cases p' with
      | lst hs ha => exact ⟨_, bs, rfl, by rw [← intL_of q ha]; exact hs, k _ F H (.int _) fh Stp.refl⟩
  · cases e
section
variable {a : Expr} {f : Fe} {p pos : Pos}
theorem de_len (hg : Gl X "len") (hm : X.mg "len" = none) (ha : DB X a f) (he : starEach [a] X.env = (false, eval a X.env) :: starEach [] X.env := by rfl) : DE X (.Call (.Name "len" p) [a] [] pos) (eUn lenD f) := de_b1 call_len ok_len hg hm PySem.boot_len ha (he := he)
theorem de_abs (hg : Gl X "abs") (hm : X.mg "abs" = none) (ha : DB X a f) (he : starEach [a] X.env = (false, eval a X.env) :: starEach [] X.env := by rfl) : DE X (.Call (.Name "abs" p) [a] [] pos) (eUn absD f) := de_b1 call_abs ok_abs hg hm (by decide +kernel) ha (he := he)
theorem de_int1 (hg : Gl X "int") (hm : X.mg "int" = none) (ha : DB X a f) (he : starEach [a] X.env = (false, eval a X.env) :: starEach [] X.env := by rfl) : DE X (.Call (.Name "int" p) [a] [] pos) (eUn intD f) := de_t1 call_int1 ok_int hg hm (by decide +kernel) ha (he := he)
theorem de_tuple (hg : Gl X "tuple") (hm : X.mg "tuple" = none) (ha : DB X a f) (he : starEach [a] X.env = (false, eval a X.env) :: starEach [] X.env := by rfl) : DE X (.Call (.Name "tuple" p) [a] [] pos) (eUn tupD f) := de_t1 call_tuple_of ok_tup hg hm (by decide +kernel) ha (he := he)
theorem de_all (hc : X.calm = true) (hg : Gl X "all") (hm : X.mg "all" = none) (ha : DB X a f) (he : starEach [a] X.env = (false, eval a X.env) :: starEach [] X.env := by rfl) : DE X (.Call (.Name "all" p) [a] [] pos) (eUn allD f) := de_b1 (cr_all hc) ok_all hg hm (by decide +kernel) ha (he := he)
theorem de_any (hc : X.calm = true) (hg : Gl X "any") (hm : X.mg "any" = none) (ha : DB X a f) (he : starEach [a] X.env = (false, eval a X.env) :: starEach [] X.env := by rfl) : DE X (.Call (.Name "any" p) [a] [] pos) (eUn anyD f) := de_b1 (cr_any hc) ok_any hg hm (by decide +kernel) ha (he := he)
theorem de_sum (hc : X.calm = true) (hg : Gl X "sum") (hm : X.mg "sum" = none) (ha : DB X a f) (he : starEach [a] X.env = (false, eval a X.env) :: starEach [] X.env := by rfl) : DE X (.Call (.Name "sum" p) [a] [] pos) (eUn sumD f) := de_b1 (cr_sum hc) ok_sum hg hm (by decide +kernel) ha (he := he)
end
/-- repr of a list, a tuple -/
def reprD (d : D) : Option D := if d.showable = true ∧ d.hasDict = false ∧ d.depth ≤ 60 ∧ isDisplay d = true ∧ d.shown.length ≤ sizeLine then some (.str d.shown) else none
theorem call_reprD (hg : X.A.guards = some []) (hu : X.A.units + 64 < cLine) : CallR X (.builtin "repr") (fun xs H Q => ∃ x d, xs = [x] ∧ Dp X.K H x d ∧ d.showable = true ∧ d.hasDict = false ∧ d.depth ≤ 60 ∧ isDisplay d = true ∧ d.shown.length ≤ sizeLine ∧ Q (.str d.shown) H) := by
  intro pins st s H xs us Q I r h
  obtain ⟨x, d, rfl, hp, h1, h2, h3, h4, h5, q⟩ := h
  obtain ⟨u, rfl, rx⟩ := vals1 r
  obtain ⟨as, rd⟩ := Dp.reads I d x u hp rx
  obtain ⟨a, rfl⟩ := isRef_of_reads rd h4
  refine repr_of_reads' rd h1 (PyData.noDict_hsm h2) hg (by omega) (fun _ _ e => e) (fun h' w tk hk => ?_) h5
  exact ⟨.str d.shown, H, I.kept hk, ⟨w, rfl⟩, q⟩
theorem ok_repr : C1Ok X.K (fun xs H Q => ∃ x d, xs = [x] ∧ Dp X.K H x d ∧ d.showable = true ∧ d.hasDict = false ∧ d.depth ≤ 60 ∧ isDisplay d = true ∧ d.shown.length ≤ sizeLine ∧ Q (.str d.shown) H) reprD := fun v d1 d F H Q fh p e k => by
  unfold reprD at e
  split at e
  · rename_i hh
    cases e
    exact ⟨v, d1, rfl, p.dp fh, hh.1, hh.2.1, hh.2.2.1, hh.2.2.2.1, hh.2.2.2.2, k _ F H (.str _) fh Stp.refl⟩
  · cases e
theorem de_repr {a : Expr} {f : Fe} {p pos : Pos} (hgd : X.A.guards = some []) (hu : X.A.units + 64 < cLine) (hg : Gl X "repr") (hm : X.mg "repr" = none) (ha : DB X a f) (he : starEach [a] X.env = (false, eval a X.env) :: starEach [] X.env := by rfl) : DE X (.Call (.Name "repr" p) [a] [] pos) (eUn reprD f) :=
  de_b1 (call_reprD hgd hu) ok_repr hg hm (by decide +kernel) ha (he := he)

/-! ### isinstance -/
def tyD : D → Option String
  | .none => some "NoneType"
  | .bool _ => some "bool"
  | .int _ => some "int"
  | .str _ => some "str"
  | .list _ => some "list"
  | .tuple _ => some "tuple"
  | .dict _ => none
theorem tyX_of {K : PySem.W.Frag} {H : Hp} {v : V} {d : D} {n : String} (h : Dp K H v d) (e : tyD d = some n) : TyX K H v (.type n) := by
  cases h with
  | non => cases e; exact .base .non
  | bl b => cases e; exact .base (.bl b)
  | int i => cases e; exact .base (.int i)
  | str x => cases e; exact .base (.str x)
  | lst hs ha =>
    cases e
    rcases hs with (hs | ⟨o, hs⟩) | ⟨o, its, m, hk, hc, _⟩
    · exact .base (.lst hs)
    · exact .base (.frz hs)
    · exact .kList hk hc
  | tup hs ha =>
    cases e
    rcases hs with (hs | ⟨o, hs⟩) | ⟨o, its, m, hk, hc, _⟩
    · exact .base (.tup hs)
    · exact .fTuple hs
    · exact .kTuple hk hc
/-- isinstance(e, T) -/
def isiD (T : String) (d : D) : Option D := (tyD d).bind fun n => (kitB n T).map fun b => .bool b
theorem de_isi {a : Expr} {f : Fe} {p pt pos : Pos} {T : Str} {n : String} (hg : Gl X "isinstance") (hm : X.mg "isinstance" = none) (hgT : Gl X T) (hmT : X.mg T = none) (hv : bootBuiltins T = some (.type n)) (ha : DE X a f)
    (hn : T ≠ "__name__" := by decide) (hd : (T == ("__debug__" : Str)) = false := by decide)
    (he : starEach [a, .Name T pt] X.env = (false, eval a X.env) :: starEach [.Name T pt] X.env := by rfl) (he2 : starEach [.Name T pt] X.env = (false, eval (.Name T pt) X.env) :: starEach [] X.env := by rfl) (hpl : (backTo pos (starEach [.Name T pt] X.env)).any (·.1) = false := by rfl) :
    DE X (.Call (.Name "isinstance" p) [a, .Name T pt] [] pos) (eUn (isiD n) f) :=
  peMono (pe_callB call_isi hg hm (by decide +kernel) (pa_cons ha (pa_cons (pe_bltn (v := .ty n) hgT hmT hv rfl hn hd) pa_nil he2) he) (by decide) (by decide) he hpl) fun s H Q h => by
    obtain ⟨F, g, d, g', rp, e, k⟩ := h
    obtain ⟨d1, e1, e2⟩ := eUn_inv e
    refine ⟨F, g, d1, g', rp, e1, fun v1 F1 H1 p1 r1 t1 m1 => ?_⟩
    unfold isiD at e2
    cases q : tyD d1 with
    | none => rw [q] at e2; cases e2
    | some m =>
      rw [q] at e2
      have e2 : (kitB m n).map _ = some d := e2
      cases q2 : kitB m n with
      | none => rw [q2] at e2; cases e2
      | some b =>
        rw [q2] at e2; cases e2
        exact ⟨v1, .ty n, .type m, .type n, b, rfl, .ty n, tyX_of (dpMono r1.fh _ _ p1) q, kit_ty q2, k _ F1 H1 (.bl b) r1 t1 m1⟩
/-- isinstance(e, (T, U)) -/
def isi2D (T U : String) (d : D) : Option D := (tyD d).bind fun n => match kitB n T, kitB n U with
  | some a, some b => some (.bool (a || b))
  | _, _ => none
theorem de_isi2 {a : Expr} {f : Fe} {p pt pu pos tp : Pos} {kk : Nat} {T U : Str} {n m : String} (hg : Gl X "isinstance") (hm : X.mg "isinstance" = none) (hgT : Gl X T) (hmT : X.mg T = none) (hv : bootBuiltins T = some (.type n)) (hgU : Gl X U) (hmU : X.mg U = none) (hvU : bootBuiltins U = some (.type m)) (ha : DE X a f)
    (hn : T ≠ "__name__" := by decide) (hd : (T == ("__debug__" : Str)) = false := by decide) (hnU : U ≠ "__name__" := by decide) (hdU : (U == ("__debug__" : Str)) = false := by decide)
    (he : starEach [a, .Tuple [.Name T pt, .Name U pu] kk tp] X.env = (false, eval a X.env) :: starEach [.Tuple [.Name T pt, .Name U pu] kk tp] X.env := by rfl) (he2 : starEach [.Tuple [.Name T pt, .Name U pu] kk tp] X.env = (false, eval (.Tuple [.Name T pt, .Name U pu] kk tp) X.env) :: starEach [] X.env := by rfl)
    (h3 : starEach [.Name T pt, .Name U pu] X.env = (false, eval (.Name T pt) X.env) :: starEach [.Name U pu] X.env := by rfl) (h4 : starEach [.Name U pu] X.env = (false, eval (.Name U pu) X.env) :: starEach [] X.env := by rfl)
    (hpl : (backTo pos (starEach [.Tuple [.Name T pt, .Name U pu] kk tp] X.env)).any (·.1) = false := by rfl) :
    DE X (.Call (.Name "isinstance" p) [a, .Tuple [.Name T pt, .Name U pu] kk tp] [] pos) (eUn (isi2D n m) f) :=
  peMono (pe_callB call_isiT hg hm (by decide +kernel) (pa_cons ha (pa_cons (pe_tup (pa_cons (pe_bltn (v := .ty n) hgT hmT hv rfl hn hd) (pa_cons (pe_bltn (v := .ty m) hgU hmU hvU rfl hnU hdU) pa_nil h4) h3)) pa_nil he2) he) (by decide) (by decide) he hpl) fun s H Q h => by
    obtain ⟨F, g, d, g', rp, e, k⟩ := h
    obtain ⟨d1, e1, e2⟩ := eUn_inv e
    refine ⟨F, g, d1, g', rp, e1, fun v1 F1 H1 p1 r1 t1 m1 => ⟨by show 2 ≤ sizeLine; decide, fun tpa ntp => ?_⟩⟩
    unfold isi2D at e2
    cases q : tyD d1 with
    | none => rw [q] at e2; cases e2
    | some t =>
      rw [q] at e2
      simp only [Option.bind_some] at e2
      split at e2
      · rename_i b1 b2 k1 k2
        cases e2
        have st : Stp Non F1 H1 F1 (upd H1 tpa (.tup [.ty n, .ty m])) := Stp.made ntp
        have fh := sameMade (o := .tup [.ty n, .ty m]) r1.fh ntp
        refine ⟨v1, tpa, [.ty n, .ty m], .type t, [.type n, .type m], b1 || b2, rfl, upd_same, .cons (.ty n) (.cons (.ty m) .nil), tyX_of (dpMono fh _ _ p1) q, ?_, k _ F1 _ (.bl _) (r1.stepN st fh) (t1.andN st) m1⟩
        refine kitAny_cons (kit_ty k1) (fun z => ?_) (fun z => by rw [z]; rfl)
        subst z
        refine kitAny_cons (kit_ty k2) (fun z => ?_) (fun z => by rw [z]; rfl)
        subst z
        rfl
      · cases e2
end Dl
set_option Elab.async false
set_option linter.all false
set_option maxRecDepth 100000
namespace Dl
open PySem PySem.Spec PyProof.Rows L2

/-! ### a def and its promise, where no repr is under way -/
abbrev Sp3 := List V → Hp → VK → Prop
structure FnG (P : Program) (w : World) (K : PySem.W.Frag) (mg : Str → Option Value) (base : Heap) (k : Nat) (f : Addr) (fd : FuncData) (ps : List Str) (sp : Sp3) : Prop where
  len : ∀ vs H Q, sp vs H Q → vs.length = ps.length
  run : ∀ (A : Around) (outer : List Env) (st : Shared) (H : Hp) (args : Args) (us : List Value) (vs : List V) (Q : VK), Room k A → A.guards = some [] → Env0 P w K mg base A outer st H → BindsTo st fd args (ps.zip us) → Vals vs us → sp vs H Q →
    codeAny (model P w) A (.call (.ref f) args) (CR CX0 outer P w H st Q E0) st
theorem FnG.mono {P : Program} {w : World} {K : PySem.W.Frag} {mg : Str → Option Value} {base : Heap} {j k : Nat} {f : Addr} {fd : FuncData} {ps : List Str} {sp : Sp3} (F : FnG P w K mg base j f fd ps sp) (h : j ≤ k) : FnG P w K mg base k f fd ps sp :=
  ⟨F.len, fun A outer st H args us vs Q hr => F.run A outer st H args us vs Q (hr.mono h)⟩
abbrev BodyCx (P : Program) (w : World) (K : PySem.W.Frag) (mg : Str → Option Value) (base : Heap) (N : List Str) (qual : Str) (sc : Scope) (f : Addr) (cd : Value) (A : Around) (outer : List Env) (st : Shared) (H : Hp) : Cx := (cxOf CX0 P w K mg base N qual sc f cd A outer st H E0).nox
section
variable {P : Program} {w : World} {K : PySem.W.Frag} {mg : Str → Option Value} {base : Heap}
theorem fnG_of {x qual : Str} {sd : Stmt} {f : Addr} {fd : FuncData} {N ps : List Str} {k : Nat} {sp : Sp3} (F : Fun K x qual sd f fd) (S : FnScope N ps (defScope sd)) (len : ∀ vs H Q, sp vs H Q → vs.length = ps.length)
    (hbody : ∀ (cd : Value) (A : Around) (outer : List Env) (st : Shared) (H : Hp) (vs : List V) (Q : VK), Room k (BodyCx P w K mg base N qual (defScope sd) f cd A outer st H).A → (BodyCx P w K mg base N qual (defScope sd) f cd A outer st H).A.guards = some [] → sp vs H Q →
      ∃ t, PSs (BodyCx P w K mg base N qual (defScope sd) f cd A outer st H) (defBody sd) t ∧ t { nx := fun _ H' => Q .non H', rt := Q } (L2.start N vs) H) : FnG P w K mg base (k + 1) f fd ps sp := by
  obtain ⟨oc, od, kV, doc, pm, an, cd, ct, osl, efd, lk, hcd⟩ := F.ex
  subst efd
  refine ⟨len, fun A outer st H args us vs Q room gd env0 bnd vals want => ?_⟩
  have hl := len vs H Q want
  have inK : K.In st.heap := env0.mod.kin.keeps fun b o z => (env0.bs b o z).1
  have nolim : st.heap.NoLimit := env0.mod.nolimit.keeps fun b o z => (env0.bs b o z).1
  have kinds : ∀ q ∈ ps.zip us, (defScope sd).names.lookup q.1 = some .local ∨ ((defScope sd).names.lookup q.1 = some .cell ∧ ((cellsFrom (st.heap.objs.size + 1) (defScope sd).names []).lookup q.1).isSome = true) := by
    rintro ⟨nm, v⟩ hq
    exact (S.par nm (List.of_mem_zip hq).1).imp id fun z => ⟨z, PySem.W.cellsFrom_some _ _ _ (.inl z)⟩
  refine codeAny_call_function room.depth (inK _ _ lk) rfl S.co S.gen rfl (PySem.W.codeRec_of inK hcd) (bnd _ _ _ _ (wpAny_newFunctionEnv_cells S.kind kinds fun env he st1 inC => ?_))
  subst he
  refine ⟨nolim.keeps inC.toInCall.keep, codeAny_func ?_⟩
  obtain ⟨t, ht, good⟩ := hbody cd A outer st H vs Q (room.deeper _) gd want
  have I0 : Inv (cxOf CX0 P w K mg base N qual (defScope sd) f cd A outer st H E0) [] (L2.start N vs) H st1 := inv_start S room.hd env0 hl vals inC
  refine wpAny_mono (ht.nox.run [] st1 (L2.start N vs) H _ I0 good) (fun fl st2 hs => ?_) fun e st2 hs => hs
  cases fl with
  | ret u =>
    obtain ⟨v, _, H2, J, rv, q⟩ := hs
    exact ⟨v, H2, J.os, J.bare, J.base, J.hok, rv, q⟩
  | next =>
    obtain ⟨_, H2, J, q⟩ := hs
    exact ⟨.non, H2, J.os, J.bare, J.base, J.hok, rfl, q⟩
  | brk =>
    obtain ⟨_, _, _, q⟩ := hs
    exact q.elim
  | cont =>
    obtain ⟨_, _, _, q⟩ := hs
    exact q.elim
end
section
variable {X : Cx} {k : Nat} {f : Addr} {fd : FuncData} {ps : List Str} {sp : Sp3}
/-- f(e, ..) -/
theorem pe_callG {x : Str} {p pos : Pos} {e : Expr} {es : List Expr} {t : TA} (F : FnG X.prog X.w X.K X.mg X.base k f fd ps sp) (room : Room k X.A) (gd : X.A.guards = some []) (hg : Gl X x) (hm : X.mg x = some (.ref f)) (hk : PySem.W.keepIn X.K (.ref f) = true) (hb : Binds X.K fd ps [])
    (ha : PA X (e :: es) t) (hdb : (x == ("__debug__" : Str)) = false := by decide) (he : starEach (e :: es) X.env = (false, eval e X.env) :: starEach es X.env := by rfl) (hpl : (backTo pos (starEach es X.env)).any (·.1) = false := by rfl) :
    PE X (.Call (.Name x p) (e :: es) [] pos) (fun s H Q => t s H fun vs H1 => sp vs H1 Q) := by
  refine ⟨fun pins st s H Q I h => wpAny_Call_Name_kw (ld_glob I hg hm (PySem.W.callWith_K (h₀ := X.base) I.ok.mod.kin hk (thn (ha.run pos pins st s H _ I h) fun us st1 hq => ?_) he hpl) hdb)⟩
  obtain ⟨vs, H1, I1, r, q⟩ := hq
  refine ⟨I1.kIn, ?_⟩
  have hl : (us ++ ([] : List Value)).length = ps.length := by rw [List.append_nil, ← r.length]; exact F.len _ _ _ q
  have bt := hb st1 us I1.kIn hl
  rw [List.append_nil] at bt
  refine wpAny_call (codeAny_mono (F.run X.A X.stack st1 H1 ⟨us, []⟩ us vs Q room gd I1.env0 bt r q) fun res st2 hq => ?_)
  cases res with
  | error e => exact (show False from hq).elim
  | ok fl =>
    cases fl with
    | ret u => exact I1.after hq
    | next => exact (show False from hq).elim
    | brk => exact (show False from hq).elim
    | cont => exact (show False from hq).elim
end

/-! ### promises by data -/
/-- a value handed back -/
def Back (K : PySem.W.Frag) (F H : Hp) (O : Addr → Prop) (x : Sl) (Q : VK) : Prop := ∀ v F' H', RepS K F' H' x (some v) → x ≠ .no → (∀ t es, x = .own t es → t = none ∧ ∃ a, v = .ref a ∧ H a = none) → Same F' H' → Stp O F H F' H' → Q v H'
/-- a def of n arguments, all data: m tells the answer -/
def spP (K : PySem.W.Frag) (n : Nat) (m : List D → Option Sl) : Sp3 := fun vs H Q => ∃ F ds x, Same F H ∧ DpAll K F vs ds ∧ ds.length = n ∧ m ds = some x ∧ Back K F H Non x Q
/-- a def whose first argument is a list that it changes -/
def spI (K : PySem.W.Frag) (n : Nat) (m : List D → List D → Option (Sl × List D)) : Sp3 := fun vs H Q => ∃ F a xs es ws ds x es', vs = .ref a :: ws ∧ Same F H ∧ F a = none ∧ H a = some (.lst xs) ∧ DpAll K F xs es ∧ DpAll K F ws ds ∧ ds.length + 1 = n ∧ m es ds = some (x, es') ∧
  ∀ v F' H' xs', RepS K F' H' x (some v) → x ≠ .no → (∀ t fs, x = .own t fs → t = none ∧ ∃ b, v = .ref b ∧ H b = none) → Same F' H' → F' a = none → H' a = some (.lst xs') → DpAll K F' xs' es' → Stp (fun b => b = a) F H F' H' → Q v H'
theorem spP_len {K : PySem.W.Frag} {n : Nat} {m : List D → Option Sl} : ∀ vs H Q, spP K n m vs H Q → vs.length = n := fun vs H Q ⟨F, ds, x, _, hp, hl, _⟩ => by rw [dpLen hp, hl]
theorem spI_len {K : PySem.W.Frag} {n : Nat} {m : List D → List D → Option (Sl × List D)} : ∀ vs H Q, spI K n m vs H Q → vs.length = n := fun vs H Q ⟨F, a, xs, es, ws, ds, x, es', e, _, _, _, _, hp, hl, _⟩ => by rw [e, List.length_cons, dpLen hp, hl]

/-! ### a body run from its arguments -/
def runG (f : Fs) (N : Nat) (g : G) : Option (Sl × G) := match f (g ++ List.replicate (N - g.length) .no) with
  | some (.ret x g') => some (x, g')
  | some (.nx g') => some (.v .none, g')
  | _ => none
def fnP (f : Fs) (N : Nat) (ds : List D) : Option Sl := (runG f N (ds.map .v)).map (·.1)
open Classical in
noncomputable def fnI (f : Fs) (N : Nat) (es ds : List D) : Option (Sl × List D) :=
  if h : ∃ r : Sl × List D, ∀ a, ∃ g', runG f N (.own (some a) es :: ds.map .v) = some (r.1, g') ∧ g'[0]? = some (.own (some a) r.2) then some h.choose else none
theorem fnI_of {f : Fs} {N : Nat} {es ds : List D} {x : Sl} {es' : List D} (h : ∀ a, ∃ g', runG f N (.own (some a) es :: ds.map .v) = some (x, g') ∧ g'[0]? = some (.own (some a) es')) : fnI f N es ds = some (x, es') := by
  have hx : ∃ r : Sl × List D, ∀ a, ∃ g', runG f N (.own (some a) es :: ds.map .v) = some (r.1, g') ∧ g'[0]? = some (.own (some a) r.2) := ⟨(x, es'), h⟩
  unfold fnI
  rw [dif_pos hx]
  obtain ⟨g1, e1, q1⟩ := hx.choose_spec (0 : Nat)
  obtain ⟨g2, e2, q2⟩ := h (0 : Nat)
  rw [e1] at e2
  have h1 : hx.choose.1 = x := (Prod.mk.inj (Option.some.inj e2)).1
  have h2 : g1 = g2 := (Prod.mk.inj (Option.some.inj e2)).2
  rw [h2, q2] at q1
  have h3 : es' = hx.choose.2 := by cases q1; rfl
  rw [h3, ← h1]
theorem fnI_inv {f : Fs} {N : Nat} {es ds : List D} {x : Sl} {es' : List D} (h : fnI f N es ds = some (x, es')) (a : Addr) : ∃ g', runG f N (.own (some a) es :: ds.map .v) = some (x, g') ∧ g'[0]? = some (.own (some a) es') := by
  unfold fnI at h
  split at h
  · rename_i hx
    have := hx.choose_spec a
    have e : hx.choose = (x, es') := Option.some.inj h
    rw [e] at this
    exact this
  · cases h
theorem startRep {K : PySem.W.Frag} {F H : Hp} {N : List Str} : ∀ {vs : List V} {ds : List D}, Same F H → DpAll K F vs ds → Rep K F (ds.map .v ++ List.replicate (N.length - ds.length) .no) (L2.start N vs) H := fun {vs ds} fh hp => by
  have hl := dpLen hp
  refine ⟨fh, by unfold L2.start; simp [hl], fun i x o hx ho => ?_, fun i j a t u es fs h1 => ?_⟩
  · unfold L2.start at ho
    by_cases hi : i < ds.length
    · rw [List.getElem?_append_left (by simpa using hi), List.getElem?_map] at hx
      rw [List.getElem?_append_left (by simpa [hl] using hi), List.getElem?_map] at ho
      cases q : ds[i]? with
      | none => rw [q] at hx; cases hx
      | some d =>
        rw [q] at hx; cases hx
        obtain ⟨v, hv, hd⟩ := dpAt hp q
        rw [hv] at ho; cases ho
        exact ⟨v, rfl, hd⟩
    · rw [List.getElem?_append_right (by simpa using hi), List.getElem?_replicate] at hx
      split at hx
      · cases hx; trivial
      · cases hx
  · exfalso
    by_cases hi : i < ds.length
    · rw [List.getElem?_append_left (by simpa using hi), List.getElem?_map] at h1
      cases q : ds[i]? with
      | none => rw [q] at h1; cases h1
      | some d => rw [q] at h1; cases h1
    · rw [List.getElem?_append_right (by simpa using hi), List.getElem?_replicate] at h1
      split at h1 <;> cases h1
section
variable {P : Program} {w : World} {K : PySem.W.Frag} {mg : Str → Option Value} {base : Heap}
/-- THE RULE for a def of data -/
theorem fnP_ok {x qual : Str} {sd : Stmt} {f : Addr} {fd : FuncData} {N ps : List Str} {k : Nat} {b : Fs} {n : Nat} (F : Fun K x qual sd f fd) (S : FnScope N ps (defScope sd)) (hn : ps.length = n)
    (hbody : ∀ (cd : Value) (A : Around) (outer : List Env) (st : Shared) (H : Hp), Room k (BodyCx P w K mg base N qual (defScope sd) f cd A outer st H).A → (BodyCx P w K mg base N qual (defScope sd) f cd A outer st H).A.guards = some [] →
      DSs (BodyCx P w K mg base N qual (defScope sd) f cd A outer st H) (defBody sd) b) : FnG P w K mg base (k + 1) f fd ps (spP K n (fnP b N.length)) := by
  refine fnG_of F S (fun vs H Q h => by rw [hn]; exact spP_len vs H Q h) fun cd A outer st H vs Q room gd h => ⟨_, hbody cd A outer st H room gd, ?_⟩
  obtain ⟨F0, ds, y, fh, hp, hl, e, k⟩ := h
  unfold fnP runG at e
  rw [List.length_map] at e
  have r0 := startRep (N := N) fh hp
  have noOwn : ∀ a, ¬ OwnAt (ds.map .v ++ List.replicate (N.length - ds.length) .no) (L2.start N vs) a := fun a ⟨i, t, es, h1, _⟩ => by
    by_cases hi : i < ds.length
    · rw [List.getElem?_append_left (by simpa using hi), List.getElem?_map] at h1
      cases q : ds[i]? with
      | none => rw [q] at h1; cases h1
      | some d => rw [q] at h1; cases h1
    · rw [List.getElem?_append_right (by simpa using hi), List.getElem?_replicate] at h1
      split at h1 <;> cases h1
  cases q : b (ds.map .v ++ List.replicate (N.length - ds.length) .no) with
  | none => rw [q] at e; cases e
  | some o =>
    rw [q] at e
    refine ⟨F0, _, o, r0, q, ?_⟩
    cases o with
    | bk g' => cases e
    | ct g' => cases e
    | nx g' =>
      cases e
      exact fun F' s' H' t => k .non F' H' ⟨_, rfl, .non⟩ (fun z => nomatch z) (fun _ _ z => nomatch z) t.rep.fh (t.stp.weak fun b hb => noOwn b hb)
    | ret z g' =>
      cases e
      refine fun v F' s' H' hv hz ho t => k v F' H' hv hz (fun tg es ez => ?_) t.rep.fh (t.stp.weak fun b hb => noOwn b hb)
      obtain ⟨e1, a, e2, e3, _⟩ := ho tg es ez
      exact ⟨e1, a, e2, e3.resolve_right (noOwn a)⟩
theorem startRepI {F H : Hp} {N : List Str} {a : Addr} {xs : List V} {es : List D} {vs : List V} {ds : List D} (fh : Same F H) (fa : F a = none) (ha : H a = some (.lst xs)) (hx : DpAll K F xs es) (hp : DpAll K F vs ds) :
    Rep K F (.own (some a) es :: (ds.map .v ++ List.replicate (N.length - (ds.length + 1)) .no)) (L2.start N (.ref a :: vs)) H := by
  have hl := dpLen hp
  have noT : ∀ (i : Nat) (t : Option Addr) (fs : List D), (ds.map Sl.v ++ List.replicate (N.length - (ds.length + 1)) Sl.no)[i]? ≠ some (Sl.own t fs) := fun i t fs h1 => by
    by_cases hi : i < ds.length
    · rw [List.getElem?_append_left (by simpa using hi), List.getElem?_map] at h1
      cases q : ds[i]? with
      | none => rw [q] at h1; cases h1
      | some d => rw [q] at h1; cases h1
    · rw [List.getElem?_append_right (by simpa using hi), List.getElem?_replicate] at h1
      split at h1 <;> cases h1
  refine ⟨fh, by unfold L2.start; simp [hl], fun i x o hxx ho => ?_, fun i j b t u fs gs h1 h2 => ?_⟩
  · cases i with
    | zero =>
      cases hxx
      cases ho
      exact ⟨a, xs, rfl, fa, ha, hx, fun b e => (Option.some.inj e).symm⟩
    | succ i =>
      have hxx : (ds.map Sl.v ++ List.replicate (N.length - (ds.length + 1)) Sl.no)[i]? = some x := by simpa using hxx
      have ho : (vs.map some ++ List.replicate (N.length - (vs.length + 1)) none)[i]? = some o := by
        unfold L2.start at ho
        simpa using ho
      by_cases hi : i < ds.length
      · rw [List.getElem?_append_left (by simpa using hi), List.getElem?_map] at hxx
        rw [List.getElem?_append_left (by simpa [hl] using hi), List.getElem?_map] at ho
        cases q : ds[i]? with
        | none => rw [q] at hxx; cases hxx
        | some d =>
          rw [q] at hxx; cases hxx
          obtain ⟨v, hv, hd⟩ := dpAt hp q
          rw [hv] at ho; cases ho
          exact ⟨v, rfl, hd⟩
      · rw [List.getElem?_append_right (by simpa using hi), List.getElem?_replicate] at hxx
        split at hxx
        · cases hxx; trivial
        · cases hxx
  · cases i with
    | zero =>
      cases j with
      | zero => exact fun _ _ => rfl
      | succ j => exact absurd (by simpa using h2) (noT j u gs)
    | succ i => exact absurd (by simpa using h1) (noT i t fs)
/-- .. of a def whose first argument is a list that it changes -/
theorem fnI_ok {x qual : Str} {sd : Stmt} {f : Addr} {fd : FuncData} {N ps : List Str} {k : Nat} {b : Fs} {n : Nat} (F : Fun K x qual sd f fd) (S : FnScope N ps (defScope sd)) (hn : ps.length = n)
    (hbody : ∀ (cd : Value) (A : Around) (outer : List Env) (st : Shared) (H : Hp), Room k (BodyCx P w K mg base N qual (defScope sd) f cd A outer st H).A → (BodyCx P w K mg base N qual (defScope sd) f cd A outer st H).A.guards = some [] →
      DSs (BodyCx P w K mg base N qual (defScope sd) f cd A outer st H) (defBody sd) b) : FnG P w K mg base (k + 1) f fd ps (spI K n (fnI b N.length)) := by
  refine fnG_of F S (fun vs H Q h => by rw [hn]; exact spI_len vs H Q h) fun cd A outer st H vs Q room gd h => ⟨_, hbody cd A outer st H room gd, ?_⟩
  obtain ⟨F0, a, xs, es, ws, ds, y, es', rfl, fh, fa, ha, hx, hp, hl, e, k⟩ := h
  obtain ⟨gE, e, e0⟩ := fnI_inv e a
  unfold runG at e
  have hlen : (Sl.own (some a) es :: ds.map Sl.v).length = ds.length + 1 := by simp
  rw [hlen] at e
  have r0 := startRepI (N := N) fh fa ha hx hp
  have one : ∀ c, OwnAt (.own (some a) es :: (ds.map .v ++ List.replicate (N.length - (ds.length + 1)) .no)) (L2.start N (.ref a :: ws)) c → c = a := fun c ⟨i, t, fs, h1, h2⟩ => by
    cases i with
    | zero => cases h2; rfl
    | succ i =>
      exfalso
      have h1 : (ds.map Sl.v ++ List.replicate (N.length - (ds.length + 1)) Sl.no)[i]? = some (.own t fs) := by simpa using h1
      by_cases hi : i < ds.length
      · rw [List.getElem?_append_left (by simpa using hi), List.getElem?_map] at h1
        cases q : ds[i]? with
        | none => rw [q] at h1; cases h1
        | some d => rw [q] at h1; cases h1
      · rw [List.getElem?_append_right (by simpa using hi), List.getElem?_replicate] at h1
        split at h1 <;> cases h1
  -- the list behind the body
  have fin : ∀ {F' : Hp} {s' : Sg} {H' : Hp} {g' : G}, g' = gE → Tr K F0 (.own (some a) es :: (ds.map .v ++ List.replicate (N.length - (ds.length + 1)) .no)) (L2.start N (.ref a :: ws)) H F' g' s' H' →
      OwnAt g' s' a ∧ ∃ xs', F' a = none ∧ H' a = some (.lst xs') ∧ DpAll K F' xs' es' := fun {F' s' H' g'} eg t => by
    subst eg
    obtain ⟨o, ho, c, xs', eo, fc, hc, hp', ht⟩ := t.rep.get e0
    have : a = c := ht a rfl
    subst this
    subst eo
    exact ⟨⟨0, _, _, e0, ho⟩, xs', fc, hc, hp'⟩
  have hb : b (.own (some a) es :: (ds.map .v ++ List.replicate (N.length - (ds.length + 1)) .no)) = b ((.own (some a) es :: ds.map .v) ++ List.replicate (N.length - (ds.length + 1)) .no) := rfl
  cases q : b ((.own (some a) es :: ds.map .v) ++ List.replicate (N.length - (ds.length + 1)) .no) with
  | none => rw [q] at e; cases e
  | some o =>
    rw [q] at e
    refine ⟨F0, _, o, r0, hb.trans q, ?_⟩
    cases o with
    | bk g' => cases e
    | ct g' => cases e
    | nx g' =>
      cases e
      intro F' s' H' t
      obtain ⟨_, xs', f1, f2, f3⟩ := fin rfl t
      exact k .non F' H' xs' ⟨_, rfl, .non⟩ (fun z => nomatch z) (fun _ _ z => nomatch z) t.rep.fh f1 f2 f3 (t.stp.weak one)
    | ret z g' =>
      cases e
      intro v F' s' H' hv hz ho t
      obtain ⟨f0, xs', f1, f2, f3⟩ := fin rfl t
      refine k v F' H' xs' hv hz (fun tg es ez => ?_) t.rep.fh f1 f2 f3 (t.stp.weak one)
      obtain ⟨e1, c, e2, e3, e4⟩ := ho tg es ez
      refine ⟨e1, c, e2, e3.resolve_right fun w => ?_⟩
      rw [one c w] at e4
      exact e4 f0
end

/-! ### calls by data -/
section
variable {X : Cx} {k : Nat} {f : Addr} {fd : FuncData} {ps : List Str} {n : Nat}
def eCall (m : List D → Option Sl) (fs : Fa) : Fv := fun g => (fs g).bind fun p => (m p.1).map fun x => (x, p.2)
theorem dv_call {x : Str} {p pos : Pos} {a : Expr} {es : List Expr} {m : List D → Option Sl} {fs : Fa} (F : FnG X.prog X.w X.K X.mg X.base k f fd ps (spP X.K n m)) (room : Room k X.A) (gd : X.A.guards = some []) (hg : Gl X x) (hm : X.mg x = some (.ref f)) (hk : PySem.W.keepIn X.K (.ref f) = true) (hb : Binds X.K fd ps [])
    (ha : DA X (a :: es) fs) (hl : LenA fs n) (hdb : (x == ("__debug__" : Str)) = false := by decide) (he : starEach (a :: es) X.env = (false, eval a X.env) :: starEach es X.env := by rfl) (hpl : (backTo pos (starEach es X.env)).any (·.1) = false := by rfl) :
    DV X (.Call (.Name x p) (a :: es) [] pos) (eCall m fs) := peMono (pe_callG F room gd hg hm hk hb ha hdb he hpl) fun s H Q ⟨Fz, g, y, g', r, e, k⟩ => by
  unfold eCall at e
  cases q : fs g with
  | none => rw [q] at e; cases e
  | some p =>
    rw [q] at e
    have e : (m p.1).map _ = some (y, g') := e
    cases q2 : m p.1 with
    | none => rw [q2] at e; cases e
    | some z =>
      rw [q2] at e; cases e
      refine ⟨Fz, g, p.1, p.2, r, q, fun vs F1 H1 p1 r1 t1 m1 => ⟨F1, p.1, _, r1.fh, p1, hl _ _ _ q, q2, fun v F2 H2 hv hz ho fh t2 => ?_⟩⟩
      refine k v F2 H2 hv (fun tg es ez => ?_) (r1.stepN t2 fh) (t1.andN t2) m1
      obtain ⟨e1, b, e2, e3⟩ := ho tg es ez
      refine ⟨e1, b, e2, ?_⟩
      cases w : H b with
      | none => rfl
      | some o => exact absurd e3 (t1.dom b (by rw [w]; simp))
/-- the first argument the list in slot i, which is changed -/
def eCallI (m : List D → List D → Option (Sl × List D)) (i : Nat) (fs : Fa) : Fv := fun g => (ownD g[i]?).bind fun _ => (fs g).bind fun p => match p.2[i]? with
  | some (.own t es) => (m es p.1).map fun r => (r.1, p.2.set i (.own t r.2))
  | _ => none
theorem turnI {K : PySem.W.Frag} {F H F' H' : Hp} {g : G} {s : Sg} (r : Rep K F g s H) {i : Nat} {t : Option Addr} {es es' : List D} {a : Addr} {ys : List V} (hg : g[i]? = some (.own t es)) (hs : s[i]? = some (some (.ref a))) (st : Stp (fun b => b = a) F H F' H') (fh : Same F' H') (fa : F' a = none) (ha : H' a = some (.lst ys)) (hp : DpAll K F' ys es') :
    Rep K F' (g.set i (.own t es')) s H' ∧ Stp (OwnAt g s) F H F' H' := by
  obtain ⟨o, ho, a', xs, eo, fa0, ha0, hp0, ht⟩ := r.get hg
  rw [hs] at ho; cases ho; cases eo
  have hi : i < g.length := (List.getElem?_eq_some_iff.mp hg).1
  have r0 : Rep K F (g.set i .no) s H := by
    have := r.put i .no (some (.ref a)) trivial (fun _ _ _ e => nomatch e)
    rwa [setSelf hs] at this
  have n0 : ¬ OwnAt (g.set i .no) s a := fun ⟨j, tg, fs, e1, e2⟩ => by
    by_cases z : i = j
    · subst z; rw [List.getElem?_set_self hi] at e1; cases e1
    · rw [List.getElem?_set_ne z] at e1
      exact z (r.uq i j a t tg es fs hg e1 hs e2)
  have r1 : Rep K F' (g.set i .no) s H' := r0.step st (fun b hb z => n0 (by rw [← z]; exact hb)) fh
  refine ⟨?_, st.weak fun b z => by rw [z]; exact ⟨i, t, es, hg, hs⟩⟩
  have := r1.put i (.own t es') (some (.ref a)) ⟨a, ys, rfl, fa, ha, hp, ht⟩ (fun _ _ b _ e => by cases e; exact n0)
  rwa [setSelf hs, List.set_set] at this
theorem dv_callI (i : Nat) {x y : Str} {p py pos : Pos} {es : List Expr} {m : List D → List D → Option (Sl × List D)} {fs : Fa} (F : FnG X.prog X.w X.K X.mg X.base k f fd ps (spI X.K n m)) (room : Room k X.A) (gd : X.A.guards = some []) (hg : Gl X x) (hm : X.mg x = some (.ref f)) (hk : PySem.W.keepIn X.K (.ref f) = true) (hb : Binds X.K fd ps [])
    (ha : DA X es fs) {n' : Nat} (hl : LenA fs n') (hn : n' + 1 = n := by rfl) (hN : X.N[i]? = some y := by rfl) (hv : Vis X.env.scope y := by first | exact Or.inl rfl | exact Or.inr (Or.inl rfl) | exact Or.inr (Or.inr rfl)) (hd : (y == ("__debug__" : Str)) = false := by decide) (hcd : (y == ("__classdict__" : Str)) = false := by decide)
    (hdb : (x == ("__debug__" : Str)) = false := by decide) (he : starEach (.Name y py :: es) X.env = (false, eval (.Name y py) X.env) :: starEach es X.env := by rfl) (hpl : (backTo pos (starEach es X.env)).any (·.1) = false := by rfl) :
    DV X (.Call (.Name x p) (.Name y py :: es) [] pos) (eCallI m i fs) := peMono (pe_callG F room gd hg hm hk hb (pa_cons (pe_var hN hv hd hcd) ha he) hdb he hpl) fun s H Q ⟨Fz, g, y, g', r, e, k⟩ => by
  unfold eCallI at e
  cases q0 : ownD g[i]? with
  | none => rw [q0] at e; cases e
  | some d0 =>
    rw [q0] at e
    have e : (fs g).bind _ = some (y, g') := e
    cases q : fs g with
    | none => rw [q] at e; cases e
    | some p =>
      obtain ⟨ds, g1⟩ := p
      rw [q] at e
      simp only [Option.bind_some] at e
      split at e
      · rename_i t ee hge
        cases q2 : m ee ds with
        | none => rw [q2] at e; cases e
        | some z =>
          obtain ⟨z, ee'⟩ := z
          rw [q2] at e; cases e
          have hw : ∃ a, s[i]? = some (some (V.ref a)) := by
            unfold ownD at q0
            split at q0
            · rename_i t0 ds0 hx0
              obtain ⟨o, ho, a, xs, ea, _⟩ := r.get hx0
              subst ea
              exact ⟨a, ho⟩
            · cases q0
          obtain ⟨a, ha⟩ := hw
          refine ⟨.ref a, ha, Fz, g, ds, g1, r, q, fun vs F1 H1 p1 r1 t1 m1 => ?_⟩
          obtain ⟨o, ho, a', xs, eo, fa, hal, hps, ht⟩ := r1.get hge
          rw [ha] at ho; cases ho; cases eo
          refine ⟨F1, a, xs, ee, vs, ds, z, ee', rfl, r1.fh, fa, hal, hps, p1, by rw [hl _ _ _ q]; exact hn, q2, fun v F2 H2 xs' hv hz hown fh f1 f2 f3 t2 => ?_⟩
          obtain ⟨r2, t2'⟩ := turnI r1 hge ha t2 fh f1 f2 f3
          refine k v F2 H2 hv (fun tg fs' ez => ?_) r2 (t1.two m1 t2') (m1.trans (moSet hge))
          obtain ⟨e1, b, e2, e3⟩ := hown tg fs' ez
          refine ⟨e1, b, e2, ?_⟩
          cases w : H b with
          | none => rfl
          | some o => exact absurd e3 (t1.dom b (by rw [w]; simp))
      · cases e
end
end Dl
set_option Elab.async false
set_option linter.all false
set_option maxRecDepth 100000
namespace Dl
open PySem PySem.Spec PyProof.Rows L2

/-- the law's def is called, nothing tracked but the script -/
theorem lawG {P : Program} {w : World} {K : PySem.W.Frag} {mg mb : Str → Option Value} {k : Nat} {fa a : Addr} {fd : FuncData} {x : Str} {m : List D → Option Sl} {st : Shared} {vs : List Value} {ns : List Int}
    (inK : K.In st.heap) (nsG : st.heap.Ns mainGlobals mg) (nsB : st.heap.Ns builtinsNs mb) (boot : ∀ x : Str, x ≠ "__name__" → mb x = bootBuiltins x) (lim : st.heap.NoLimit) (gens : st.gens = #[])
    (hob : st.heap.get? a = some { cls := .type "list", data := .seq vs.toArray }) (hns : IntsAre vs ns) (hlen : ns.length ≤ sizeLine) (room : Room k callerA)
    (G : ∀ base : Heap, K.In base → base.Ns mainGlobals mg → FnG P w K mg base k fa fd [x] (spP K 1 m)) (bnd : ∀ (s : Shared) (u : Value), BindsTo s fd ⟨[u], []⟩ [(x, u)])
    (good : m [.list (ns.map .int)] = some (.v (.bool true))) :
    codeAny (model P w) callerA (.call (.ref fa) ⟨[.ref a], []⟩) (fun r s' => r = .ok (.ret (.bool true)) ∧ OldK st.heap s'.heap ∧ s'.os = st.os ∧ AllBare s'.gens) st := by
  have vals := vals_ints hns
  have leq := hns.length
  have dps : ∀ H : Hp, DpAll K H (ns.map V.int) (ns.map PyData.int) := fun H => by
    clear hlen leq good vals hns
    induction ns with
    | nil => exact .nil
    | cons n r ih => exact .cons (.int n) ih
  have main : ∀ H : Hp, (∀ b u, H b = some u → b = a ∧ ∃ o ys, u = .frz o (.lst ys)) → SqL K H a (ns.map V.int) → HOk P w H st.heap → (H a ≠ none → K.lookup a = none) →
      codeAny (model P w) callerA (.call (.ref fa) ⟨[.ref a], []⟩) (fun r s' => r = .ok (.ret (.bool true)) ∧ OldK st.heap s'.heap ∧ s'.os = st.os ∧ AllBare s'.gens) st := by
    intro H only hS hok apart
    have hid : ∀ {b : Addr} {o : Obj}, st.heap.get? b = some o → (H b ≠ none → False) → (hidT st.heap H).get? b = some o := fun {b o} e n => hidT_get e (by
      cases q : H b with
      | none => rfl
      | some u => exact (n (by rw [q]; simp)).elim)
    have noDict : ∀ {b : Addr} {o : Obj} {es : Array DictEntry} {ep : Nat}, st.heap.get? b = some o → o.data = .dict es ep → H b ≠ none → False := fun {b o es ep} e d n => by
      cases q : H b with
      | none => exact n q
      | some u =>
        have eb := (only b u q).1
        subst eb
        rw [hob] at e
        cases e
        exact Data.noConfusion (show Data.seq vs.toArray _ = Data.dict es ep from d)
    have nsH : ∀ {b : Addr} {mm : Str → Option Value}, st.heap.Ns b mm → (hidT st.heap H).Ns b mm := fun {b mm} z => by
      obtain ⟨o, es, ep, e, d, q⟩ := z
      exact ⟨o, es, ep, hid e (noDict e d), d, q⟩
    have kH : K.In (hidT st.heap H) := fun b o e => hid (inK b o e) fun n => by
      cases q : H b with
      | none => exact n q
      | some u =>
        have eb := (only b u q).1
        subst eb
        rw [apart n] at e
        cases e
    obtain ⟨mc, l1, l2⟩ := lim
    have md : Mod K mg (hidT st.heap H) := ⟨kH, nsH nsG, ⟨mb, nsH nsB, boot⟩, ⟨mc, nsH l1, l2⟩⟩
    have env0 : Env0 P w K mg (hidT st.heap H) callerA [] st H := ⟨rfl, md, fun b o e => of_hidT e, Nat.le_of_eq (hidT_size _ _), trivial, (fun b hb => by cases hb), hok, .of_eq gens⟩
    have want : spP K 1 m [.ref a] H (fun v H' => v = .bl true) := ⟨H, [.list (ns.map PyData.int)], _, .refl _, .cons (.lst hS (dps H)) .nil, rfl, good, fun v F' H' hv _ _ _ _ => by
      obtain ⟨y, ey, hy⟩ := hv
      cases ey
      cases hy
      rfl⟩
    refine codeAny_mono ((G _ kH (nsH nsG)).run callerA [] st H ⟨[.ref a], []⟩ [.ref a] [.ref a] _ room rfl env0 (bnd st (.ref a)) (.cons rfl .nil) want) fun r s' hr => ?_
    cases r with
    | error e => exact (show False from hr).elim
    | ok fl =>
      cases fl with
      | next => exact (show False from hr).elim
      | brk => exact (show False from hr).elim
      | cont => exact (show False from hr).elim
      | ret u =>
        obtain ⟨v, H', e1, e2, un, hok', rv, hv⟩ := hr
        have hv : v = .bl true := hv
        subst hv
        have hu : u = Value.bool true := rv
        subst hu
        refine ⟨rfl, OldK.of_keep fun b o e => ?_, e1, e2⟩
        cases q : H b with
        | none => exact un.keep b o e q (by intro z; cases z) (by simp)
        | some z =>
          obtain ⟨_, ob, ys, rfl⟩ := only b z q
          obtain ⟨k1, _⟩ := hok b _ q
          obtain ⟨k2, _⟩ := hok' b _ (un.frzs b ob _ q)
          rw [e] at k1
          cases k1
          exact k2
  cases hk : K.lookup a with
  | some o =>
    have e := inK a o hk
    rw [hob] at e
    cases e
    exact main (fun _ => none) (fun b u z => nomatch z) (.inr ⟨_, vs.toArray, _, hk, rfl, rfl, rfl, by rw [List.size_toArray, leq]; exact hlen, by simpa using vals⟩) (fun b u z => nomatch z) fun z => absurd rfl z
  | none =>
    refine main (fun b => if b = a then some (.frz { cls := .type "list", data := .seq vs.toArray } (.lst (ns.map V.int))) else none) (fun b u z => ?_) (.inl (.inr ⟨_, if_pos rfl⟩)) (fun b u z => ?_) fun _ => hk
    · by_cases hb : b = a
      · have z2 := (if_pos hb).symm.trans z
        cases z2; exact ⟨hb, _, _, rfl⟩
      · have z2 := (if_neg hb).symm.trans z
        cases z2
    · by_cases hb : b = a
      · have z2 := (if_pos hb).symm.trans z
        cases z2
        subst hb
        exact ⟨hob, by rw [List.length_map]; exact hlen, vs, _, vals, hob⟩
      · have z2 := (if_neg hb).symm.trans z
        cases z2
/-- the goal that k_head leaves -/
theorem walkG {l : PySem.W.OpenLaw} {n k : Nat} {q : Program} {loose : List Str} {XP : (Str → Option Value) → Heap → Prop} {YP : World → Heap → Prop} {d : DefRec} {K : Params → PySem.W.Frag} {x : Str} {m : List D → Option Sl}
    (hn : l.most = some n) (hn2 : n ≤ sizeLine) (hdf : d.params.defaults = []) (room : Room k callerA) (hY : ∀ (w : World) (h : Heap), YP w h → (K w.params).In h)
    (G : ∀ (w : World) (mg : Str → Option Value) (fa : Addr) (h : Heap), (K w.params).In h → h.Ns mainGlobals mg → mg d.name = some (.ref fa) →
      ∃ fd : FuncData, (∀ (s : Shared) (u : Value), BindsTo s fd ⟨[u], []⟩ [(x, u)]) ∧ ∀ base : Heap, (K w.params).In base → base.Ns mainGlobals mg → FnG l.prog w (K w.params) mg base k fa fd [x] (spP (K w.params) 1 m))
    (good : ∀ ns : List Int, ns.length ≤ n → m [.list (ns.map .int)] = some (.v (.bool true))) :
    PySem.W.WalkO q loose XP YP l.row.toRowW d [] (fun f vs => PySem.call f vs) := by
  refine Att.attach_call hn hdf fun w s0 s1 mg mb fa o pm cd doc a vs ns TT Y ho hd hcd hmg hob hns hlen hgens => ?_
  have inK := hY w _ Y
  obtain ⟨fd, bnd, hG⟩ := G w mg fa _ inK TT.T.g hmg
  exact lawG inK TT.T.g TT.T.b TT.T.builtins TT.T.nolimit hgens hob hns (Nat.le_trans hlen hn2) room hG bnd (good ns hlen)
end Dl
set_option Elab.async false
set_option linter.all false
set_option maxRecDepth 100000
namespace Dl
open PySem PySem.Spec PyProof.Rows L2

/-! ### a def as the head tells it -/
structure Df (K : PySem.W.Frag) (mg : Str → Option Value) (x : Str) (sd : Stmt) (ps : List Str) : Type where
  f : Addr
  fd : FuncData
  F : Fun K x x sd f fd
  g : mg x = some (.ref f)
  b : L2.Binds K fd ps []
  bA : ∀ (s : Shared) (us : List Value), us.length = ps.length → BindsTo s fd ⟨us, []⟩ (ps.zip us)
theorem fun_of {K : PySem.W.Frag} {x qual : Str} {st : Stmt} {f : Addr} {fd : FuncData} (F : FunD K x qual (defArgs st) (defBody st) (defScope st) [] [] f fd) : Fun K x qual st f fd := by
  obtain ⟨oc, od, dV, kV, doc, pm, an, cdv, ct, osl, e, l, c, hd, _⟩ := F.ex
  rcases hd with ⟨_, e2⟩ | ⟨e2, _⟩
  · subst e2
    exact ⟨⟨oc, od, kV, doc, pm, an, cdv, ct, osl, e, l, c⟩, F.kp⟩
  · exact absurd rfl e2
def Df.mk' {K : PySem.W.Frag} {mg : Str → Option Value} {x : Str} {sd : Stmt} {ps : List Str} {f : Addr} (fd : {fd : FuncData // FunD K x x (defArgs sd) (defBody sd) (defScope sd) [] [] f fd}) (g : mg x = some (.ref f))
    (h : ∀ (kV doc pm : Value) (an : Option Addr) (cdv ct : Value) (us : List Value), us.length = ps.length → bindArgs (PySem.W.fnOf x x (defArgs sd) (defBody sd) (defScope sd) .none kV doc pm an cdv ct) ⟨us, []⟩ = pure (ps.zip us)) : Df K mg x sd ps :=
  ⟨f, fd.1, fun_of fd.2, g, fd.2.bindsN h, fun s us e => fd.2.bindsA h s us e⟩

theorem hu64 {k : Nat} {A : Around} (r : Room k A) : A.units + 64 < cLine := r.units
theorem hu65 {k : Nat} {A : Around} (r : Room k A) : A.units + 65 < cLine := by have := r.un; omega

variable {X : Cx}
/-! ### + of ints, tuples, texts -/
def addA : D → D → Option D := fun a b => (addD a b).or ((catTD a b).or (catSD a b))
theorem addA_int (i j : Int) : addA (.int i) (.int j) = some (.int (i + j)) := rfl
theorem addA_tup (xs ys : List D) : addA (.tuple xs) (.tuple ys) = catTD (.tuple xs) (.tuple ys) := by
  unfold addA addD catSD
  simp
theorem de_addA {a b : Expr} {pos : Pos} {fa fb : Fe} (ha : DE X a fa) (hb : DE X b fb) : DE X (.BinOp a .Add b pos) (eBin addA fa fb) :=
  de_op (op_add.or (op_catA.or op_add_str)) (ok_add.or (ok_catT.or ok_catS)) ha hb

/-! ### slices of a list or a tuple -/
def eSlU (fa : Fe) (fl fh : Fo) : Fe := fun g => (fa g).bind fun p => (fl p.2).bind fun l => (fh l.2).bind fun h => match p.1 with
  | .tuple ds => some (.tuple (cutL ds l.1 h.1), h.2)
  | .list ds => some (.list (cutL ds l.1 h.1), h.2)
  | _ => none
/-- a new list, frozen at once -/
theorem newLstF {K : PySem.W.Frag} {F H : Hp} {vs : List V} {ds : List D} {Q : VK} (fh : Same F H) (hp : DpAll K F vs ds) (k : ∀ v F' H', Dp K F' v (.list ds) → Same F' H' → Stp Non F H F' H' → Q v H') : ∀ p, H p = none → Q (.ref p) (upd H p (.lst vs)) := fun p np =>
  k (.ref p) (upd F p (.lst vs)) _ (.lst (SqL.of upd_same) (dpUpd hp (nF fh np))) (sameLaid fh np) (Stp.laid np fh)
theorem de_sl {a : Expr} {lo hi : Option Expr} {p2 pos : Pos} {fa : Fe} {fl fh : Fo} (ha : DE X a fa) (hl : DO X lo fl) (hu : DO X hi fh) : DE X (.Subscript a (.Slice lo hi none p2) pos) (eSlU fa fl fh) := peMono (pe_slice (SlR.or sl_tupA sl_list) ha hl hu) fun s H Q ⟨F, g, d, g', rp, e, k⟩ => by
  unfold eSlU at e
  cases q : fa g with
  | none => rw [q] at e; cases e
  | some p =>
    rw [q] at e
    have e : (fl p.2).bind _ = some (d, g') := e
    cases q2 : fl p.2 with
    | none => rw [q2] at e; cases e
    | some l =>
      rw [q2] at e
      have e : (fh l.2).bind _ = some (d, g') := e
      cases q3 : fh l.2 with
      | none => rw [q3] at e; cases e
      | some h =>
        rw [q3] at e
        obtain ⟨d1, g1⟩ := p
        obtain ⟨l, g2⟩ := l
        obtain ⟨h, g3⟩ := h
        cases d1 with
        | tuple ds =>
          cases e
          refine ⟨F, g, _, g1, rp, q, fun v F1 H1 p1 r1 t1 m1 => ⟨F1, g1, l, g2, r1, q2, fun F2 H2 r2 t2 m2 => ⟨F2, g2, h, g3, r2, q3, fun F3 H3 r3 t3 m3 => .inl ?_⟩⟩⟩
          have p3 := dpMono (t2.fs.trans t3.fs) _ _ p1
          have tt := (t1.two m1 t2).two (m1.trans m2) t3
          have mm := (m1.trans m2).trans m3
          cases p3 with
          | tup hs hp =>
            refine ⟨_, _, rfl, Same.tupS r3.fh hs, fun hw => ?_, fun _ => newTup r3.fh (dpCut hp) fun v F' H' hv fh st => k v F' H' hv (r3.stepN st fh) (tt.andN st) mm⟩
            rw [dpLen hp] at hw
            exact k _ F3 H3 (.tup hs (by rw [cut_whole hw.1 hw.2]; exact hp)) r3 tt mm
        | list ds =>
          cases e
          refine ⟨F, g, _, g1, rp, q, fun v F1 H1 p1 r1 t1 m1 => ⟨F1, g1, l, g2, r1, q2, fun F2 H2 r2 t2 m2 => ⟨F2, g2, h, g3, r2, q3, fun F3 H3 r3 t3 m3 => .inr ?_⟩⟩⟩
          have p3 := dpMono (t2.fs.trans t3.fs) _ _ p1
          have tt := (t1.two m1 t2).two (m1.trans m2) t3
          have mm := (m1.trans m2).trans m3
          cases p3 with
          | lst hs hp => exact ⟨_, _, rfl, r3.fh.seq hs, newLstF r3.fh (dpCut hp) fun v F' H' hv fh st => k v F' H' hv (r3.stepN st fh) (tt.andN st) mm⟩
        | _ => cases e

/-! ### in, not in -/
def rInU (K : PySem.W.Frag) (neg : Bool) : R2 := fun x y H Q => ∃ d ds, Dp K H x d ∧ (Dp K H y (.list ds) ∨ Dp K H y (.tuple ds)) ∧ SeqAt.shaped d = true ∧ SeqAt.shaped (.list ds) = true ∧ Q (.bl (neg ^^ (ds.any fun z => PyData.eqv z d))) H
theorem op_inU (hu : X.A.units + 65 < cLine) : OpR X (compareOp .In) (rInU X.K false) := by
  intro pins s σ H x y v u Q I rx ry h
  obtain ⟨d, ds, hd, he, sd, se, q⟩ := h
  rw [Bool.false_xor] at q
  obtain ⟨as, r1⟩ := Dp.reads I d x v hd rx
  rcases he with he | he
  · obtain ⟨bs, r2⟩ := Dp.reads I (.list ds) y u he ry
    exact SeqAt.in_list_reads r2 r1 (SeqAt.canLay_of_shaped se) (SeqAt.canLay_of_shaped sd) (room_in_shaped sd hu) ⟨.bl _, H, I, rfl, q⟩
  · obtain ⟨bs, r2⟩ := Dp.reads I (.tuple ds) y u he ry
    exact SeqAt.in_tuple_reads r2 r1 (SeqAt.canLay_of_shaped se) (SeqAt.canLay_of_shaped sd) (room_in_shaped sd hu) ⟨.bl _, H, I, rfl, q⟩
theorem op_notInU (hu : X.A.units + 65 < cLine) : OpR X (compareOp .NotIn) (rInU X.K true) := by
  intro pins s σ H x y v u Q I rx ry h
  obtain ⟨d, ds, hd, he, sd, se, q⟩ := h
  rw [Bool.true_xor] at q
  obtain ⟨as, r1⟩ := Dp.reads I d x v hd rx
  rcases he with he | he
  · obtain ⟨bs, r2⟩ := Dp.reads I (.list ds) y u he ry
    exact SeqAt.notIn_list_reads r2 r1 (SeqAt.canLay_of_shaped se) (SeqAt.canLay_of_shaped sd) (room_in_shaped sd hu) ⟨.bl _, H, I, rfl, q⟩
  · obtain ⟨bs, r2⟩ := Dp.reads I (.tuple ds) y u he ry
    exact SeqAt.notIn_tuple_reads r2 r1 (SeqAt.canLay_of_shaped se) (SeqAt.canLay_of_shaped sd) (room_in_shaped sd hu) ⟨.bl _, H, I, rfl, q⟩
def inGD (neg : Bool) : D → D → Option D
  | d, .list ds => if SeqAt.shaped d = true ∧ SeqAt.shaped (.list ds) = true then some (.bool (neg ^^ (ds.any fun z => PyData.eqv z d))) else none
  | d, .tuple ds => if SeqAt.shaped d = true ∧ SeqAt.shaped (.list ds) = true then some (.bool (neg ^^ (ds.any fun z => PyData.eqv z d))) else none
  | _, _ => none
abbrev inD : D → D → Option D := inGD false
abbrev notinD : D → D → Option D := inGD true
theorem ok_inG {neg : Bool} : BinOk X.K (rInU X.K neg) (inGD neg) := fun x y d1 d2 d F H Q fh p1 p2 e k => by
  unfold inGD at e
  split at e
  · split at e
    · rename_i hc
      cases e
      exact ⟨_, _, dpMono fh _ _ p1, .inl (dpMono fh _ _ p2), hc.1, hc.2, fin0 fh (.bl _) k⟩
    · cases e
  · split at e
    · rename_i hc
      cases e
      exact ⟨_, _, dpMono fh _ _ p1, .inr (dpMono fh _ _ p2), hc.1, hc.2, fin0 fh (.bl _) k⟩
    · cases e
  · cases e
theorem isb_inG {neg : Bool} : IsBo (inGD neg) := fun d e c h => by
  unfold inGD at h
  split at h
  · split at h
    · cases h; exact ⟨_, rfl⟩
    · cases h
  · split at h
    · cases h; exact ⟨_, rfl⟩
    · cases h
  · cases h
section
variable {a b : Expr} {pos : Pos} {fa fb : Fe}
theorem de_in (hu : X.A.units + 65 < cLine) (ha : DE X a fa) (hb : DE X b fb) (hm : behindInMarks .In b = false := by rfl) : DE X (.Compare a [.In] [b] pos) (eBin inD fa fb) := de_cmp (op_inU hu) ok_inG hm ha hb
theorem de_notin (hu : X.A.units + 65 < cLine) (ha : DE X a fa) (hb : DE X b fb) (hm : behindInMarks .NotIn b = false := by rfl) : DE X (.Compare a [.NotIn] [b] pos) (eBin notinD fa fb) := de_cmp (op_notInU hu) ok_inG hm ha hb
theorem dt_in (hu : X.A.units + 65 < cLine) (ha : DE X a fa) (hb : DE X b fb) (hm : behindInMarks .In b = false := by rfl) : DT X (.Compare a [.In] [b] pos) (tOf (eBin inD fa fb)) := dt_cmp (op_inU hu) ok_inG isb_inG hm ha hb
theorem dt_notin (hu : X.A.units + 65 < cLine) (ha : DE X a fa) (hb : DE X b fb) (hm : behindInMarks .NotIn b = false := by rfl) : DT X (.Compare a [.NotIn] [b] pos) (tOf (eBin notinD fa fb)) := dt_cmp (op_notInU hu) ok_inG isb_inG hm ha hb
end

/-! ### l.append(e) -/
theorem de_append (i : Nat) {x : Str} {a : Expr} {f : Fv} {pos p1 p2 : Pos} (he : DV X a f) (hN : X.N[i]? = some x := by rfl) (hv : Vis X.env.scope x := by first | exact Or.inl rfl | exact Or.inr (Or.inl rfl) | exact Or.inr (Or.inr rfl)) (hd : (x == ("__debug__" : Str)) = false := by decide)
    (hcd : (x == ("__classdict__" : Str)) = false := by decide) (hbase : attributeBase (.Name x p1) "append" X.env (eval (.Name x p1) X.env) = eval (.Name x p1) X.env := by rfl)
    (hfew : ((backTo pos (starEach [a] X.env)).all (fun x => !x.1) && (backToKw pos (keywordEach [] X.env)).all (fun x => x.1.isSome)
      && decide ([a].length + ([] : List Keyword).length + (if ([] : List Keyword).isEmpty then 0 else 1) < 30)) = true := by rfl)
    (hline : (p2.endLine == pos.line) = true := by rfl) (hs : starEach [a] X.env = (false, eval a X.env) :: starEach [] X.env := by rfl) (hplain : (backTo pos (starEach [] X.env)).any (·.1) = false := by rfl) :
    DE X (.Call (.Attribute (.Name x p1) "append" p2) [a] [] pos) (eApp i f) :=
  de_app i he hN hv hd hcd (pe_bm PySem.F.plainAttrs_list PySem.F.slot_list_append PySem.F.type_list_append mt_append (pe_var hN hv hd hcd) (pa_cons (de_dv he) pa_nil hs) hbase hfew hline hs hplain)

/-! ### a, b = e1, e2 where one is a cell -/
theorem ds_parC (i j : Nat) {x y : Str} {a b : Expr} {f h : Fv} {pos px py pt : Pos} {kt k2 pt2} (hc : X.calm = true) (hN : X.N.Nodup) (ha : DV X a f) (hb : DV X b h) (hi : X.N[i]? = some x := by rfl) (hj : X.N[j]? = some y := by rfl)
    (hx : Loc X.env.scope x := by first | exact Or.inl rfl | exact Or.inr rfl) (hy : Loc X.env.scope y := by first | exact Or.inl rfl | exact Or.inr rfl)
    (hfx : X.fn x = true ∨ X.env.scope.names.lookup x = some .local := by first | exact .inl rfl | exact .inr rfl | assumption) (hfy : X.fn y = true ∨ X.env.scope.names.lookup y = some .local := by first | exact .inl rfl | exact .inr rfl | assumption)
    (hs : swapsWithSole [.Tuple [.Name x px, .Name y py] kt pt] (.Tuple [a, b] k2 pt2) pos.line X.env = pure false := by rfl)
    (hw : swappedStores [.Tuple [.Name x px, .Name y py] kt pt] (.Tuple [a, b] k2 pt2) X.env = pure none := by rfl)
    (hg : (assignEach [.Tuple [.Name x px, .Name y py] kt pt] X.env).map (·.2) = [assign (.Tuple [.Name x px, .Name y py] kt pt) X.env] := by rfl)
    (hn : (assignEach [.Name x px, .Name y py] X.env).length = 2 := by rfl) (hst : (assignEach [.Name x px, .Name y py] X.env).findIdx? (·.1) = none := by rfl)
    (hg1 : (assignEach [.Name x px, .Name y py] X.env).map (·.2) = assign (.Name x px) X.env :: (assignEach [.Name y py] X.env).map (·.2) := by rfl) (hg2 : (assignEach [.Name y py] X.env).map (·.2) = assign (.Name y py) X.env :: (assignEach [] X.env).map (·.2) := by rfl)
    (h1 : starEach [a, b] X.env = (false, eval a X.env) :: starEach [b] X.env := by rfl) (h2 : starEach [b] X.env = (false, eval b X.env) :: starEach [] X.env := by rfl) :
    DS X (.Assign [.Tuple [.Name x px, .Name y py] kt pt] (.Tuple [a, b] k2 pt2) pos) (sPar i j f h) := psMono (ps_asg (pe_tup (pa_cons ha (pa_cons hb pa_nil h2) h1)) (pg_tup hc (pgs_cons (pg_name hN hi hx hfx) (pgs_cons (pg_name hN hj hy hfy) pgs_nil hg2) hg1) hn hst) hs hw hg) fun D s H ⟨F, g, o, r, e, k⟩ => by
  unfold sPar at e
  cases q : f g with
  | none => rw [q] at e; cases e
  | some p =>
    obtain ⟨x1, g1⟩ := p
    rw [q] at e
    have e : (h g1).bind _ = some o := e
    cases q2 : h g1 with
    | none => rw [q2] at e; cases e
    | some p2 =>
      obtain ⟨x2, g2⟩ := p2
      rw [q2] at e
      have e : parOut i j x1 x2 g2 = some o := e
      have hx1 : x1 ≠ .no := fun z => by subst z; cases e
      have hx2 : x2 ≠ .no := fun z => by subst z; cases x1 <;> cases e
      have eo : o = Out.nx ((g2.set i x1).set j x2) := by
        cases x1 <;> cases x2 <;> first | (cases e; rfl) | exact absurd rfl hx1 | exact absurd rfl hx2
      subst eo
      refine ⟨F, g, x1, g1, r, q, fun v F1 H1 hv hn r1 t1 m1 => ⟨F1, g1, x2, g2, r1, q2, fun w F2 H2 hw2 hn2 r2 t2 m2 => ⟨sl1000 (by decide : 2 ≤ 1000), fun p np => ⟨p, [v, w], rfl, SqT.of upd_same, rfl, v, [w], rfl, w, [], rfl, rfl, ?_⟩⟩⟩⟩
      have na : ∀ a, H a = none → ¬ OwnAt g1 s a := fun a ha z => by
        obtain ⟨xs, hx, _⟩ := r.ownSome (m1.own z)
        rw [ha] at hx; cases hx
      have hv2 : RepS X.K F2 H2 x1 (some v) := keepRep r1 hv t2 (fun tg ds z => by
        obtain ⟨_, a, ea, n⟩ := hn tg ds z
        exact ⟨a, ea, na a n⟩) r2.fh
      have t02 := Tr.of r2 (t1.two m1 t2) (m1.trans m2)
      have s1 := par_set i t02 hv2 hx1 fun tg ds z => by
        obtain ⟨e1, a, ea, n⟩ := hn tg ds z
        exact ⟨e1, a, ea, n, fun z2 => na a n (m2.own z2)⟩
      have s2 := par_set j s1 hw2 hx2 fun tg ds z => by
        obtain ⟨e1, a, ea, n⟩ := hn2 tg ds z
        refine ⟨e1, a, ea, ?_, fun z2 => ?_⟩
        · cases z3 : H a with
          | none => rfl
          | some u => exact absurd n (t1.dom a (by rw [z3]; simp))
        · rcases ownIn z2 r2.len with q3 | ⟨_, _, e3, e4⟩
          · obtain ⟨xs, hx, _⟩ := r1.ownSome (m2.own q3)
            rw [n] at hx; cases hx
          · subst e3
            cases e4
            obtain ⟨a', xs, ea', _, ha', _⟩ := hv
            cases ea'
            rw [n] at ha'; cases ha'
      exact k F2 _ _ (s2.trans (Tr.of (s2.rep.stepN (Stp.made np) (sameMade s2.rep.fh np)) (Stp.made np) Mo.refl))

/-! ### the root -/
theorem walkK {l : PySem.W.OpenLaw} {n k : Nat} {q : Program} {loose : List Str} {XP : (Str → Option Value) → Heap → Prop} {YP : World → Heap → Prop} {d : DefRec} {x : Str} {m : List D → Option Sl}
    (hn : l.most = some n) (hn2 : n ≤ sizeLine) (hdf : d.params.defaults = []) (room : Room k callerA)
    (G : ∀ (w : World) (mg : Str → Option Value) (fa : Addr) (h : Heap), YP w h → h.Ns mainGlobals mg → mg d.name = some (.ref fa) →
      ∃ (K : PySem.W.Frag) (fd : FuncData), K.In h ∧ (∀ (s : Shared) (u : Value), BindsTo s fd ⟨[u], []⟩ [(x, u)]) ∧ ∀ base : Heap, K.In base → base.Ns mainGlobals mg → FnG l.prog w K mg base k fa fd [x] (spP K 1 m))
    (good : ∀ ns : List Int, ns.length ≤ n → m [.list (ns.map .int)] = some (.v (.bool true))) :
    PySem.W.WalkO q loose XP YP l.row.toRowW d [] (fun f vs => PySem.call f vs) := by
  refine Att.attach_call hn hdf fun w s0 s1 mg mb fa o pm cd doc a vs ns TT Y ho hd hcd hmg hob hns hlen hgens => ?_
  obtain ⟨K, fd, inK, bnd, hG⟩ := G w mg fa _ Y TT.T.g hmg
  exact lawG inK TT.T.g TT.T.b TT.T.builtins TT.T.nolimit hgens hob hns (Nat.le_trans hlen hn2) room hG bnd (good ns hlen)
end Dl
set_option Elab.async false
set_option linter.all false
set_option maxRecDepth 100000
namespace Dl
open PySem PySem.Spec PyProof.Rows L2

theorem log_lt {n k : Nat} (hk : 0 < k) (h : n < 2 ^ k) : n.log2 < k := by
  by_cases e : n = 0
  · subst e; simpa using hk
  · exact (Nat.log2_lt e).mpr h
/-! ### loops told by what stays -/
theorem forGo_inv {t : Fg} {b : Fs} (E : G → Prop) : ∀ (ds : List D), (∀ d ∈ ds, ∀ g, E g → ∃ g1 g2, t d g = some g1 ∧ b g1 = some (.nx g2) ∧ E g2) → ∀ g, E g → ∃ g', forGo t b ds g = some (.nx g') ∧ E g'
  | [], _, g, e => ⟨g, rfl, e⟩
  | d :: r, h, g, e => by
    obtain ⟨g1, g2, h1, h2, h3⟩ := h d (List.mem_cons_self ..) g e
    obtain ⟨g', h4, h5⟩ := forGo_inv E r (fun d hd => h d (List.mem_cons_of_mem _ hd)) g2 h3
    exact ⟨g', by simp [forGo, h1, h2, h4], h5⟩
/-- a loop that looks for the first thing to hand back -/
theorem forGo_find {t : Fg} {b : Fs} (E : G → Prop) (p : D → Option Sl) : ∀ (ds : List D),
    (∀ d ∈ ds, ∀ g, E g → ∃ g1, t d g = some g1 ∧ ((p d = none ∧ ∃ g2, b g1 = some (.nx g2) ∧ E g2) ∨ ∃ x g2, p d = some x ∧ b g1 = some (.ret x g2))) →
    ∀ g, E g → (ds.findSome? p = none ∧ ∃ g', forGo t b ds g = some (.nx g') ∧ E g') ∨ ∃ x g', ds.findSome? p = some x ∧ forGo t b ds g = some (.ret x g')
  | [], _, g, e => .inl ⟨rfl, g, rfl, e⟩
  | d :: r, h, g, e => by
    obtain ⟨g1, h1, h2⟩ := h d (List.mem_cons_self ..) g e
    rcases h2 with ⟨hp, g2, h2, h3⟩ | ⟨x, g2, hp, h2⟩
    · rcases forGo_find E p r (fun d hd => h d (List.mem_cons_of_mem _ hd)) g2 h3 with ⟨h4, g', h5, h6⟩ | ⟨x, g', h4, h5⟩
      · exact .inl ⟨by simp [List.findSome?_cons, hp, h4], g', by simp [forGo, h1, h2, h5], h6⟩
      · exact .inr ⟨x, g', by simp [List.findSome?_cons, hp, h4], by simp [forGo, h1, h2, h5]⟩
    · exact .inr ⟨x, g2, by simp [List.findSome?_cons, hp], by simp [forGo, h1, h2]⟩
/-- by what is left -/
theorem forGo_rest {t : Fg} {b : Fs} (P : List D → G → Prop) (h : ∀ d r g, P (d :: r) g → ∃ g1 g2, t d g = some g1 ∧ b g1 = some (.nx g2) ∧ P r g2) : ∀ (ds : List D) (g : G), P ds g → ∃ g', forGo t b ds g = some (.nx g') ∧ P [] g'
  | [], g, e => ⟨g, rfl, e⟩
  | d :: r, g, e => by
    obtain ⟨g1, g2, h1, h2, h3⟩ := h d r g e
    obtain ⟨g', h4, h5⟩ := forGo_rest P h r g2 h3
    exact ⟨g', by simp [forGo, h1, h2, h4], h5⟩
/-- a loop that gathers -/
theorem forGo_acc {α β : Type} {t : Fg} {b : Fs} (enc : α → D) (h : α → β) (E : List β → G → Prop) (M : Nat) : ∀ (xs : List α) (acc : List β) (g : G), acc.length + xs.length ≤ M →
    (∀ x ∈ xs, ∀ acc g, acc.length < M → E acc g → ∃ g1 g2, t (enc x) g = some g1 ∧ b g1 = some (.nx g2) ∧ E (acc ++ [h x]) g2) → E acc g → ∃ g', forGo t b (xs.map enc) g = some (.nx g') ∧ E (acc ++ xs.map h) g'
  | [], acc, g, _, _, e => ⟨g, rfl, by simpa using e⟩
  | x :: r, acc, g, hl, H, e => by
    simp only [List.length_cons] at hl
    obtain ⟨g1, g2, h1, h2, h3⟩ := H x (List.mem_cons_self ..) acc g (by omega) e
    obtain ⟨g', h4, h5⟩ := forGo_acc enc h E M r (acc ++ [h x]) g2 (by simp; omega) (fun x hx => H x (List.mem_cons_of_mem _ hx)) h3
    refine ⟨g', by simp [forGo, h1, h2, h4], ?_⟩
    simpa using h5
/-- a loop whose state is told apart from the tag -/
theorem forGo_uni {σ : Type} {tg : Fg} {b : Fs} (enc : Option Addr → σ → G) (I : Nat → σ → Prop) (M : Nat) : ∀ (ds : List D) (m : Nat) (s : σ), m + ds.length ≤ M → I m s →
    (∀ d ∈ ds, ∀ m s, m < M → I m s → ∃ s', I (m + 1) s' ∧ ∀ t, ∃ g1, tg d (enc t s) = some g1 ∧ b g1 = some (.nx (enc t s'))) → ∃ s', I (m + ds.length) s' ∧ ∀ t, forGo tg b ds (enc t s) = some (.nx (enc t s'))
  | [], m, s, _, h, _ => ⟨s, h, fun t => rfl⟩
  | d :: r, m, s, hM, h, H => by
    simp only [List.length_cons] at hM
    obtain ⟨s1, h1, h2⟩ := H d (List.mem_cons_self ..) m s (by omega) h
    obtain ⟨s', h3, h4⟩ := forGo_uni enc I M r (m + 1) s1 (by omega) h1 fun d hd => H d (List.mem_cons_of_mem _ hd)
    refine ⟨s', by rw [List.length_cons, Nat.add_comm r.length, ← Nat.add_assoc]; exact h3, fun t => ?_⟩
    obtain ⟨g1, k1, k2⟩ := h2 t
    simp [forGo, k1, k2, h4 t]
/-! ### step by step -/
theorem fnP_ret {f : Fs} {N : Nat} {ds : List D} {x : Sl} {g' : G} (g0 : G) (hg : ds.map Sl.v ++ List.replicate (N - ds.length) .no = g0) (h : f g0 = some (.ret x g')) : fnP f N ds = some x := by
  unfold fnP runG
  rw [List.length_map, hg, h]
  rfl
theorem fnP_nx {f : Fs} {N : Nat} {ds : List D} {g' : G} (g0 : G) (hg : ds.map Sl.v ++ List.replicate (N - ds.length) .no = g0) (h : f g0 = some (.nx g')) : fnP f N ds = some (.v .none) := by
  unfold fnP runG
  rw [List.length_map, hg, h]
  rfl
theorem seq_nx {f h : Fs} {g g1 : G} {o : Option Out} (e : f g = some (.nx g1)) (e2 : h g1 = o) : sSeq f h g = o := by
  unfold sSeq
  rw [e]
  exact e2
theorem seq_ret {f h : Fs} {g g1 : G} {x : Sl} (e : f g = some (.ret x g1)) : sSeq f h g = some (.ret x g1) := by
  unfold sSeq
  rw [e]
  rfl
theorem if_t {t : Ft} {f h : Fs} {g g1 : G} {o : Option Out} (e : t g = some (true, g1)) (e2 : f g1 = o) : sIf t f h g = o := by
  unfold sIf
  rw [e]
  exact e2
theorem if_f {t : Ft} {f h : Fs} {g g1 : G} {o : Option Out} (e : t g = some (false, g1)) (e2 : h g1 = o) : sIf t f h g = o := by
  unfold sIf
  rw [e]
  exact e2
theorem set_v {i : Nat} {f : Fv} {g g1 : G} {d : D} (e : f g = some (.v d, g1)) : sSet i f g = some (.nx (g1.set i (.v d))) := by
  unfold sSet
  rw [e]
  rfl
theorem set_o {i : Nat} {f : Fv} {g g1 : G} {ds : List D} (e : f g = some (.own none ds, g1)) : sSet i f g = some (.nx (g1.set i (.own none ds))) := by
  unfold sSet
  rw [e]
  rfl
theorem ret_v {f : Fv} {g g1 : G} {d : D} (e : f g = some (.v d, g1)) : sRet f g = some (.ret (.v d) g1) := by
  unfold sRet
  rw [e]
  rfl
theorem ret_o {f : Fv} {g g1 : G} {t : Option Addr} {ds : List D} (e : f g = some (.own t ds, g1)) : sRet f g = some (.ret (.own t ds) g1) := by
  unfold sRet
  rw [e]
  rfl
theorem ex_of {f : Fe} {g g1 : G} {d : D} (e : f g = some (d, g1)) : sEx f g = some (.nx g1) := by
  unfold sEx
  rw [e]
  rfl
theorem for_of {f : Fa} {t : Fg} {b : Fs} {g g1 : G} {ds : List D} {o : Option Out} (e : f g = some (ds, g1)) (e2 : forGo t b ds g1 = o) : sFor f t b g = o := by
  unfold sFor
  rw [e]
  exact e2
theorem vE_of {f : Fe} {g g1 : G} {d : D} (e : f g = some (d, g1)) : vE f g = some (.v d, g1) := by
  unfold vE
  rw [e]
  rfl
theorem eV_v {f : Fv} {g g1 : G} {d : D} (e : f g = some (.v d, g1)) : eV f g = some (d, g1) := by
  unfold eV
  rw [e]
  rfl
theorem eV_o {f : Fv} {g g1 : G} {t : Option Addr} {ds : List D} (e : f g = some (.own t ds, g1)) : eV f g = some (.list ds, g1) := by
  unfold eV
  rw [e]
  rfl
theorem eUn_of {op : D → Option D} {f : Fe} {g g1 : G} {d d2 : D} (e : f g = some (d, g1)) (h : op d = some d2) : eUn op f g = some (d2, g1) := by
  unfold eUn
  rw [e]
  show (op d).map _ = _
  rw [h]
  rfl
theorem eBin_of {op : D → D → Option D} {f h : Fe} {g g1 g2 : G} {d d2 d3 : D} (e : f g = some (d, g1)) (e2 : h g1 = some (d2, g2)) (k : op d d2 = some d3) : eBin op f h g = some (d3, g2) := by
  unfold eBin
  rw [e]
  show (h g1).bind _ = _
  rw [e2]
  show (op d d2).map _ = _
  rw [k]
  rfl
theorem eCall_of {m : List D → Option Sl} {f : Fa} {g g1 : G} {ds : List D} {x : Sl} (e : f g = some (ds, g1)) (h : m ds = some x) : eCall m f g = some (x, g1) := by
  unfold eCall
  rw [e]
  show (m ds).map _ = _
  rw [h]
  rfl
theorem tOf_b {f : Fe} {g g1 : G} {b : Bool} (e : f g = some (.bool b, g1)) : tOf f g = some (b, g1) := by
  unfold tOf
  rw [e]
  rfl
theorem tNot_of {f : Ft} {g g1 : G} {b : Bool} (e : f g = some (b, g1)) : Dl.tNotT f g = some (!b, g1) := by
  unfold Dl.tNotT
  rw [e]
  rfl
theorem tOr_t {f h : Ft} {g g1 : G} (e : f g = some (true, g1)) : Dl.tOrT f h g = some (true, g1) := by
  unfold Dl.tOrT
  rw [e]
  rfl
theorem tOr_f {f h : Ft} {g g1 : G} {o : Option (Bool × G)} (e : f g = some (false, g1)) (e2 : h g1 = o) : Dl.tOrT f h g = o := by
  unfold Dl.tOrT
  rw [e]
  exact e2
theorem tAnd_f {f h : Ft} {g g1 : G} (e : f g = some (false, g1)) : Dl.tAndT f h g = some (false, g1) := by
  unfold Dl.tAndT
  rw [e]
  rfl
theorem tAnd_t {f h : Ft} {g g1 : G} {o : Option (Bool × G)} (e : f g = some (true, g1)) (e2 : h g1 = o) : Dl.tAndT f h g = o := by
  unfold Dl.tAndT
  rw [e]
  exact e2
theorem eAnd_t {f h : Fe} {g g1 : G} {o : Option (D × G)} (e : f g = some (.bool true, g1)) (e2 : h g1 = o) : eAnd f h g = o := by
  unfold eAnd
  rw [e]
  exact e2
theorem eAnd_f {f h : Fe} {g g1 : G} (e : f g = some (.bool false, g1)) : eAnd f h g = some (.bool false, g1) := by
  unfold eAnd
  rw [e]
  rfl
theorem eOr_t {f h : Fe} {g g1 : G} (e : f g = some (.bool true, g1)) : eOr f h g = some (.bool true, g1) := by
  unfold eOr
  rw [e]
  rfl
theorem eOr_f {f h : Fe} {g g1 : G} {o : Option (D × G)} (e : f g = some (.bool false, g1)) (e2 : h g1 = o) : eOr f h g = o := by
  unfold eOr
  rw [e]
  exact e2
theorem ar_nil {g : G} : aNil g = some ([], g) := rfl
theorem ar_cons {f : Fe} {fs : Fa} {g g1 g2 : G} {d : D} {ds : List D} (e : f g = some (d, g1)) (e2 : fs g1 = some (ds, g2)) : aCons f fs g = some (d :: ds, g2) := by
  unfold aCons
  rw [e]
  show (fs g1).map _ = _
  rw [e2]
  rfl
theorem eTup_of {f : Fa} {g g1 : G} {ds : List D} (e : f g = some (ds, g1)) : eTup f g = some (.tuple ds, g1) := by
  unfold eTup
  rw [e]
  rfl
theorem vLst_of {f : Fa} {g g1 : G} {ds : List D} (e : f g = some (ds, g1)) : vLst f g = some (.own none ds, g1) := by
  unfold vLst
  rw [e]
  rfl
theorem ixV_v {i : Nat} {f : Fe} {g g1 : G} {a b d d2 : D} (e0 : slD g[i]? = some a) (e : f g = some (d, g1)) (e1 : slD g1[i]? = some b) (k : atD b d = some d2) : eIxV i f g = some (d2, g1) := by
  unfold eIxV
  rw [e0]
  show (f g).bind _ = _
  rw [e]
  show (slD g1[i]?).bind _ = _
  rw [e1]
  show (atD b d).map _ = _
  rw [k]
  rfl
theorem par_of {i j : Nat} {f h : Fv} {g g1 g2 : G} {x y : D} (e : f g = some (.v x, g1)) (e2 : h g1 = some (.v y, g2)) : sPar i j f h g = some (.nx ((g2.set i (.v x)).set j (.v y))) := by
  unfold sPar
  rw [e]
  show (h g1).bind _ = _
  rw [e2]
  rfl
theorem iSeq_of {f : Fe} {g g1 : G} {d : D} {ds : List D} (e : f g = some (d, g1)) (h : seqD d = some ds) : iSeq f g = some (ds, g1) := by
  unfold iSeq
  rw [e]
  show (seqD d).map _ = _
  rw [h]
  rfl
theorem eIf_t {t : Ft} {f h : Fe} {g g1 : G} {o : Option (D × G)} (e : t g = some (true, g1)) (e2 : f g1 = o) : eIf t f h g = o := by
  unfold eIf
  rw [e]
  exact e2
theorem eIf_f {t : Ft} {f h : Fe} {g g1 : G} {o : Option (D × G)} (e : t g = some (false, g1)) (e2 : h g1 = o) : eIf t f h g = o := by
  unfold eIf
  rw [e]
  exact e2
theorem app_of {i : Nat} {f : Fv} {g g1 : G} {t : Option Addr} {ds ds0 : List D} {d : D} (e0 : ownD g[i]? = some ds0) (e : eV f g = some (d, g1)) (e1 : g1[i]? = some (.own t ds)) (hl : ds.length < 1000000) : eApp i f g = some (.none, g1.set i (.own t (ds ++ [d]))) := by
  unfold eApp
  simp only [e0, e, e1, hl, Option.bind_some, if_true]
theorem callI_of {m : List D → List D → Option (Sl × List D)} {i : Nat} {f : Fa} {g g1 : G} {t : Option Addr} {es0 es es' ds : List D} {x : Sl} (e0 : ownD g[i]? = some es0) (e : f g = some (ds, g1)) (e1 : g1[i]? = some (.own t es)) (k : m es ds = some (x, es')) : eCallI m i f g = some (x, g1.set i (.own t es')) := by
  unfold eCallI
  simp only [e0, e, e1, k, Option.bind_some, Option.map_some]
theorem put_of {i : Nat} {fj : Fe} {f : Fv} {g g1 g2 : G} {t : Option Addr} {ds : List D} {d : D} {k : Int} {j : Nat} (e : eV f g = some (d, g1)) (e0 : g1[i]? = some (.own t ds)) (e1 : fj g1 = some (.int k, g2)) (e2 : g2[i]? = some (.own t ds)) (e3 : L2.ixN ds.length k = some j) : sPut i fj f g = some (.nx (g2.set i (.own t (ds.set j d)))) := by
  unfold sPut
  simp only [e, e0, e1, e2, e3, Option.bind_some, Option.map_some, slD]
theorem retV_v {i : Nat} {g : G} {d : D} (e : g[i]? = some (.v d)) : sRetV i g = some (.ret (.v d) g) := by
  unfold sRetV
  rw [e]
theorem retV_o {i : Nat} {g : G} {ds : List D} (e : g[i]? = some (.own none ds)) : sRetV i g = some (.ret (.own none ds) (g.set i .no)) := by
  unfold sRetV
  rw [e]
theorem ltD_ii (i j : Int) : ltD (.int i) (.int j) = some (.bool (decide (i < j))) := rfl
theorem gtD_ii (i j : Int) : gtD (.int i) (.int j) = some (.bool (decide (j < i))) := rfl
theorem geD_ii (i j : Int) : geD (.int i) (.int j) = some (.bool (decide (j ≤ i))) := rfl
theorem leD_ii (i j : Int) : leD (.int i) (.int j) = some (.bool (decide (i ≤ j))) := rfl
theorem ltD_t {i j : Int} (h : i < j) : ltD (.int i) (.int j) = some (.bool true) := by rw [ltD_ii, decide_eq_true h]
theorem ltD_f {i j : Int} (h : ¬ i < j) : ltD (.int i) (.int j) = some (.bool false) := by rw [ltD_ii, decide_eq_false h]
theorem gtD_t {i j : Int} (h : j < i) : gtD (.int i) (.int j) = some (.bool true) := by rw [gtD_ii, decide_eq_true h]
theorem gtD_f {i j : Int} (h : ¬ j < i) : gtD (.int i) (.int j) = some (.bool false) := by rw [gtD_ii, decide_eq_false h]
theorem geD_t {i j : Int} (h : j ≤ i) : geD (.int i) (.int j) = some (.bool true) := by rw [geD_ii, decide_eq_true h]
theorem geD_f {i j : Int} (h : ¬ j ≤ i) : geD (.int i) (.int j) = some (.bool false) := by rw [geD_ii, decide_eq_false h]
theorem leD_t {i j : Int} (h : i ≤ j) : leD (.int i) (.int j) = some (.bool true) := by rw [leD_ii, decide_eq_true h]
theorem leD_f {i j : Int} (h : ¬ i ≤ j) : leD (.int i) (.int j) = some (.bool false) := by rw [leD_ii, decide_eq_false h]
theorem mulD_of {i j : Int} (h : Dl.MulOk i j = true) : mulD (.int i) (.int j) = some (.int (i * j)) := by
  unfold mulD
  simp only [h, if_true]
theorem mulOk_r {i j : Int} (h : j.natAbs < 2 ^ 64) : Dl.MulOk i j = true := by
  unfold Dl.MulOk
  simp [h]
theorem mulOk_l {i j : Int} (h : i.natAbs < 2 ^ 64) : Dl.MulOk i j = true := by
  unfold Dl.MulOk
  simp [h]
theorem modD_of {i j : Int} (h : j ≠ 0) : modD (.int i) (.int j) = some (.int (i.fmod j)) := by
  unfold modD
  simp only [h, if_false]
theorem fdivD_of {i j : Int} (h : Dl.DivOk j = true) : fdivD (.int i) (.int j) = some (.int (i.fdiv j)) := by
  unfold fdivD
  simp only [h, if_true]
theorem divOk_s {j : Int} (h0 : j ≠ 0) (h : j.natAbs < 2 ^ 64) : Dl.DivOk j = true := by
  have := log_lt (by decide) h
  unfold Dl.DivOk
  simp [h0]
  omega
theorem fnI_ret {f : Fs} {N : Nat} {es ds : List D} {x : Sl} {es' : List D} (h : ∀ a : Addr, ∃ g', f (.own (some a) es :: (ds.map Sl.v ++ List.replicate (N - (ds.length + 1)) .no)) = some (.ret x g') ∧ g'[0]? = some (.own (some a) es')) : fnI f N es ds = some (x, es') := by
  refine fnI_of fun a => ?_
  obtain ⟨g', h1, h2⟩ := h a
  refine ⟨g', ?_, h2⟩
  unfold runG
  have e : (Sl.own (some a) es :: ds.map Sl.v) ++ List.replicate (N - (Sl.own (some a) es :: ds.map Sl.v).length) .no = .own (some a) es :: (ds.map Sl.v ++ List.replicate (N - (ds.length + 1)) .no) := by simp
  rw [e, h1]
theorem cutL_map {α : Type} {f : α → D} {l : List α} {lo hi : Option Int} : cutL (l.map f) lo hi = (cutL l lo hi).map f := by
  unfold cutL
  simp [List.map_take, List.map_drop]
theorem eSlU_of {fa : Fe} {fl fh : Fo} {g g1 g2 g3 : G} {ds : List D} {lo hi : Option Int} (e : fa g = some (.tuple ds, g1)) (e2 : fl g1 = some (lo, g2)) (e3 : fh g2 = some (hi, g3)) : eSlU fa fl fh g = some (.tuple (cutL ds lo hi), g3) := by
  unfold eSlU
  simp only [e, e2, e3, Option.bind_some]
theorem eSlU_ofL {fa : Fe} {fl fh : Fo} {g g1 g2 g3 : G} {ds : List D} {lo hi : Option Int} (e : fa g = some (.list ds, g1)) (e2 : fl g1 = some (lo, g2)) (e3 : fh g2 = some (hi, g3)) : eSlU fa fl fh g = some (.list (cutL ds lo hi), g3) := by
  unfold eSlU
  simp only [e, e2, e3, Option.bind_some]
theorem oSome_of {f : Fe} {g g1 : G} {i : Int} (e : f g = some (.int i, g1)) : oSome f g = some (some i, g1) := by
  unfold oSome
  rw [e]
theorem cut_take {α : Type} {l : List α} {i : Nat} (h : i ≤ l.length) : cutL l none (some (i : Int)) = l.take i := by
  unfold cutL
  rw [HT.sIx_none, HT.sIx_nat, Nat.min_eq_left h]
  simp
theorem cut_drop {α : Type} {l : List α} {i : Nat} (h : i ≤ l.length) : cutL l (some (i : Int)) none = l.drop i := by
  unfold cutL
  rw [HT.sIx_none, HT.sIx_nat, Nat.min_eq_left h]
  exact List.take_of_length_le (by simp)
theorem addA_cat {xs ys : List D} (h : xs.length + ys.length ≤ 1000000) : addA (.tuple xs) (.tuple ys) = some (.tuple (xs ++ ys)) := by
  rw [addA_tup]
  unfold catTD
  simp only [h, if_true]
theorem vLc_of {fi : Fa} {tg : Fg} {c : Ft} {f : Fe} {vs : List Nat} {g g0 g' : G} {ds ds' : List D} (hi : fi g = some (ds, g0)) (ok : okW g0 vs = true) (h : lcGo tg c f vs ds (wipeG g0 vs) = some (ds', g')) (hl : ds'.length ≤ 1000000) : vLc fi tg c f vs g = some (.own none ds', backG g0 g' vs) := by
  unfold vLc
  simp only [hi, Option.bind_some, ok, if_true, h, hl]
theorem asg_of {f : Fe} {tg : Fg} {g g1 g2 : G} {d : D} (e : f g = some (d, g1)) (h : tg d g1 = some g2) : sAsg f tg g = some (.nx g2) := by
  unfold sAsg
  simp only [e, Option.bind_some, h, Option.map_some]
theorem parO_of {i j : Nat} {f h : Fv} {g g1 g2 : G} {x y : List D} (e : f g = some (.own none x, g1)) (e2 : h g1 = some (.own none y, g2)) : sPar i j f h g = some (.nx ((g2.set i (.own none x)).set j (.own none y))) := by
  unfold sPar
  simp only [e, Option.bind_some, e2]
  rfl
theorem atI_last {l : List D} {d : D} : L2.atI (l ++ [d]) (-1) = some d := by
  unfold L2.atI L2.ixN
  have h1 : -(((l ++ [d]).length : Nat) : Int) ≤ -1 := by simp; omega
  rw [if_neg (by decide), if_pos h1]
  have h2 : (-1 + (((l ++ [d]).length : Nat) : Int)).toNat = l.length := by simp; omega
  rw [h2]
  simp
theorem rng_of {f : Fa} {g g1 : G} {n : Nat} (e : f g = some ([.int (n : Int)], g1)) (h : n < 1000000) : iRange1 f g = some ((List.range n).map fun (i : Nat) => .int (i : Int), g1) := by
  have hs : SmI (n : Int) := by unfold SmI; omega
  unfold iRange1
  simp only [e, hs, if_true, Int.toNat_natCast]
  simp [rangeL]
theorem enum_of {f : Fa} {g g1 : G} {d : D} {ds : List D} (e : f g = some ([d], g1)) (h : seqD d = some ds) : iEnum' f g = some (pairL 0 ds, g1) := by
  unfold iEnum'
  simp only [e, h, Option.map_some]
/-! ### comprehensions -/
theorem lcGo_pure {t : Fg} {c : Ft} {f : Fe} {vs : List Nat} {g : G} (h : D → D) : ∀ (ds : List D), (∀ d ∈ ds, ∃ g1 g2, t d g = some g1 ∧ c g1 = some (true, g1) ∧ f g1 = some (h d, g2) ∧ wipeG g2 vs = g) → lcGo t c f vs ds g = some (ds.map h, g)
  | [], _ => rfl
  | d :: r, H => by
    obtain ⟨g1, g2, h1, h2, h3, h4⟩ := H d (List.mem_cons_self ..)
    have ih := lcGo_pure h r fun d hd => H d (List.mem_cons_of_mem _ hd)
    simp [lcGo, h1, h2, h3, h4, ih]
theorem vLc_pure {fi : Fa} {t : Fg} {c : Ft} {f : Fe} {vs : List Nat} {g g0 : G} {ds : List D} (h : D → D) (hi : fi g = some (ds, g0)) (ok : okW g0 vs = true) (hl : ds.length ≤ 1000000)
    (H : ∀ d ∈ ds, ∃ g1 g2, t d (wipeG g0 vs) = some g1 ∧ c g1 = some (true, g1) ∧ f g1 = some (h d, g2) ∧ wipeG g2 vs = wipeG g0 vs) : vLc fi t c f vs g = some (.own none (ds.map h), backG g0 (wipeG g0 vs) vs) := by
  have e := lcGo_pure h ds H
  unfold vLc
  rw [hi]
  show (if okW g0 vs = true then _ else _) = _
  rw [if_pos ok]
  rw [e]
  simp [hl]
theorem lcGo_rel {t : Fg} {f : Fe} {vs : List Nat} (E : G → Prop) (P : D → Prop) : ∀ (ds : List D), (∀ d ∈ ds, ∀ g, E g → ∃ g1 d' g2, t d g = some g1 ∧ f g1 = some (d', g2) ∧ P d' ∧ E (wipeG g2 vs)) → ∀ g, E g → ∃ ds' g', lcGo t cYes f vs ds g = some (ds', g') ∧ ds'.length = ds.length ∧ (∀ d ∈ ds', P d) ∧ E g'
  | [], _, g, e => ⟨[], g, rfl, rfl, by simp, e⟩
  | d :: r, H, g, e => by
    obtain ⟨g1, d', g2, h1, h2, h3, h4⟩ := H d (List.mem_cons_self ..) g e
    obtain ⟨ds', g', h5, h6, h7, h8⟩ := lcGo_rel E P r (fun d hd => H d (List.mem_cons_of_mem _ hd)) _ h4
    refine ⟨d' :: ds', g', by simp [lcGo, h1, cYes, h2, h5], by simp [h6], ?_, h8⟩
    intro z hz
    rcases List.mem_cons.mp hz with rfl | hz
    · exact h3
    · exact h7 z hz
theorem vLc_rel {fi : Fa} {t : Fg} {f : Fe} {vs : List Nat} {g g0 : G} {ds : List D} (E : G → Prop) (P : D → Prop) (hi : fi g = some (ds, g0)) (ok : okW g0 vs = true) (hl : ds.length ≤ 1000000) (hE : E (wipeG g0 vs))
    (H : ∀ d ∈ ds, ∀ g, E g → ∃ g1 d' g2, t d g = some g1 ∧ f g1 = some (d', g2) ∧ P d' ∧ E (wipeG g2 vs)) : ∃ ds' g', vLc fi t cYes f vs g = some (.own none ds', backG g0 g' vs) ∧ ds'.length = ds.length ∧ (∀ d ∈ ds', P d) ∧ E g' := by
  obtain ⟨ds', g', h1, h2, h3, h4⟩ := lcGo_rel E P ds H _ hE
  refine ⟨ds', g', ?_, h2, h3, h4⟩
  unfold vLc
  rw [hi]
  show (if okW g0 vs = true then _ else _) = _
  rw [if_pos ok, h1]
  simp [h2, hl]
/-- a list of data told one by one -/
theorem mapOf {α : Type} {f : α → D} {P : α → Prop} : ∀ {ds : List D}, (∀ d ∈ ds, ∃ a, d = f a ∧ P a) → ∃ l : List α, ds = l.map f ∧ ∀ a ∈ l, P a
  | [], _ => ⟨[], rfl, by simp⟩
  | d :: r, h => by
    obtain ⟨a, e, ha⟩ := h d (List.mem_cons_self ..)
    obtain ⟨l, e2, hl⟩ := mapOf (ds := r) fun d hd => h d (List.mem_cons_of_mem _ hd)
    refine ⟨a :: l, by rw [e, e2]; rfl, ?_⟩
    intro z hz
    rcases List.mem_cons.mp hz with rfl | hz
    · exact ha
    · exact hl z hz

theorem lcGo_map {α : Type} {t : Fg} {c : Ft} {f : Fe} {vs : List Nat} {g : G} (enc : α → D) (h : α → D) : ∀ (xs : List α), (∀ x ∈ xs, ∃ g1 g2, t (enc x) g = some g1 ∧ c g1 = some (true, g1) ∧ f g1 = some (h x, g2) ∧ wipeG g2 vs = g) → lcGo t c f vs (xs.map enc) g = some (xs.map h, g)
  | [], _ => rfl
  | d :: r, H => by
    obtain ⟨g1, g2, h1, h2, h3, h4⟩ := H d (List.mem_cons_self ..)
    have ih := lcGo_map enc h r fun d hd => H d (List.mem_cons_of_mem _ hd)
    simp [lcGo, h1, h2, h3, h4, ih]
theorem vLc_map {α : Type} {fi : Fa} {t : Fg} {c : Ft} {f : Fe} {vs : List Nat} {g g0 : G} {xs : List α} (enc : α → D) (h : α → D) (hi : fi g = some (xs.map enc, g0)) (ok : okW g0 vs = true) (hl : xs.length ≤ 1000000)
    (H : ∀ x ∈ xs, ∃ g1 g2, t (enc x) (wipeG g0 vs) = some g1 ∧ c g1 = some (true, g1) ∧ f g1 = some (h x, g2) ∧ wipeG g2 vs = wipeG g0 vs) : vLc fi t c f vs g = some (.own none (xs.map h), backG g0 (wipeG g0 vs) vs) := by
  have e := lcGo_map enc h xs H
  unfold vLc
  rw [hi]
  show (if okW g0 vs = true then _ else _) = _
  rw [if_pos ok]
  rw [e]
  simp [hl]
theorem forGo_findM {α : Type} {t : Fg} {b : Fs} (E : G → Prop) (enc : α → D) (p : α → Option Sl) : ∀ (xs : List α),
    (∀ x ∈ xs, ∀ g, E g → ∃ g1, t (enc x) g = some g1 ∧ ((p x = none ∧ ∃ g2, b g1 = some (.nx g2) ∧ E g2) ∨ ∃ y g2, p x = some y ∧ b g1 = some (.ret y g2))) →
    ∀ g, E g → (xs.findSome? p = none ∧ ∃ g', forGo t b (xs.map enc) g = some (.nx g') ∧ E g') ∨ ∃ y g', xs.findSome? p = some y ∧ forGo t b (xs.map enc) g = some (.ret y g')
  | [], _, g, e => .inl ⟨rfl, g, rfl, e⟩
  | d :: r, h, g, e => by
    obtain ⟨g1, h1, h2⟩ := h d (List.mem_cons_self ..) g e
    rcases h2 with ⟨hp, g2, h2, h3⟩ | ⟨x, g2, hp, h2⟩
    · rcases forGo_findM E enc p r (fun d hd => h d (List.mem_cons_of_mem _ hd)) g2 h3 with ⟨h4, g', h5, h6⟩ | ⟨x, g', h4, h5⟩
      · exact .inl ⟨by simp [List.findSome?_cons, hp, h4], g', by simp [forGo, h1, h2, h5], h6⟩
      · exact .inr ⟨x, g', by simp [List.findSome?_cons, hp, h4], by simp [forGo, h1, h2, h5]⟩
    · exact .inr ⟨x, g2, by simp [List.findSome?_cons, hp], by simp [forGo, h1, h2]⟩
theorem boolL_map {α : Type} (f : α → Bool) : ∀ xs : List α, boolL (xs.map fun x => .bool (f x)) = some (xs.map f)
  | [] => rfl
  | x :: r => by simp [boolL, boolL_map f r]
theorem allD_map {α : Type} (f : α → Bool) (xs : List α) : allD (.list (xs.map fun x => .bool (f x))) = some (.bool (xs.all f)) := by
  unfold allD
  simp [boolL_map, List.all_map]
theorem atI_map {α : Type} {f : α → D} {l : List α} {i : Nat} {a : α} (h : l[i]? = some a) : L2.atI (l.map f) (i : Int) = some (f a) := by
  have hi := (List.getElem?_eq_some_iff.mp h).1
  unfold L2.atI L2.ixN
  have h1 : ((i : Nat) : Int) < ((l.map f).length : Nat) := by simp; exact hi
  rw [if_pos (by omega), if_pos h1]
  simp [h]
theorem atD_map {α : Type} {f : α → D} {l : List α} {i : Nat} {a : α} (h : l[i]? = some a) : atD (.tuple (l.map f)) (.int (i : Int)) = some (f a) := atI_map h
theorem atD_mapL {α : Type} {f : α → D} {l : List α} {i : Nat} {a : α} (h : l[i]? = some a) : atD (.list (l.map f)) (.int (i : Int)) = some (f a) := atI_map h
theorem zipL_map {α β : Type} {f : α → D} {h : β → D} : ∀ (l : List α) (m : List β), zipL (l.map f) (m.map h) = (l.zip m).map fun p => .tuple [f p.1, h p.2]
  | [], _ => by simp [zipL]
  | _ :: _, [] => by simp [zipL]
  | x :: xs, y :: ys => by simp [zipL, zipL_map xs ys]
theorem pairL_map {α : Type} {f : α → D} : ∀ (l : List α) (i : Nat), pairL i (l.map f) = (l.zipIdx i).map fun p => .tuple [.int (p.2 : Nat), f p.1]
  | [], _ => by simp [pairL]
  | x :: xs, i => by simp [pairL, pairL_map xs (i + 1)]
theorem eqvAll_map {α : Type} [DecidableEq α] {f : α → D} (h : ∀ x y, PyData.eqv (f x) (f y) = decide (x = y)) : ∀ (l m : List α), PyData.eqvAll (l.map f) (m.map f) = decide (l = m)
  | [], [] => by simp [PyData.eqvAll]
  | [], _ :: _ => by simp [PyData.eqvAll]
  | _ :: _, [] => by simp [PyData.eqvAll]
  | x :: xs, y :: ys => by simp [PyData.eqvAll, h, eqvAll_map h xs ys]
theorem eqv_tup {xs ys : List D} : PyData.eqv (.tuple xs) (.tuple ys) = PyData.eqvAll xs ys := rfl
theorem eqv_lst {xs ys : List D} : PyData.eqv (.list xs) (.list ys) = PyData.eqvAll xs ys := rfl
theorem eqv_int {i j : Int} : PyData.eqv (.int i) (.int j) = decide (i = j) := rfl
theorem eqv_str {i j : Str} : PyData.eqv (.str i) (.str j) = decide (i = j) := rfl
theorem shaped_of {d : D} (h : d.canLay0 = true) (h2 : d.depth ≤ 64) : SeqAt.shaped d = true := by
  unfold SeqAt.shaped
  simp [h, h2]

/-! ### isinstance -/
theorem isiD_of {d : D} {n T : String} {b : Bool} (h : tyD d = some n) (k : kitB n T = some b) : isiD T d = some (.bool b) := by
  unfold isiD
  rw [h]
  show (kitB n T).map _ = _
  rw [k]
  rfl
theorem isi_ii {i : Int} : isiD "int" (.int i) = some (.bool true) := isiD_of rfl (by decide +kernel)
theorem isi_ib {i : Int} : isiD "bool" (.int i) = some (.bool false) := isiD_of rfl (by decide +kernel)
theorem isi_is {i : Int} : isiD "str" (.int i) = some (.bool false) := isiD_of rfl (by decide +kernel)
theorem isi_it {i : Int} : isiD "tuple" (.int i) = some (.bool false) := isiD_of rfl (by decide +kernel)
theorem isi_tt {i : List D} : isiD "tuple" (.tuple i) = some (.bool true) := isiD_of rfl (by decide +kernel)
theorem isi_ti {i : List D} : isiD "int" (.tuple i) = some (.bool false) := isiD_of rfl (by decide +kernel)
theorem isi_ts {i : List D} : isiD "str" (.tuple i) = some (.bool false) := isiD_of rfl (by decide +kernel)
theorem isi_ss {i : Str} : isiD "str" (.str i) = some (.bool true) := isiD_of rfl (by decide +kernel)
theorem isi_si {i : Str} : isiD "int" (.str i) = some (.bool false) := isiD_of rfl (by decide +kernel)
theorem isi_st {i : Str} : isiD "tuple" (.str i) = some (.bool false) := isiD_of rfl (by decide +kernel)

/-! ### comparisons of ints, of texts -/
theorem shaped_int (i : Int) : SeqAt.shaped (.int i) = true := by
  unfold SeqAt.shaped
  simp [PyData.canLay0, PyData.depth]
theorem eqD_ii (i j : Int) : eqD (.int i) (.int j) = some (.bool (decide (i = j))) := by
  have e : PyData.eqv (.int i) (.int j) = decide (i = j) := by
    show (i == j) = decide (i = j)
    rfl
  unfold eqD
  simp only [shaped_int, e, and_self, if_true]
theorem neD_ii (i j : Int) : neD (.int i) (.int j) = some (.bool (!decide (i = j))) := by
  have e : PyData.eqv (.int i) (.int j) = decide (i = j) := by
    show (i == j) = decide (i = j)
    rfl
  unfold neD
  simp only [shaped_int, e, and_self, if_true]
theorem eqD_ss (i j : Str) : eqD (.str i) (.str j) = some (.bool (decide (i = j))) := rfl
theorem neD_ss (i j : Str) : neD (.str i) (.str j) = some (.bool (!decide (i = j))) := rfl
theorem eqD_t {i j : Int} (h : i = j) : eqD (.int i) (.int j) = some (.bool true) := by rw [eqD_ii, decide_eq_true h]
theorem eqD_f {i j : Int} (h : ¬ i = j) : eqD (.int i) (.int j) = some (.bool false) := by rw [eqD_ii, decide_eq_false h]
theorem neD_t {i j : Int} (h : ¬ i = j) : neD (.int i) (.int j) = some (.bool true) := by rw [neD_ii, decide_eq_false h]; rfl
theorem neD_f {i j : Int} (h : i = j) : neD (.int i) (.int j) = some (.bool false) := by rw [neD_ii, decide_eq_true h]; rfl
theorem eqD_sh {d e : D} {b : Bool} (h1 : SeqAt.shaped d = true) (h2 : SeqAt.shaped e = true) (hb : PyData.eqv d e = b) (hn : isDisplay d = true) : eqD d e = some (.bool b) := by
  unfold eqD
  cases d <;> first | (cases hn; done) | (simp only [h1, h2, hb, and_self, if_true])
theorem neD_sh {d e : D} {b : Bool} (h1 : SeqAt.shaped d = true) (h2 : SeqAt.shaped e = true) (hb : PyData.eqv d e = b) (hn : isDisplay d = true) : neD d e = some (.bool (!b)) := by
  unfold neD
  cases d <;> first | (cases hn; done) | (simp only [h1, h2, hb, and_self, if_true])

/-! ### repr -/
mutual
/-- no longer than this -/
def lnD : D → Nat
  | .none => 4
  | .bool _ => 5
  | .int _ => 600
  | .str x => 10 * x.length + 2
  | .list xs => lnAll xs + 3
  | .tuple xs => lnAll xs + 3
  | .dict _ => 0
def lnAll : List D → Nat
  | [] => 0
  | x :: xs => lnD x + 2 + lnAll xs
end
mutual
/-- data whose repr is told -/
def rpD : D → Bool
  | .none | .bool _ => true
  | .int i => decide (i.natAbs < 2 ^ 1900)
  | .str x => x.cps.toList.all fun c => decide (c < 16 ^ 8)
  | .list xs => rpAll xs
  | .tuple xs => rpAll xs
  | .dict _ => false
def rpAll : List D → Bool
  | [] => true
  | x :: xs => rpD x && rpAll xs
end
theorem pow_le_600 : (2 : Nat) ^ 1900 ≤ 10 ^ 599 := by decide +kernel
mutual
theorem shown_ln : ∀ d : D, rpD d = true → d.shown.length ≤ lnD d
  | .none, _ => by
    have e : (PyData.shown .none).length = 4 := rfl
    simp only [lnD]; omega
  | .bool b, _ => by
    have e : (PyData.shown (.bool b)).length ≤ 5 := by cases b <;> decide
    simp only [lnD]; omega
  | .int i, h => by
    have hi : i.natAbs < 2 ^ 1900 := by simpa only [rpD, decide_eq_true_eq] using h
    have e := int_text_length_le10 (a := i) (k := 599) (by decide) (Nat.lt_of_lt_of_le hi pow_le_600)
    simp only [lnD]
    show (Str.ofString (toString i)).length ≤ 600
    rw [PySem.ofString_length]; exact e
  | .str x, h => by
    have hx : ∀ c ∈ x.cps.toList, c < 16 ^ 8 := by simpa only [rpD, List.all_eq_true, decide_eq_true_eq] using h
    have e := StrLaws.reprText_len x hx
    simp only [lnD, PyData.shown]; exact e
  | .list xs, h => by
    have h1 := shown_lnAll xs (by simpa only [rpD] using h)
    have h2 := listText_len_le (PyData.shownAll xs)
    have h3 := PyData.shownAll_length xs
    simp only [PyData.shown, lnD]
    omega
  | .tuple xs, h => by
    have h1 := shown_lnAll xs (by simpa only [rpD] using h)
    have h2 := tupleText_len_le (PyData.shownAll xs)
    have h3 := PyData.shownAll_length xs
    simp only [PyData.shown, lnD]
    omega
  | .dict _, h => by simp [rpD] at h
theorem shown_lnAll : ∀ xs : List D, rpAll xs = true → ((PyData.shownAll xs).map (·.length)).sum + 2 * xs.length ≤ lnAll xs
  | [], _ => by simp [PyData.shownAll, lnAll]
  | x :: xs, h => by
    have h' : rpD x = true ∧ rpAll xs = true := by simpa only [rpAll, Bool.and_eq_true] using h
    have h1 := shown_ln x h'.1
    have h2 := shown_lnAll xs h'.2
    simp only [PyData.shownAll, lnAll, List.map_cons, List.sum_cons, List.length_cons]
    omega
end
mutual
theorem show_rp : ∀ d : D, rpD d = true → d.showable = true ∧ d.hasDict = false
  | .none, _ => ⟨rfl, rfl⟩
  | .bool _, _ => ⟨rfl, rfl⟩
  | .int i, h => by
    have hi : i.natAbs < 2 ^ 1900 := by simpa only [rpD, decide_eq_true_eq] using h
    refine ⟨?_, rfl⟩
    have := log_lt (by decide) hi
    simp only [PyData.showable, decide_eq_true_eq]
    omega
  | .str x, _ => ⟨rfl, rfl⟩
  | .list xs, h => by
    have := show_rpAll xs (by simpa only [rpD] using h)
    simpa only [PyData.showable, PyData.hasDict] using this
  | .tuple xs, h => by
    have := show_rpAll xs (by simpa only [rpD] using h)
    simpa only [PyData.showable, PyData.hasDict] using this
  | .dict _, h => by simp [rpD] at h
theorem show_rpAll : ∀ xs : List D, rpAll xs = true → PyData.showableAll xs = true ∧ PyData.hasDictAll xs = false
  | [], _ => ⟨rfl, rfl⟩
  | x :: xs, h => by
    have h' : rpD x = true ∧ rpAll xs = true := by simpa only [rpAll, Bool.and_eq_true] using h
    have h1 := show_rp x h'.1
    have h2 := show_rpAll xs h'.2
    simp [PyData.showableAll, PyData.hasDictAll, h1, h2]
end
theorem reprD_of {d : D} (h : rpD d = true) (hd : d.depth ≤ 60) (hi : isDisplay d = true) (hl : lnD d ≤ 16000000) : reprD d = some (.str d.shown) := by
  obtain ⟨h1, h2⟩ := show_rp d h
  have h3 := shown_ln d h
  unfold reprD
  rw [if_pos ⟨h1, h2, hd, hi, by rw [sizeLine_eq]; omega⟩]
theorem rpAll_of {xs : List D} (h : ∀ d ∈ xs, rpD d = true) : rpAll xs = true := by
  induction xs with
  | nil => rfl
  | cons x r ih =>
    simp only [rpAll, Bool.and_eq_true]
    exact ⟨h x (List.mem_cons_self ..), ih fun d hd => h d (List.mem_cons_of_mem _ hd)⟩
theorem lnAll_of {xs : List D} {n : Nat} (h : ∀ d ∈ xs, lnD d ≤ n) : lnAll xs ≤ (n + 2) * xs.length := by
  induction xs with
  | nil => simp [lnAll]
  | cons x r ih =>
    have := ih fun d hd => h d (List.mem_cons_of_mem _ hd)
    have := h x (List.mem_cons_self ..)
    simp only [lnAll, List.length_cons, Nat.mul_add]
    omega
theorem depthAll_of {xs : List D} {n : Nat} (h : ∀ d ∈ xs, d.depth ≤ n) : PyData.depthAll xs ≤ n := by
  induction xs with
  | nil => simp [PyData.depthAll]
  | cons x r ih =>
    have := ih fun d hd => h d (List.mem_cons_of_mem _ hd)
    have := h x (List.mem_cons_self ..)
    simp only [PyData.depthAll]
    omega
theorem canLayAll_of {xs : List D} (h : ∀ d ∈ xs, d.canLay0 = true) : PyData.canLayAll0 xs = true := by
  induction xs with
  | nil => rfl
  | cons x r ih =>
    simp only [PyData.canLayAll0, Bool.and_eq_true]
    exact ⟨h x (List.mem_cons_self ..), ih fun d hd => h d (List.mem_cons_of_mem _ hd)⟩
end Dl
set_option Elab.async false
set_option linter.all false
set_option maxRecDepth 100000
namespace K85
open PySem PySem.Spec PyProof.Rows L2 Dl
def topS (i : Nat) : Stmt := PySem.Challenge.pw_makeprice_k85_whole_levels_or_years_that.main.body.getD i (.Pass ⟨0, 0, 0, 0⟩)
abbrev s_is_integer : Stmt := topS 7
theorem sc_is_integer : FnScope ["thing"] ["thing"] (defScope s_is_integer) := ⟨rfl, rfl, rfl, by decide +kernel, rfl, by decide +kernel, by decide +kernel⟩
abbrev s_is_sized : Stmt := topS 9
theorem sc_is_sized : FnScope ["thing", "low", "high"] ["thing", "low", "high"] (defScope s_is_sized) := ⟨rfl, rfl, rfl, by decide +kernel, rfl, by decide +kernel, by decide +kernel⟩
abbrev s_common : Stmt := topS 10
theorem sc_common : FnScope ["one", "other"] ["one", "other"] (defScope s_common) := ⟨rfl, rfl, rfl, by decide +kernel, rfl, by decide +kernel, by decide +kernel⟩
abbrev s__law_hand : Stmt := topS 32
theorem sc__law_hand : FnScope ["script", "cells", "cell"] ["script"] (defScope s__law_hand) := ⟨rfl, rfl, rfl, by decide +kernel, rfl, by decide +kernel, by decide +kernel⟩
abbrev s__law_draw : Stmt := topS 33
theorem sc__law_draw : FnScope ["hand", "many", "cell", "digit", "number"] ["hand", "many"] (defScope s__law_draw) := ⟨rfl, rfl, rfl, by decide +kernel, rfl, by decide +kernel, by decide +kernel⟩
abbrev s__law_low : Stmt := topS 35
theorem sc__law_low : FnScope ["top", "bottom", "one", "other"] ["top", "bottom"] (defScope s__law_low) := ⟨rfl, rfl, rfl, by decide +kernel, rfl, by decide +kernel, by decide +kernel⟩
abbrev s_is_within : Stmt := topS 8
theorem sc_is_within : FnScope ["thing", "low", "high"] ["thing", "low", "high"] (defScope s_is_within) := ⟨rfl, rfl, rfl, by decide +kernel, rfl, by decide +kernel, by decide +kernel⟩
abbrev s_share : Stmt := topS 11
theorem sc_share : FnScope ["top", "bottom", "part"] ["top", "bottom"] (defScope s_share) := ⟨rfl, rfl, rfl, by decide +kernel, rfl, by decide +kernel, by decide +kernel⟩
abbrev s_is_share : Stmt := topS 12
theorem sc_is_share : FnScope ["thing"] ["thing"] (defScope s_is_share) := ⟨rfl, rfl, rfl, by decide +kernel, rfl, by decide +kernel, by decide +kernel⟩
abbrev s__law_any : Stmt := topS 34
theorem sc__law_any : FnScope ["hand", "some"] ["hand", "some"] (defScope s__law_any) := ⟨rfl, rfl, rfl, by decide +kernel, rfl, by decide +kernel, by decide +kernel⟩
abbrev s__law_add : Stmt := topS 36
theorem sc__law_add : FnScope ["one", "other"] ["one", "other"] (defScope s__law_add) := ⟨rfl, rfl, rfl, by decide +kernel, rfl, by decide +kernel, by decide +kernel⟩
abbrev s__law_mul : Stmt := topS 37
theorem sc__law_mul : FnScope ["one", "other"] ["one", "other"] (defScope s__law_mul) := ⟨rfl, rfl, rfl, by decide +kernel, rfl, by decide +kernel, by decide +kernel⟩
abbrev s__law_over : Stmt := topS 38
theorem sc__law_over : FnScope ["one", "other"] ["one", "other"] (defScope s__law_over) := ⟨rfl, rfl, rfl, by decide +kernel, rfl, by decide +kernel, by decide +kernel⟩
abbrev s_plus : Stmt := topS 13
theorem sc_plus : FnScope ["one", "other"] ["one", "other"] (defScope s_plus) := ⟨rfl, rfl, rfl, by decide +kernel, rfl, by decide +kernel, by decide +kernel⟩
abbrev s_times : Stmt := topS 14
theorem sc_times : FnScope ["one", "other"] ["one", "other"] (defScope s_times) := ⟨rfl, rfl, rfl, by decide +kernel, rfl, by decide +kernel, by decide +kernel⟩
abbrev s_over : Stmt := topS 15
theorem sc_over : FnScope ["one", "other"] ["one", "other"] (defScope s_over) := ⟨rfl, rfl, rfl, by decide +kernel, rfl, by decide +kernel, by decide +kernel⟩
abbrev s_is_positive : Stmt := topS 26
theorem sc_is_positive : FnScope ["thing"] ["thing"] (defScope s_is_positive) := ⟨rfl, rfl, rfl, by decide +kernel, rfl, by decide +kernel, by decide +kernel⟩
abbrev s__law_sum : Stmt := topS 39
theorem sc__law_sum : FnScope ["some", "found", "one"] ["some"] (defScope s__law_sum) := ⟨rfl, rfl, rfl, by decide +kernel, rfl, by decide +kernel, by decide +kernel⟩
abbrev s__law_positive : Stmt := topS 41
theorem sc__law_positive : FnScope ["hand", "bottom"] ["hand"] (defScope s__law_positive) := ⟨rfl, rfl, rfl, by decide +kernel, rfl, by decide +kernel, by decide +kernel⟩
abbrev s__law_due : Stmt := topS 42
theorem sc__law_due : FnScope ["table", "many", "i", "j", "k"] ["table"] (defScope s__law_due) := ⟨rfl, rfl, rfl, by decide +kernel, rfl, by decide +kernel, by decide +kernel⟩
abbrev s__law_of : Stmt := topS 43
theorem sc__law_of : FnScope ["heights", "one", "other"] ["heights"] (defScope s__law_of) := ⟨rfl, rfl, rfl, by decide +kernel, rfl, by decide +kernel, by decide +kernel⟩
abbrev s_summed : Stmt := topS 16
theorem sc_summed : FnScope ["many", "found", "one"] ["many"] (defScope s_summed) := ⟨rfl, rfl, rfl, by decide +kernel, rfl, by decide +kernel, by decide +kernel⟩
abbrev s_is_grid : Stmt := topS 27
theorem sc_is_grid : FnScope ["thing", "many", "part"] ["thing", "many"] (defScope s_is_grid) := ⟨rfl, rfl, rfl, by decide +kernel, rfl, by decide +kernel, by decide +kernel⟩
abbrev s__law_dot : Stmt := topS 40
theorem sc__law_dot : FnScope ["row", "other", "one", "two"] ["row", "other"] (defScope s__law_dot) := ⟨rfl, rfl, rfl, by decide +kernel, rfl, by decide +kernel, by decide +kernel⟩
abbrev s__law_spoiled : Stmt := topS 45
theorem sc__law_spoiled : FnScope ["hand", "table", "i", "j", "one", "row"] ["hand", "table"] (defScope s__law_spoiled) := ⟨rfl, rfl, rfl, by decide +kernel, rfl, by decide +kernel, by decide +kernel⟩
abbrev s_dot : Stmt := topS 18
theorem sc_dot : FnScope ["one", "other", "first", "second"] ["one", "other"] (defScope s_dot) := ⟨rfl, rfl, rfl, by decide +kernel, rfl, by decide +kernel, by decide +kernel⟩
abbrev s_levels : Stmt := topS 28
theorem sc_levels : FnScope ["table", "many", "one", "other", "third", "line"] ["table"] (defScope s_levels) := ⟨rfl, rfl, rfl, by decide +kernel, rfl, by decide +kernel, by decide +kernel⟩
abbrev s_is_rows : Stmt := topS 29
theorem sc_is_rows : FnScope ["thing", "line"] ["thing"] (defScope s_is_rows) := ⟨rfl, rfl, rfl, by decide +kernel, rfl, by decide +kernel, by decide +kernel⟩
abbrev s__law_table : Stmt := topS 46
theorem sc__law_table : FnScope ["prices", "baskets", "kind", "found", "i", "row", "j", "basket"] ["prices", "baskets", "kind"] (defScope s__law_table) := ⟨rfl, rfl, rfl, by decide +kernel, rfl, by decide +kernel, by decide +kernel⟩
abbrev s_basket_table : Stmt := topS 30
theorem sc_basket_table : FnScope ["prices", "baskets", "kind", "found", "one", "first", "row", "other", "second", "basket"] ["prices", "baskets", "kind"] (defScope s_basket_table) := ⟨rfl, rfl, rfl, by decide +kernel, rfl, by decide +kernel, by decide +kernel⟩
abbrev s__law_is_told : Stmt := topS 44
theorem sc__law_is_told : FnScope ["table", "found", "due"] ["table"] (defScope s__law_is_told) := ⟨rfl, rfl, rfl, by decide +kernel, rfl, by decide +kernel, by decide +kernel⟩
abbrev s__law_is_basket_right : Stmt := topS 47
theorem sc__law_is_basket_right : FnScope ["hand", "many", "goods", "prices", "baskets", "year", "told", "kind", "costs", "back", "row", "i", "good", "one", "j"] ["hand"] (defScope s__law_is_basket_right) := ⟨rfl, rfl, rfl, by decide +kernel, rfl, by decide +kernel, by decide +kernel⟩
abbrev s_law : Stmt := topS 48
theorem sc_law : FnScope ["script", "hand", "turn", "many", "heights", "table", "again", "drawn", "i", "year", "j"] ["script"] (defScope s_law) := ⟨rfl, rfl, rfl, by decide +kernel, rfl, by decide +kernel, by decide +kernel⟩
def k_LEVELS : D := .str (Str.ofString "levels")
def k_MOST_GOODS : D := .int 6
def k_MOST_TABLE : D := .int 12
def k_NEW : D := .str (Str.ofString "new")
def k_OLD : D := .str (Str.ofString "old")
def k_TURN : D := .str (Str.ofString "turn")
def k_ZERO : D := .tuple [.int 0, .int 1]
/-- what the top has left -/
structure Txt (K : PySem.W.Frag) (mg : Str → Option Value) : Type where
  f_is_integer : Df K mg "is_integer" s_is_integer ["thing"]
  f_is_sized : Df K mg "is_sized" s_is_sized ["thing", "low", "high"]
  f_common : Df K mg "common" s_common ["one", "other"]
  f__law_hand : Df K mg "_law_hand" s__law_hand ["script"]
  f__law_draw : Df K mg "_law_draw" s__law_draw ["hand", "many"]
  f__law_low : Df K mg "_law_low" s__law_low ["top", "bottom"]
  f_is_within : Df K mg "is_within" s_is_within ["thing", "low", "high"]
  f_share : Df K mg "share" s_share ["top", "bottom"]
  f_is_share : Df K mg "is_share" s_is_share ["thing"]
  f__law_any : Df K mg "_law_any" s__law_any ["hand", "some"]
  f__law_add : Df K mg "_law_add" s__law_add ["one", "other"]
  f__law_mul : Df K mg "_law_mul" s__law_mul ["one", "other"]
  f__law_over : Df K mg "_law_over" s__law_over ["one", "other"]
  f_plus : Df K mg "plus" s_plus ["one", "other"]
  f_times : Df K mg "times" s_times ["one", "other"]
  f_over : Df K mg "over" s_over ["one", "other"]
  f_is_positive : Df K mg "is_positive" s_is_positive ["thing"]
  f__law_sum : Df K mg "_law_sum" s__law_sum ["some"]
  f__law_positive : Df K mg "_law_positive" s__law_positive ["hand"]
  f__law_due : Df K mg "_law_due" s__law_due ["table"]
  f__law_of : Df K mg "_law_of" s__law_of ["heights"]
  f_summed : Df K mg "summed" s_summed ["many"]
  f_is_grid : Df K mg "is_grid" s_is_grid ["thing", "many"]
  f__law_dot : Df K mg "_law_dot" s__law_dot ["row", "other"]
  f__law_spoiled : Df K mg "_law_spoiled" s__law_spoiled ["hand", "table"]
  f_dot : Df K mg "dot" s_dot ["one", "other"]
  f_levels : Df K mg "levels" s_levels ["table"]
  f_is_rows : Df K mg "is_rows" s_is_rows ["thing"]
  f__law_table : Df K mg "_law_table" s__law_table ["prices", "baskets", "kind"]
  f_basket_table : Df K mg "basket_table" s_basket_table ["prices", "baskets", "kind"]
  f__law_is_told : Df K mg "_law_is_told" s__law_is_told ["table"]
  f__law_is_basket_right : Df K mg "_law_is_basket_right" s__law_is_basket_right ["hand"]
  f_law : Df K mg "law" s_law ["script"]
  n_abs : mg "abs" = none
  n_all : mg "all" = none
  n_bool : mg "bool" = none
  n_enumerate : mg "enumerate" = none
  n_int : mg "int" = none
  n_isinstance : mg "isinstance" = none
  n_len : mg "len" = none
  n_range : mg "range" = none
  n_repr : mg "repr" = none
  n_str : mg "str" = none
  n_tuple : mg "tuple" = none
  n_zip : mg "zip" = none
  u_LEVELS : Value
  v_LEVELS : V
  c_LEVELS : mg "LEVELS" = some u_LEVELS ∧ RelV v_LEVELS u_LEVELS ∧ ∀ F, Dp K F v_LEVELS k_LEVELS
  u_MOST_GOODS : Value
  v_MOST_GOODS : V
  c_MOST_GOODS : mg "MOST_GOODS" = some u_MOST_GOODS ∧ RelV v_MOST_GOODS u_MOST_GOODS ∧ ∀ F, Dp K F v_MOST_GOODS k_MOST_GOODS
  u_MOST_TABLE : Value
  v_MOST_TABLE : V
  c_MOST_TABLE : mg "MOST_TABLE" = some u_MOST_TABLE ∧ RelV v_MOST_TABLE u_MOST_TABLE ∧ ∀ F, Dp K F v_MOST_TABLE k_MOST_TABLE
  u_NEW : Value
  v_NEW : V
  c_NEW : mg "NEW" = some u_NEW ∧ RelV v_NEW u_NEW ∧ ∀ F, Dp K F v_NEW k_NEW
  u_OLD : Value
  v_OLD : V
  c_OLD : mg "OLD" = some u_OLD ∧ RelV v_OLD u_OLD ∧ ∀ F, Dp K F v_OLD k_OLD
  u_TURN : Value
  v_TURN : V
  c_TURN : mg "TURN" = some u_TURN ∧ RelV v_TURN u_TURN ∧ ∀ F, Dp K F v_TURN k_TURN
  u_ZERO : Value
  v_ZERO : V
  c_ZERO : mg "ZERO" = some u_ZERO ∧ RelV v_ZERO u_ZERO ∧ ∀ F, Dp K F v_ZERO k_ZERO
end K85
set_option Elab.async false
set_option linter.all false
set_option maxRecDepth 100000
namespace K85
open PySem PySem.Spec PyProof.Rows L2 Dl
noncomputable def b_is_integer : Fs := (sRet (vE (eAnd (eUn (isiD "int") (eVar 0)) (eUn notD (eUn (isiD "bool") (eVar 0))))))
noncomputable def m_is_integer : List D → Option Sl := fnP b_is_integer 1
noncomputable def b_is_sized : Fs := (sRet (vE (eAnd (eUn (isiD "tuple") (eVar 0)) (eChain leD leD (eVar 1) (eUn lenD (bVar 0)) (eVar 2)))))
noncomputable def m_is_sized : List D → Option Sl := fnP b_is_sized 3
noncomputable def b_common : Fs := (sSeq (sWhile (tOf (eBin neD (eVar 1) (eC (.int 0)))) (sPar 0 1 (vE (eVar 1)) (vE (eBin modD (eVar 0) (eVar 1)))))
    (sRet (vE (eUn absD (bVar 0)))))
noncomputable def m_common : List D → Option Sl := fnP b_common 2
noncomputable def b__law_hand : Fs := (sSeq (sSet 1 (vLc (iSeq (eSlU (eVar 0) oNone (oSome (eC (.int 63))))) (gVar 2) cYes (eUn absD (eUn intD (bVar 2))) [2]))
    (sRet (vLst (aCons (eVar 1) (aCons (eC (.int 0)) (aCons (eC (.int 0)) (aCons (eBin addA (eC (.int 83)) (eBin mulD (eC (.int 5)) (eUn lenD (bVar 1)))) (aCons (eC (.int 0)) aNil))))))))
noncomputable def m__law_hand : List D → Option Sl := fnP b__law_hand 3
noncomputable def b__law_draw : Fs := (sSeq (sIf (tAndT (tOf (eBin eqD (eIxV 0 (eC (.int 2))) (eC (.int 0)))) (tOf (eBin ltD (eIxV 0 (eC (.int 1))) (eUn lenD (eIxV 0 (eC (.int 0))))))) (sSeq (sSet 2 (vE (eBin atD (eIxV 0 (eC (.int 0))) (eIxV 0 (eC (.int 1))))))
    (sSeq (sPut 0 (eC (.int 1)) (vE (eBin addA (eIxV 0 (eC (.int 1))) (eC (.int 1)))))
    (sSeq (sPut 0 (eC (.int 3)) (vE (eBin modD (eUn intD (eBin addA (eBin addA (eBin mulD (eIxV 0 (eC (.int 3))) (eC (.int 69621))) (eBin mulD (eVar 2) (eC (.int 40692)))) (eC (.int 17)))) (eC (.int 2147483629)))))
    (sIf (tOf (eBin geD (eVar 2) (eBin powD (eC (.int 10)) (eC (.int 18))))) (sPut 0 (eC (.int 2)) (vE (eVar 2))) sNil)))) sNil)
    (sSeq (sIf (tOf (eBin gtD (eIxV 0 (eC (.int 2))) (eC (.int 0)))) (sSeq (sSet 3 (vE (eBin modD (eUn intD (eIxV 0 (eC (.int 2)))) (eVar 1))))
    (sSeq (sPut 0 (eC (.int 2)) (vE (eBin fdivD (eIxV 0 (eC (.int 2))) (eVar 1))))
    (sRetV 3))) sNil)
    (sSeq (sPut 0 (eC (.int 4)) (vE (eBin addA (eIxV 0 (eC (.int 4))) (eC (.int 1)))))
    (sSeq (sSet 4 (vE (eBin modD (eUn intD (eBin mulD (eUn intD (eBin addA (eIxV 0 (eC (.int 3))) (eBin mulD (eC (.int 7919)) (eIxV 0 (eC (.int 4)))))) (eC (.int 48271)))) (eC (.int 2147483647)))))
    (sSeq (sSet 4 (vE (eBin modD (eUn intD (eBin mulD (eVar 4) (eBin addA (eBin fdivD (eVar 4) (eC (.int 1009))) (eC (.int 69621))))) (eC (.int 2147483647)))))
    (sSeq (sSet 4 (vE (eBin modD (eUn intD (eBin mulD (eVar 4) (eBin addA (eBin fdivD (eVar 4) (eC (.int 2003))) (eC (.int 40014))))) (eC (.int 2147483563)))))
    (sRet (vE (eBin modD (eUn intD (eBin fdivD (eVar 4) (eC (.int 16)))) (eVar 1))))))))))
noncomputable def m__law_draw : List D → List D → Option (Sl × List D) := fnI b__law_draw 5
noncomputable def b__law_low : Fs := (sSeq (sPar 2 3 (vE (eUn absD (bVar 0))) (vE (eUn absD (bVar 1))))
    (sSeq (sWhile (tOf (eBin neD (eVar 3) (eC (.int 0)))) (sPar 2 3 (vE (eVar 3)) (vE (eBin modD (eUn intD (bVar 2)) (eVar 3)))))
    (sRet (vE (eIf (tOf (eBin gtD (eVar 1) (eC (.int 0)))) (eTup (aCons (eBin fdivD (eVar 0) (eVar 2)) (aCons (eBin fdivD (eVar 1) (eVar 2)) aNil))) (eTup (aCons (eBin subD (eC (.int 0)) (eBin fdivD (eVar 0) (eVar 2))) (aCons (eBin subD (eC (.int 0)) (eBin fdivD (eVar 1) (eVar 2))) aNil))))))))
noncomputable def m__law_low : List D → Option Sl := fnP b__law_low 4
noncomputable def b_is_within : Fs := (sRet (vE (eAnd (eV (eCall m_is_integer (aCons (eVar 0) aNil))) (eChain leD leD (eVar 1) (eVar 0) (eVar 2)))))
noncomputable def m_is_within : List D → Option Sl := fnP b_is_within 3
noncomputable def b_share : Fs := (sSeq (sSet 2 (eCall m_common (aCons (eVar 0) (aCons (eVar 1) aNil))))
    (sSeq (sIf (tOf (eBin ltD (eVar 1) (eC (.int 0)))) (sSet 2 (vE (eUn negD (eVar 2)))) sNil)
    (sRet (vE (eTup (aCons (eBin fdivD (eVar 0) (eVar 2)) (aCons (eBin fdivD (eVar 1) (eVar 2)) aNil)))))))
noncomputable def m_share : List D → Option Sl := fnP b_share 3
noncomputable def b_is_share : Fs := (sSeq (sIf (tOrT (tNotT (tOf (eV (eCall m_is_sized (aCons (eVar 0) (aCons (eC (.int 2)) (aCons (eC (.int 2)) aNil))))))) (tOrT (tNotT (tOf (eV (eCall m_is_integer (aCons (eIxV 0 (eC (.int 0))) aNil))))) (tNotT (tOf (eV (eCall m_is_integer (aCons (eIxV 0 (eC (.int 1))) aNil))))))) (sRet (vE (eC (.bool false)))) sNil)
    (sRet (vE (eAnd (eBin gtD (eIxV 0 (eC (.int 1))) (eC (.int 0))) (eBin eqD (eV (eCall m_common (aCons (eIxV 0 (eC (.int 0))) (aCons (eIxV 0 (eC (.int 1))) aNil)))) (eC (.int 1)))))))
noncomputable def m_is_share : List D → Option Sl := fnP b_is_share 1
noncomputable def b__law_any : Fs := (sRet (vE (eIxV 1 (eV (eCallI m__law_draw 0 (aCons (eUn lenD (bVar 1)) aNil))))))
noncomputable def m__law_any : List D → List D → Option (Sl × List D) := fnI b__law_any 2
noncomputable def b__law_add : Fs := (sRet (eCall m__law_low (aCons (eBin addA (eBin mulD (eIxV 0 (eC (.int 0))) (eIxV 1 (eC (.int 1)))) (eBin mulD (eIxV 1 (eC (.int 0))) (eIxV 0 (eC (.int 1))))) (aCons (eBin mulD (eIxV 0 (eC (.int 1))) (eIxV 1 (eC (.int 1)))) aNil))))
noncomputable def m__law_add : List D → Option Sl := fnP b__law_add 2
noncomputable def b__law_mul : Fs := (sRet (eCall m__law_low (aCons (eBin mulD (eIxV 0 (eC (.int 0))) (eIxV 1 (eC (.int 0)))) (aCons (eBin mulD (eIxV 0 (eC (.int 1))) (eIxV 1 (eC (.int 1)))) aNil))))
noncomputable def m__law_mul : List D → Option Sl := fnP b__law_mul 2
noncomputable def b__law_over : Fs := (sRet (eCall m__law_low (aCons (eBin mulD (eIxV 0 (eC (.int 0))) (eIxV 1 (eC (.int 1)))) (aCons (eBin mulD (eIxV 0 (eC (.int 1))) (eIxV 1 (eC (.int 0)))) aNil))))
noncomputable def m__law_over : List D → Option Sl := fnP b__law_over 2
noncomputable def b_plus : Fs := (sSeq (sIf (tOf (eBin eqD (eIxV 0 (eC (.int 1))) (eIxV 1 (eC (.int 1))))) (sRet (eCall m_share (aCons (eBin addA (eIxV 0 (eC (.int 0))) (eIxV 1 (eC (.int 0)))) (aCons (eIxV 0 (eC (.int 1))) aNil)))) sNil)
    (sRet (eCall m_share (aCons (eBin addA (eBin mulD (eIxV 0 (eC (.int 0))) (eIxV 1 (eC (.int 1)))) (eBin mulD (eIxV 1 (eC (.int 0))) (eIxV 0 (eC (.int 1))))) (aCons (eBin mulD (eIxV 0 (eC (.int 1))) (eIxV 1 (eC (.int 1)))) aNil)))))
noncomputable def m_plus : List D → Option Sl := fnP b_plus 2
noncomputable def b_times : Fs := (sRet (eCall m_share (aCons (eBin mulD (eIxV 0 (eC (.int 0))) (eIxV 1 (eC (.int 0)))) (aCons (eBin mulD (eIxV 0 (eC (.int 1))) (eIxV 1 (eC (.int 1)))) aNil))))
noncomputable def m_times : List D → Option Sl := fnP b_times 2
noncomputable def b_over : Fs := (sRet (eCall m_share (aCons (eBin mulD (eIxV 0 (eC (.int 0))) (eIxV 1 (eC (.int 1)))) (aCons (eBin mulD (eIxV 0 (eC (.int 1))) (eIxV 1 (eC (.int 0)))) aNil))))
noncomputable def m_over : List D → Option Sl := fnP b_over 2
noncomputable def b_is_positive : Fs := (sRet (vE (eAnd (eV (eCall m_is_share (aCons (eVar 0) aNil))) (eBin gtD (eIxV 0 (eC (.int 0))) (eC (.int 0))))))
noncomputable def m_is_positive : List D → Option Sl := fnP b_is_positive 1
noncomputable def b__law_sum : Fs := (sSeq (sSet 1 (vE (eTup (aCons (eC (.int 0)) (aCons (eC (.int 1)) aNil)))))
    (sSeq (sFor (iSeq (eVar 0)) (gVar 2) (sSet 1 (eCall m__law_add (aCons (eVar 1) (aCons (eVar 2) aNil)))))
    (sRetV 1)))
noncomputable def m__law_sum : List D → Option Sl := fnP b__law_sum 3
noncomputable def b__law_positive : Fs := (sSeq (sSet 1 (vE (eBin addA (eC (.int 1)) (eV (eCallI m__law_any 0 (aCons (eV (vLst (aCons (eC (.int 0)) (aCons (eC (.int 0)) (aCons (eC (.int 1)) (aCons (eC (.int 2)) (aCons (eC (.int 9)) (aCons (eV (eCallI m__law_draw 0 (aCons (eC (.int 50)) aNil))) aNil)))))))) aNil))))))
    (sRet (eCall m__law_low (aCons (eBin addA (eC (.int 1)) (eV (eCallI m__law_draw 0 (aCons (eBin mulD (eC (.int 3)) (eVar 1)) aNil)))) (aCons (eVar 1) aNil)))))
noncomputable def m__law_positive : List D → List D → Option (Sl × List D) := fnI b__law_positive 2
noncomputable def b__law_due : Fs := (sSeq (sSet 1 (vE (eUn lenD (bVar 0))))
    (sSeq (sFor (iRange1 (aCons (eVar 1) aNil)) (gVar 2) (sFor (iRange1 (aCons (eVar 1) aNil)) (gVar 3) (sFor (iRange1 (aCons (eVar 1) aNil)) (gVar 4) (sIf (tOf (eBin neD (eV (eCall m__law_mul (aCons (eBin atD (eIxV 0 (eVar 2)) (eVar 3)) (aCons (eBin atD (eIxV 0 (eVar 3)) (eVar 4)) aNil)))) (eBin atD (eIxV 0 (eVar 2)) (eVar 4)))) (sRet (vE (eTup (aCons (eC (.str (Str.ofString "turn"))) (aCons (eVar 2) (aCons (eVar 3) (aCons (eVar 4) aNil))))))) sNil))))
    (sRet (vE (eTup (aCons (eC (.str (Str.ofString "levels"))) (aCons (eIxV 0 (eC (.int 0))) aNil)))))))
noncomputable def m__law_due : List D → Option Sl := fnP b__law_due 5
noncomputable def b__law_of : Fs := (sRet (vE (eUn tupD (eV (vLc (iSeq (eVar 0)) (gVar 1) cYes (eUn tupD (eV (vLc (iSeq (eVar 0)) (gVar 2) cYes (eV (eCall m__law_over (aCons (eVar 2) (aCons (eVar 1) aNil)))) [2]))) [1])))))
noncomputable def m__law_of : List D → Option Sl := fnP b__law_of 3
noncomputable def b_summed : Fs := (sSeq (sSet 1 (vE (eC k_ZERO)))
    (sSeq (sFor (iSeq (eVar 0)) (gVar 2) (sSet 1 (eCall m_plus (aCons (eVar 1) (aCons (eVar 2) aNil)))))
    (sRetV 1)))
noncomputable def m_summed : List D → Option Sl := fnP b_summed 3
noncomputable def b_is_grid : Fs := (sRet (vE (eAnd (eV (eCall m_is_sized (aCons (eVar 0) (aCons (eVar 1) (aCons (eVar 1) aNil))))) (eUn allD (eV (vLc (iSeq (eVar 0)) (gVar 2) cYes (eV (eCall m_is_positive (aCons (eVar 2) aNil))) [2]))))))
noncomputable def m_is_grid : List D → Option Sl := fnP b_is_grid 3
noncomputable def b__law_dot : Fs := (sRet (eCall m__law_sum (aCons (eV (vLc (iZip2 (aCons (eVar 0) (aCons (eVar 1) aNil))) (gTup (gsCons (gVar 2) (gsCons (gVar 3) gsNil)) 2) cYes (eV (eCall m__law_mul (aCons (eVar 2) (aCons (eVar 3) aNil)))) [2, 3])) aNil)))
noncomputable def m__law_dot : List D → Option Sl := fnP b__law_dot 4
noncomputable def b__law_spoiled : Fs := (sSeq (sPar 2 3 (eCallI m__law_draw 0 (aCons (eUn lenD (bVar 1)) aNil)) (eCallI m__law_draw 0 (aCons (eUn lenD (bVar 1)) aNil)))
    (sSeq (sSet 4 (eCallI m__law_any 0 (aCons (eV (vLst (aCons (eV (eCallI m__law_positive 0 aNil)) (aCons (eV (eCall m__law_over (aCons (eTup (aCons (eC (.int 1)) (aCons (eC (.int 1)) aNil))) (aCons (eBin atD (eIxV 1 (eVar 2)) (eVar 3)) aNil)))) (aCons (eV (eCall m__law_add (aCons (eBin atD (eIxV 1 (eVar 2)) (eVar 3)) (aCons (eTup (aCons (eC (.int 1)) (aCons (eC (.int 9)) aNil))) aNil)))) aNil))))) aNil)))
    (sSeq (sSet 5 (vE (eBin addA (eBin addA (eSlU (eIxV 1 (eVar 2)) oNone (oSome (eVar 3))) (eTup (aCons (eVar 4) aNil))) (eSlU (eIxV 1 (eVar 2)) (oSome (eBin addA (eVar 3) (eC (.int 1)))) oNone))))
    (sRet (vE (eBin addA (eBin addA (eSlU (eVar 1) oNone (oSome (eVar 2))) (eTup (aCons (eVar 5) aNil))) (eSlU (eVar 1) (oSome (eBin addA (eVar 2) (eC (.int 1)))) oNone)))))))
noncomputable def m__law_spoiled : List D → List D → Option (Sl × List D) := fnI b__law_spoiled 6
noncomputable def b_dot : Fs := (sRet (eCall m_summed (aCons (eV (vLc (iZip2 (aCons (eVar 0) (aCons (eVar 1) aNil))) (gTup (gsCons (gVar 2) (gsCons (gVar 3) gsNil)) 2) cYes (eV (eCall m_times (aCons (eVar 2) (aCons (eVar 3) aNil)))) [2, 3])) aNil)))
noncomputable def m_dot : List D → Option Sl := fnP b_dot 4
noncomputable def b_levels : Fs := (sSeq (sIf (tOrT (tNotT (tOf (eV (eCall m_is_sized (aCons (eVar 0) (aCons (eC (.int 1)) (aCons (eC k_MOST_TABLE) aNil))))))) (tNotT (tOf (eUn allD (eV (vLc (iSeq (eVar 0)) (gVar 5) cYes (eV (eCall m_is_grid (aCons (eVar 5) (aCons (eUn lenD (bVar 0)) aNil)))) [5])))))) sNo sNil)
    (sSeq (sSet 1 (vE (eUn lenD (bVar 0))))
    (sSeq (sFor (iRange1 (aCons (eVar 1) aNil)) (gVar 2) (sFor (iRange1 (aCons (eVar 1) aNil)) (gVar 3) (sFor (iRange1 (aCons (eVar 1) aNil)) (gVar 4) (sIf (tOf (eBin neD (eV (eCall m_times (aCons (eBin atD (eIxV 0 (eVar 2)) (eVar 3)) (aCons (eBin atD (eIxV 0 (eVar 3)) (eVar 4)) aNil)))) (eBin atD (eIxV 0 (eVar 2)) (eVar 4)))) (sRet (vE (eTup (aCons (eC k_TURN) (aCons (eVar 2) (aCons (eVar 3) (aCons (eVar 4) aNil))))))) sNil))))
    (sRet (vE (eTup (aCons (eC k_LEVELS) (aCons (eIxV 0 (eC (.int 0))) aNil))))))))
noncomputable def m_levels : List D → Option Sl := fnP b_levels 6
noncomputable def b_is_rows : Fs := (sSeq (sIf (tOrT (tNotT (tOf (eV (eCall m_is_sized (aCons (eVar 0) (aCons (eC (.int 1)) (aCons (eC k_MOST_TABLE) aNil))))))) (tNotT (tOf (eV (eCall m_is_sized (aCons (eIxV 0 (eC (.int 0))) (aCons (eC (.int 1)) (aCons (eC k_MOST_GOODS) aNil)))))))) (sRet (vE (eC (.bool false)))) sNil)
    (sRet (vE (eUn allD (eV (vLc (iSeq (eVar 0)) (gVar 1) cYes (eV (eCall m_is_grid (aCons (eVar 1) (aCons (eUn lenD (eIxV 0 (eC (.int 0)))) aNil)))) [1]))))))
noncomputable def m_is_rows : List D → Option Sl := fnP b_is_rows 2
noncomputable def b__law_table : Fs := (sSeq (sSet 3 (vLst aNil))
    (sSeq (sFor (iRange1 (aCons (eUn lenD (bVar 0)) aNil)) (gVar 4) (sSeq (sSet 5 (vLst aNil))
    (sSeq (sFor (iRange1 (aCons (eUn lenD (bVar 0)) aNil)) (gVar 6) (sSeq (sSet 7 (vE (eIxV 1 (eIf (tOf (eBin eqD (eVar 2) (eC (.str (Str.ofString "old"))))) (eVar 4) (eIf (tOf (eBin eqD (eVar 2) (eC (.str (Str.ofString "new"))))) (eVar 6) (eVar 2))))))
    (sEx (eApp 5 (eCall m__law_over (aCons (eV (eCall m__law_dot (aCons (eVar 7) (aCons (eIxV 0 (eVar 6)) aNil)))) (aCons (eV (eCall m__law_dot (aCons (eVar 7) (aCons (eIxV 0 (eVar 4)) aNil)))) aNil)))))))
    (sEx (eApp 3 (vE (eUn tupD (bVar 5))))))))
    (sRet (vE (eUn tupD (bVar 3))))))
noncomputable def m__law_table : List D → Option Sl := fnP b__law_table 8
noncomputable def b_basket_table : Fs := (sSeq (sIf (tNotT (tOf (eV (eCall m_is_rows (aCons (eVar 0) aNil))))) sNo sNil)
    (sSeq (sIf (tOrT (tNotT (tOf (eV (eCall m_is_rows (aCons (eVar 1) aNil))))) (tOrT (tOf (eBin neD (eUn lenD (bVar 1)) (eUn lenD (bVar 0)))) (tOf (eBin neD (eUn lenD (eIxV 1 (eC (.int 0)))) (eUn lenD (eIxV 0 (eC (.int 0)))))))) sNo sNil)
    (sSeq (sIf (tAndT (tNotT (tOf (eV (eCall m_is_within (aCons (eVar 2) (aCons (eC (.int 0)) (aCons (eBin subD (eUn lenD (bVar 0)) (eC (.int 1))) aNil))))))) (tNotT (tAndT (tOf (eUn (isiD "str") (eVar 2))) (tOf (eBin inD (eVar 2) (eTup (aCons (eC k_OLD) (aCons (eC k_NEW) aNil)))))))) sNo sNil)
    (sSeq (sSet 3 (vLst aNil))
    (sSeq (sFor (iEnum' (aCons (eVar 0) aNil)) (gTup (gsCons (gVar 4) (gsCons (gVar 5) gsNil)) 2) (sSeq (sSet 6 (vLst aNil))
    (sSeq (sFor (iEnum' (aCons (eVar 0) aNil)) (gTup (gsCons (gVar 7) (gsCons (gVar 8) gsNil)) 2) (sSeq (sSet 9 (vE (eIxV 1 (eIf (tOf (eBin eqD (eVar 2) (eC k_OLD))) (eVar 4) (eIf (tOf (eBin eqD (eVar 2) (eC k_NEW))) (eVar 7) (eVar 2))))))
    (sEx (eApp 6 (eCall m_over (aCons (eV (eCall m_dot (aCons (eVar 9) (aCons (eVar 8) aNil)))) (aCons (eV (eCall m_dot (aCons (eVar 9) (aCons (eVar 5) aNil)))) aNil)))))))
    (sEx (eApp 3 (vE (eUn tupD (bVar 6))))))))
    (sRet (vE (eUn tupD (bVar 3)))))))))
noncomputable def m_basket_table : List D → Option Sl := fnP b_basket_table 10
noncomputable def b__law_is_told : Fs := (sSeq (sPar 1 2 (eCall m_levels (aCons (eVar 0) aNil)) (eCall m__law_due (aCons (eVar 0) aNil)))
    (sSeq (sIf (tOrT (tOf (eBin neD (eUn reprD (bVar 1)) (eUn reprD (bVar 2)))) (tOf (eBin neD (eUn reprD (eV (eCall m_levels (aCons (eVar 0) aNil)))) (eUn reprD (bVar 2))))) (sRet (vE (eC (.bool false)))) sNil)
    (sRet (vE (eOr (eBin eqD (eIxV 2 (eC (.int 0))) (eC (.str (Str.ofString "turn")))) (eAnd (eBin eqD (eV (eCall m__law_of (aCons (eIxV 1 (eC (.int 1))) aNil))) (eVar 0)) (eBin eqD (eBin atD (eIxV 1 (eC (.int 1))) (eC (.int 0))) (eTup (aCons (eC (.int 1)) (aCons (eC (.int 1)) aNil))))))))))
noncomputable def m__law_is_told : List D → Option Sl := fnP b__law_is_told 3
noncomputable def b__law_is_basket_right : Fs := (sSeq (sPar 1 2 (vE (eBin addA (eC (.int 1)) (eV (eCallI m__law_draw 0 (aCons (eV (eCallI m__law_any 0 (aCons (eV (vLst (aCons (eC (.int 3)) (aCons (eC (.int 5)) (aCons (eC (.int 12)) aNil))))) aNil))) aNil))))) (vE (eBin addA (eC (.int 1)) (eV (eCallI m__law_draw 0 (aCons (eC (.int 6)) aNil))))))
    (sSeq (sPar 3 4 (vLst aNil) (vLst aNil))
    (sSeq (sFor (iRange1 (aCons (eVar 1) aNil)) (gVar 5) (sSeq (sEx (eApp 3 (vE (eUn tupD (eV (vLc (iRange1 (aCons (eVar 2) aNil)) (gVar 12) cYes (eV (eCallI m__law_positive 0 aNil)) [12]))))))
    (sEx (eApp 4 (vE (eUn tupD (eV (vLc (iRange1 (aCons (eVar 2) aNil)) (gVar 12) cYes (eV (eCallI m__law_positive 0 aNil)) [12]))))))))
    (sSeq (sAsg (eTup (aCons (eUn tupD (bVar 3)) (aCons (eUn tupD (bVar 4)) (aCons (eV (eCallI m__law_draw 0 (aCons (eVar 1) aNil))) aNil)))) (gTup (gsCons (gVar 3) (gsCons (gVar 4) (gsCons (gVar 5) gsNil))) 3))
    (sSeq (sSet 6 (vLst aNil))
    (sSeq (sFor (iSeq (eTup (aCons (eC (.str (Str.ofString "old"))) (aCons (eC (.str (Str.ofString "new"))) (aCons (eVar 5) aNil))))) (gVar 7) (sSeq (sEx (eApp 6 (eCall m_basket_table (aCons (eVar 3) (aCons (eVar 4) (aCons (eVar 7) aNil))))))
    (sIf (tOrT (tOf (eBin neD (eUn reprD (eIxV 6 (eUn negD (eC (.int 1))))) (eUn reprD (eV (eCall m__law_table (aCons (eVar 3) (aCons (eVar 4) (aCons (eVar 7) aNil)))))))) (tNotT (tOf (eV (eCall m__law_is_told (aCons (eIxV 6 (eUn negD (eC (.int 1)))) aNil)))))) (sRet (vE (eC (.bool false)))) sNil)))
    (sSeq (sSet 8 (vLc (iSeq (eVar 3)) (gVar 10) cYes (eV (eCall m__law_dot (aCons (eIxV 4 (eVar 5)) (aCons (eVar 10) aNil)))) [10]))
    (sSeq (sIf (tOf (eBin neD (eV (eCall m_levels (aCons (eIxV 6 (eC (.int 2))) aNil))) (eTup (aCons (eC (.str (Str.ofString "levels"))) (aCons (eUn tupD (eV (vLc (iSeq (eVar 8)) (gVar 13) cYes (eV (eCall m__law_over (aCons (eVar 13) (aCons (eIxV 8 (eC (.int 0))) aNil)))) [13]))) aNil))))) (sRet (vE (eC (.bool false)))) sNil)
    (sSeq (sIf (tAndT (tOf (eBin eqD (eVar 2) (eC (.int 1)))) (tOf (eBin neD (eV (vLst (aCons (eBin atD (eV (eCall m_levels (aCons (eIxV 6 (eC (.int 0))) aNil))) (eC (.int 0))) (aCons (eBin atD (eV (eCall m_levels (aCons (eIxV 6 (eC (.int 1))) aNil))) (eC (.int 0))) aNil)))) (eV (vLst (aCons (eC (.str (Str.ofString "levels"))) (aCons (eC (.str (Str.ofString "levels"))) aNil))))))) (sRet (vE (eC (.bool false)))) sNil)
    (sSeq (sSet 9 (vE (eUn tupD (eV (vLc (iRange1 (aCons (eVar 1) aNil)) (gVar 11) cYes (eUn tupD (eV (vLc (iRange1 (aCons (eVar 1) aNil)) (gVar 14) cYes (eV (eCall m__law_over (aCons (eTup (aCons (eC (.int 1)) (aCons (eC (.int 1)) aNil))) (aCons (eBin atD (eBin atD (eIxV 6 (eC (.int 0))) (eVar 14)) (eVar 11)) aNil)))) [14]))) [11])))))
    (sRet (vE (eBin eqD (eIxV 6 (eC (.int 1))) (eVar 9))))))))))))))
noncomputable def m__law_is_basket_right : List D → List D → Option (Sl × List D) := fnI b__law_is_basket_right 15
noncomputable def b_law : Fs := (sSeq (sSet 1 (eCall m__law_hand (aCons (eVar 0) aNil)))
    (sSeq (sFor (iRange1 (aCons (eC (.int 4)) aNil)) (gVar 2) (sSeq (sSet 3 (vE (eBin addA (eC (.int 1)) (eV (eCallI m__law_draw 1 (aCons (eV (eCallI m__law_any 1 (aCons (eV (vLst (aCons (eC (.int 3)) (aCons (eC (.int 5)) (aCons (eC (.int 12)) aNil))))) aNil))) aNil))))))
    (sSeq (sSet 4 (vE (eBin addA (eTup (aCons (eTup (aCons (eC (.int 1)) (aCons (eC (.int 1)) aNil))) aNil)) (eUn tupD (eV (vLc (iRange1 (aCons (eBin subD (eVar 3) (eC (.int 1))) aNil)) (gVar 9) cYes (eV (eCallI m__law_positive 1 aNil)) [9]))))))
    (sSeq (sSet 5 (eCall m__law_of (aCons (eVar 4) aNil)))
    (sSeq (sIf (tOrT (tOf (eBin neD (eV (eCall m_levels (aCons (eVar 5) aNil))) (eTup (aCons (eC (.str (Str.ofString "levels"))) (aCons (eVar 4) aNil))))) (tNotT (tOf (eV (eCall m__law_is_told (aCons (eVar 5) aNil)))))) (sRet (vE (eC (.bool false)))) sNil)
    (sSeq (sFor (iRange1 (aCons (eC (.int 3)) aNil)) (gVar 6) (sIf (tNotT (tOf (eV (eCall m__law_is_told (aCons (eV (eCallI m__law_spoiled 1 (aCons (eVar 5) aNil))) aNil))))) (sRet (vE (eC (.bool false)))) sNil))
    (sSeq (sSet 7 (vE (eUn tupD (eV (vLc (iRange1 (aCons (eVar 3) aNil)) (gVar 8) cYes (eUn tupD (eV (vLc (iRange1 (aCons (eVar 3) aNil)) (gVar 10) cYes (eV (eCallI m__law_positive 1 aNil)) [10]))) [8])))))
    (sIf (tOrT (tNotT (tOf (eV (eCall m__law_is_told (aCons (eVar 7) aNil))))) (tNotT (tOf (eV (eCallI m__law_is_basket_right 1 aNil))))) (sRet (vE (eC (.bool false)))) sNil))))))))
    (sRet (vE (eC (.bool true))))))
noncomputable def m_law : List D → Option Sl := fnP b_law 11
end K85
set_option Elab.async false
set_option linter.all false
set_option maxRecDepth 100000
set_option maxHeartbeats 4000000
namespace K85
open PySem PySem.Spec PyProof.Rows L2 Dl
section
variable {P : Program} {w : World} {K : PySem.W.Frag} {mg : Str → Option Value} {base : Heap}
theorem ok_is_integer (T : Txt K mg) : FnG P w K mg base 1 T.f_is_integer.f T.f_is_integer.fd ["thing"] (spP K 1 m_is_integer) := by
  refine fnP_ok (b := b_is_integer) (N := ["thing"]) (n := 1) T.f_is_integer.F sc_is_integer rfl ?_
  intro cd A outer st H room gd
  unfold b_is_integer
  exact (dss_one (ds_ret (dv_de (de_and (de_isi (n := "int") rfl T.n_isinstance rfl T.n_int (by decide +kernel) (de_var 0)) (de_one (de_not (db_de (de_isi (n := "bool") rfl T.n_isinstance rfl T.n_bool (by decide +kernel) (de_var 0)))))))))
theorem ok_is_sized (T : Txt K mg) : FnG P w K mg base 1 T.f_is_sized.f T.f_is_sized.fd ["thing", "low", "high"] (spP K 3 m_is_sized) := by
  refine fnP_ok (b := b_is_sized) (N := ["thing", "low", "high"]) (n := 3) T.f_is_sized.F sc_is_sized rfl ?_
  intro cd A outer st H room gd
  unfold b_is_sized
  exact (dss_one (ds_ret (dv_de (de_and (de_isi (n := "tuple") rfl T.n_isinstance rfl T.n_tuple (by decide +kernel) (de_var 0)) (de_one (de_chain op_le op_le ok_cmp ok_cmp (de_var 1) (de_len rfl T.n_len (db_var 0)) (de_var 2)))))))
theorem ok_common (T : Txt K mg) : FnG P w K mg base 1 T.f_common.f T.f_common.fd ["one", "other"] (spP K 2 m_common) := by
  refine fnP_ok (b := b_common) (N := ["one", "other"]) (n := 2) T.f_common.F sc_common rfl ?_
  intro cd A outer st H room gd
  unfold b_common
  exact (dss_cons (ds_while PassesOwn.never (dt_ne (hu64 room) (de_var 1) de_int) (dss_one (ds_par 0 1 rfl sc_common.nd (dv_de (de_var 1)) (dv_de (de_mod (de_var 0) (de_var 1))))))
    (dss_one (ds_ret (dv_de (de_abs rfl T.n_abs (db_var 0))))))
theorem ok__law_hand (T : Txt K mg) : FnG P w K mg base 1 T.f__law_hand.f T.f__law_hand.fd ["script"] (spP K 1 m__law_hand) := by
  refine fnP_ok (b := b__law_hand) (N := ["script", "cells", "cell"]) (n := 1) T.f__law_hand.F sc__law_hand rfl ?_
  intro cd A outer st H room gd
  unfold b__law_hand
  exact (dss_cons (ds_setLc 1 [("cell", 2)] rfl sc__law_hand.nd (di_seq (de_sl (de_var 0) do_none (do_some de_int))) rfl (fun _ _ _ _ _ => (dg_name 2 sc__law_hand.nd)) (fun _ _ _ _ _ => dcs_nil) (fun _ _ _ _ _ => (de_abs rfl T.n_abs (db_de (de_int1 rfl T.n_int (db_var 2))))) (sw_true rfl rfl rfl rfl))
    (dss_one (ds_ret (dv_lst (da_cons (de_var 1) (da_cons de_int (da_cons de_int (da_cons (de_addA de_int (de_mul de_int (de_len rfl T.n_len (db_var 1)))) (da_cons de_int da_nil))))) (lenCons (lenCons (lenCons (lenCons (lenCons lenNil)))))))))
theorem ok__law_draw (T : Txt K mg) : FnG P w K mg base 1 T.f__law_draw.f T.f__law_draw.fd ["hand", "many"] (spI K 2 m__law_draw) := by
  refine fnI_ok (b := b__law_draw) (N := ["hand", "many", "cell", "digit", "number"]) (n := 2) T.f__law_draw.F sc__law_draw rfl ?_
  intro cd A outer st H room gd
  unfold b__law_draw
  exact (dss_cons (ds_if (dt_w (dw_and (dt_eq (hu64 room) (de_ixV 0 de_int) de_int) (dw_and1 (dt_lt (de_ixV 0 de_int) (de_len rfl T.n_len (db_de (de_ixV 0 de_int))))))) (dss_cons (ds_set 2 sc__law_draw.nd (dv_de (de_ix (de_ixV 0 de_int) (de_ixV 0 de_int))))
    (dss_cons (ds_put 0 (dv_de (de_addA (de_ixV 0 de_int) de_int)) de_int)
    (dss_cons (ds_put 0 (dv_de (de_mod (de_int1 rfl T.n_int (db_de (de_addA (de_addA (de_mul (de_ixV 0 de_int) de_int) (de_mul (de_var 2) de_int)) de_int))) de_int)) de_int)
    (dss_one (ds_if (dt_ge (de_var 2) (de_pow de_int de_int)) (dss_one (ds_put 0 (dv_de (de_var 2)) de_int)) dss_nil))))) dss_nil)
    (dss_cons (ds_if (dt_gt (de_ixV 0 de_int) de_int) (dss_cons (ds_set 3 sc__law_draw.nd (dv_de (de_mod (de_int1 rfl T.n_int (db_de (de_ixV 0 de_int))) (de_var 1))))
    (dss_cons (ds_put 0 (dv_de (de_fdiv (de_ixV 0 de_int) (de_var 1))) de_int)
    (dss_one (ds_retV 3)))) dss_nil)
    (dss_cons (ds_put 0 (dv_de (de_addA (de_ixV 0 de_int) de_int)) de_int)
    (dss_cons (ds_set 4 sc__law_draw.nd (dv_de (de_mod (de_int1 rfl T.n_int (db_de (de_mul (de_int1 rfl T.n_int (db_de (de_addA (de_ixV 0 de_int) (de_mul de_int (de_ixV 0 de_int))))) de_int))) de_int)))
    (dss_cons (ds_set 4 sc__law_draw.nd (dv_de (de_mod (de_int1 rfl T.n_int (db_de (de_mul (de_var 4) (de_addA (de_fdiv (de_var 4) de_int) de_int)))) de_int)))
    (dss_cons (ds_set 4 sc__law_draw.nd (dv_de (de_mod (de_int1 rfl T.n_int (db_de (de_mul (de_var 4) (de_addA (de_fdiv (de_var 4) de_int) de_int)))) de_int)))
    (dss_one (ds_ret (dv_de (de_mod (de_int1 rfl T.n_int (db_de (de_fdiv (de_var 4) de_int))) (de_var 1)))))))))))
theorem ok__law_low (T : Txt K mg) : FnG P w K mg base 1 T.f__law_low.f T.f__law_low.fd ["top", "bottom"] (spP K 2 m__law_low) := by
  refine fnP_ok (b := b__law_low) (N := ["top", "bottom", "one", "other"]) (n := 2) T.f__law_low.F sc__law_low rfl ?_
  intro cd A outer st H room gd
  unfold b__law_low
  exact (dss_cons (ds_par 2 3 rfl sc__law_low.nd (dv_de (de_abs rfl T.n_abs (db_var 0))) (dv_de (de_abs rfl T.n_abs (db_var 1))))
    (dss_cons (ds_while PassesOwn.never (dt_ne (hu64 room) (de_var 3) de_int) (dss_one (ds_par 2 3 rfl sc__law_low.nd (dv_de (de_var 3)) (dv_de (de_mod (de_int1 rfl T.n_int (db_var 2)) (de_var 3))))))
    (dss_one (ds_ret (dv_de (de_if (dt_gt (de_var 1) de_int) (de_tup (da_cons (de_fdiv (de_var 0) (de_var 2)) (da_cons (de_fdiv (de_var 1) (de_var 2)) da_nil)) (lenCons (lenCons lenNil))) (de_tup (da_cons (de_sub de_int (de_fdiv (de_var 0) (de_var 2))) (da_cons (de_sub de_int (de_fdiv (de_var 1) (de_var 2))) da_nil)) (lenCons (lenCons lenNil)))))))))
theorem ok_is_within (T : Txt K mg) : FnG P w K mg base 2 T.f_is_within.f T.f_is_within.fd ["thing", "low", "high"] (spP K 3 m_is_within) := by
  refine fnP_ok (b := b_is_within) (N := ["thing", "low", "high"]) (n := 3) T.f_is_within.F sc_is_within rfl ?_
  intro cd A outer st H room gd
  unfold b_is_within
  exact (dss_one (ds_ret (dv_de (de_and (de_dv (dv_call (ok_is_integer T) (room.mono (by decide)) gd rfl T.f_is_integer.g T.f_is_integer.F.kp T.f_is_integer.b (da_cons (de_var 0) da_nil) (lenCons lenNil))) (de_one (de_chain op_le op_le ok_cmp ok_cmp (de_var 1) (de_var 0) (de_var 2)))))))
theorem ok_share (T : Txt K mg) : FnG P w K mg base 2 T.f_share.f T.f_share.fd ["top", "bottom"] (spP K 2 m_share) := by
  refine fnP_ok (b := b_share) (N := ["top", "bottom", "part"]) (n := 2) T.f_share.F sc_share rfl ?_
  intro cd A outer st H room gd
  unfold b_share
  exact (dss_cons (ds_set 2 sc_share.nd (dv_call (ok_common T) (room.mono (by decide)) gd rfl T.f_common.g T.f_common.F.kp T.f_common.b (da_cons (de_var 0) (da_cons (de_var 1) da_nil)) (lenCons (lenCons lenNil))))
    (dss_cons (ds_if (dt_lt (de_var 1) de_int) (dss_one (ds_set 2 sc_share.nd (dv_de (de_neg (de_var 2))))) dss_nil)
    (dss_one (ds_ret (dv_de (de_tup (da_cons (de_fdiv (de_var 0) (de_var 2)) (da_cons (de_fdiv (de_var 1) (de_var 2)) da_nil)) (lenCons (lenCons lenNil))))))))
theorem ok_is_share (T : Txt K mg) : FnG P w K mg base 2 T.f_is_share.f T.f_is_share.fd ["thing"] (spP K 1 m_is_share) := by
  refine fnP_ok (b := b_is_share) (N := ["thing"]) (n := 1) T.f_is_share.F sc_is_share rfl ?_
  intro cd A outer st H room gd
  unfold b_is_share
  exact (dss_cons (ds_if (dt_w (dw_or (dt_not (dt_of (db_dv (dv_call (ok_is_sized T) (room.mono (by decide)) gd rfl T.f_is_sized.g T.f_is_sized.F.kp T.f_is_sized.b (da_cons (de_var 0) (da_cons de_int (da_cons de_int da_nil))) (lenCons (lenCons (lenCons lenNil))))))) (dw_or (dt_not (dt_of (db_dv (dv_call (ok_is_integer T) (room.mono (by decide)) gd rfl T.f_is_integer.g T.f_is_integer.F.kp T.f_is_integer.b (da_cons (de_ixV 0 de_int) da_nil) (lenCons lenNil))))) (dw_or1 (dt_not (dt_of (db_dv (dv_call (ok_is_integer T) (room.mono (by decide)) gd rfl T.f_is_integer.g T.f_is_integer.F.kp T.f_is_integer.b (da_cons (de_ixV 0 de_int) da_nil) (lenCons lenNil))))))))) (dss_one (ds_ret (dv_de de_bl))) dss_nil)
    (dss_one (ds_ret (dv_de (de_and (de_gt (de_ixV 0 de_int) de_int) (de_one (de_eq (hu64 room) (de_dv (dv_call (ok_common T) (room.mono (by decide)) gd rfl T.f_common.g T.f_common.F.kp T.f_common.b (da_cons (de_ixV 0 de_int) (da_cons (de_ixV 0 de_int) da_nil)) (lenCons (lenCons lenNil)))) de_int)))))))
theorem ok__law_any (T : Txt K mg) : FnG P w K mg base 2 T.f__law_any.f T.f__law_any.fd ["hand", "some"] (spI K 2 m__law_any) := by
  refine fnI_ok (b := b__law_any) (N := ["hand", "some"]) (n := 2) T.f__law_any.F sc__law_any rfl ?_
  intro cd A outer st H room gd
  unfold b__law_any
  exact (dss_one (ds_ret (dv_de (de_ixV 1 (de_dv (dv_callI 0 (ok__law_draw T) (room.mono (by decide)) gd rfl T.f__law_draw.g T.f__law_draw.F.kp T.f__law_draw.b (da_cons (de_len rfl T.n_len (db_var 1)) da_nil) (lenCons lenNil)))))))
theorem ok__law_add (T : Txt K mg) : FnG P w K mg base 2 T.f__law_add.f T.f__law_add.fd ["one", "other"] (spP K 2 m__law_add) := by
  refine fnP_ok (b := b__law_add) (N := ["one", "other"]) (n := 2) T.f__law_add.F sc__law_add rfl ?_
  intro cd A outer st H room gd
  unfold b__law_add
  exact (dss_one (ds_ret (dv_call (ok__law_low T) (room.mono (by decide)) gd rfl T.f__law_low.g T.f__law_low.F.kp T.f__law_low.b (da_cons (de_addA (de_mul (de_ixV 0 de_int) (de_ixV 1 de_int)) (de_mul (de_ixV 1 de_int) (de_ixV 0 de_int))) (da_cons (de_mul (de_ixV 0 de_int) (de_ixV 1 de_int)) da_nil)) (lenCons (lenCons lenNil)))))
theorem ok__law_mul (T : Txt K mg) : FnG P w K mg base 2 T.f__law_mul.f T.f__law_mul.fd ["one", "other"] (spP K 2 m__law_mul) := by
  refine fnP_ok (b := b__law_mul) (N := ["one", "other"]) (n := 2) T.f__law_mul.F sc__law_mul rfl ?_
  intro cd A outer st H room gd
  unfold b__law_mul
  exact (dss_one (ds_ret (dv_call (ok__law_low T) (room.mono (by decide)) gd rfl T.f__law_low.g T.f__law_low.F.kp T.f__law_low.b (da_cons (de_mul (de_ixV 0 de_int) (de_ixV 1 de_int)) (da_cons (de_mul (de_ixV 0 de_int) (de_ixV 1 de_int)) da_nil)) (lenCons (lenCons lenNil)))))
theorem ok__law_over (T : Txt K mg) : FnG P w K mg base 2 T.f__law_over.f T.f__law_over.fd ["one", "other"] (spP K 2 m__law_over) := by
  refine fnP_ok (b := b__law_over) (N := ["one", "other"]) (n := 2) T.f__law_over.F sc__law_over rfl ?_
  intro cd A outer st H room gd
  unfold b__law_over
  exact (dss_one (ds_ret (dv_call (ok__law_low T) (room.mono (by decide)) gd rfl T.f__law_low.g T.f__law_low.F.kp T.f__law_low.b (da_cons (de_mul (de_ixV 0 de_int) (de_ixV 1 de_int)) (da_cons (de_mul (de_ixV 0 de_int) (de_ixV 1 de_int)) da_nil)) (lenCons (lenCons lenNil)))))
theorem ok_plus (T : Txt K mg) : FnG P w K mg base 3 T.f_plus.f T.f_plus.fd ["one", "other"] (spP K 2 m_plus) := by
  refine fnP_ok (b := b_plus) (N := ["one", "other"]) (n := 2) T.f_plus.F sc_plus rfl ?_
  intro cd A outer st H room gd
  unfold b_plus
  exact (dss_cons (ds_if (dt_eq (hu64 room) (de_ixV 0 de_int) (de_ixV 1 de_int)) (dss_one (ds_ret (dv_call (ok_share T) (room.mono (by decide)) gd rfl T.f_share.g T.f_share.F.kp T.f_share.b (da_cons (de_addA (de_ixV 0 de_int) (de_ixV 1 de_int)) (da_cons (de_ixV 0 de_int) da_nil)) (lenCons (lenCons lenNil))))) dss_nil)
    (dss_one (ds_ret (dv_call (ok_share T) (room.mono (by decide)) gd rfl T.f_share.g T.f_share.F.kp T.f_share.b (da_cons (de_addA (de_mul (de_ixV 0 de_int) (de_ixV 1 de_int)) (de_mul (de_ixV 1 de_int) (de_ixV 0 de_int))) (da_cons (de_mul (de_ixV 0 de_int) (de_ixV 1 de_int)) da_nil)) (lenCons (lenCons lenNil))))))
theorem ok_times (T : Txt K mg) : FnG P w K mg base 3 T.f_times.f T.f_times.fd ["one", "other"] (spP K 2 m_times) := by
  refine fnP_ok (b := b_times) (N := ["one", "other"]) (n := 2) T.f_times.F sc_times rfl ?_
  intro cd A outer st H room gd
  unfold b_times
  exact (dss_one (ds_ret (dv_call (ok_share T) (room.mono (by decide)) gd rfl T.f_share.g T.f_share.F.kp T.f_share.b (da_cons (de_mul (de_ixV 0 de_int) (de_ixV 1 de_int)) (da_cons (de_mul (de_ixV 0 de_int) (de_ixV 1 de_int)) da_nil)) (lenCons (lenCons lenNil)))))
theorem ok_over (T : Txt K mg) : FnG P w K mg base 3 T.f_over.f T.f_over.fd ["one", "other"] (spP K 2 m_over) := by
  refine fnP_ok (b := b_over) (N := ["one", "other"]) (n := 2) T.f_over.F sc_over rfl ?_
  intro cd A outer st H room gd
  unfold b_over
  exact (dss_one (ds_ret (dv_call (ok_share T) (room.mono (by decide)) gd rfl T.f_share.g T.f_share.F.kp T.f_share.b (da_cons (de_mul (de_ixV 0 de_int) (de_ixV 1 de_int)) (da_cons (de_mul (de_ixV 0 de_int) (de_ixV 1 de_int)) da_nil)) (lenCons (lenCons lenNil)))))
theorem ok_is_positive (T : Txt K mg) : FnG P w K mg base 3 T.f_is_positive.f T.f_is_positive.fd ["thing"] (spP K 1 m_is_positive) := by
  refine fnP_ok (b := b_is_positive) (N := ["thing"]) (n := 1) T.f_is_positive.F sc_is_positive rfl ?_
  intro cd A outer st H room gd
  unfold b_is_positive
  exact (dss_one (ds_ret (dv_de (de_and (de_dv (dv_call (ok_is_share T) (room.mono (by decide)) gd rfl T.f_is_share.g T.f_is_share.F.kp T.f_is_share.b (da_cons (de_var 0) da_nil) (lenCons lenNil))) (de_one (de_gt (de_ixV 0 de_int) de_int))))))
theorem ok__law_sum (T : Txt K mg) : FnG P w K mg base 3 T.f__law_sum.f T.f__law_sum.fd ["some"] (spP K 1 m__law_sum) := by
  refine fnP_ok (b := b__law_sum) (N := ["some", "found", "one"]) (n := 1) T.f__law_sum.F sc__law_sum rfl ?_
  intro cd A outer st H room gd
  unfold b__law_sum
  exact (dss_cons (ds_set 1 sc__law_sum.nd (dv_de (de_tup (da_cons de_int (da_cons de_int da_nil)) (lenCons (lenCons lenNil)))))
    (dss_cons (ds_for PassesOwn.never rfl (di_seq (de_var 0)) (dg_name 2 sc__law_sum.nd) (dss_one (ds_set 1 sc__law_sum.nd (dv_call (ok__law_add T) (room.mono (by decide)) gd rfl T.f__law_add.g T.f__law_add.F.kp T.f__law_add.b (da_cons (de_var 1) (da_cons (de_var 2) da_nil)) (lenCons (lenCons lenNil))))))
    (dss_one (ds_retV 1))))
theorem ok__law_positive (T : Txt K mg) : FnG P w K mg base 3 T.f__law_positive.f T.f__law_positive.fd ["hand"] (spI K 1 m__law_positive) := by
  refine fnI_ok (b := b__law_positive) (N := ["hand", "bottom"]) (n := 1) T.f__law_positive.F sc__law_positive rfl ?_
  intro cd A outer st H room gd
  unfold b__law_positive
  exact (dss_cons (ds_set 1 sc__law_positive.nd (dv_de (de_addA de_int (de_dv (dv_callI 0 (ok__law_any T) (room.mono (by decide)) gd rfl T.f__law_any.g T.f__law_any.F.kp T.f__law_any.b (da_cons (de_dv (dv_lst (da_cons de_int (da_cons de_int (da_cons de_int (da_cons de_int (da_cons de_int (da_cons (de_dv (dv_callI 0 (ok__law_draw T) (room.mono (by decide)) gd rfl T.f__law_draw.g T.f__law_draw.F.kp T.f__law_draw.b (da_cons de_int da_nil) (lenCons lenNil))) da_nil)))))) (lenCons (lenCons (lenCons (lenCons (lenCons (lenCons lenNil)))))))) da_nil) (lenCons lenNil))))))
    (dss_one (ds_ret (dv_call (ok__law_low T) (room.mono (by decide)) gd rfl T.f__law_low.g T.f__law_low.F.kp T.f__law_low.b (da_cons (de_addA de_int (de_dv (dv_callI 0 (ok__law_draw T) (room.mono (by decide)) gd rfl T.f__law_draw.g T.f__law_draw.F.kp T.f__law_draw.b (da_cons (de_mul de_int (de_var 1)) da_nil) (lenCons lenNil)))) (da_cons (de_var 1) da_nil)) (lenCons (lenCons lenNil))))))
theorem ok__law_due (T : Txt K mg) : FnG P w K mg base 3 T.f__law_due.f T.f__law_due.fd ["table"] (spP K 1 m__law_due) := by
  refine fnP_ok (b := b__law_due) (N := ["table", "many", "i", "j", "k"]) (n := 1) T.f__law_due.F sc__law_due rfl ?_
  intro cd A outer st H room gd
  unfold b__law_due
  exact (dss_cons (ds_set 1 sc__law_due.nd (dv_de (de_len rfl T.n_len (db_var 0))))
    (dss_cons (ds_for PassesOwn.never rfl (di_range1 rfl T.n_range (da_cons (de_var 1) da_nil)) (dg_name 2 sc__law_due.nd) (dss_one (ds_for PassesOwn.never rfl (di_range1 rfl T.n_range (da_cons (de_var 1) da_nil)) (dg_name 3 sc__law_due.nd) (dss_one (ds_for PassesOwn.never rfl (di_range1 rfl T.n_range (da_cons (de_var 1) da_nil)) (dg_name 4 sc__law_due.nd) (dss_one (ds_if (dt_ne (hu64 room) (de_dv (dv_call (ok__law_mul T) (room.mono (by decide)) gd rfl T.f__law_mul.g T.f__law_mul.F.kp T.f__law_mul.b (da_cons (de_ix (de_ixV 0 (de_var 2)) (de_var 3)) (da_cons (de_ix (de_ixV 0 (de_var 3)) (de_var 4)) da_nil)) (lenCons (lenCons lenNil)))) (de_ix (de_ixV 0 (de_var 2)) (de_var 4))) (dss_one (ds_ret (dv_de (de_tup (da_cons de_str (da_cons (de_var 2) (da_cons (de_var 3) (da_cons (de_var 4) da_nil)))) (lenCons (lenCons (lenCons (lenCons lenNil)))))))) dss_nil)))))))
    (dss_one (ds_ret (dv_de (de_tup (da_cons de_str (da_cons (de_ixV 0 de_int) da_nil)) (lenCons (lenCons lenNil))))))))
theorem ok__law_of (T : Txt K mg) : FnG P w K mg base 3 T.f__law_of.f T.f__law_of.fd ["heights"] (spP K 1 m__law_of) := by
  refine fnP_ok (b := b__law_of) (N := ["heights", "one", "other"]) (n := 1) T.f__law_of.F sc__law_of rfl ?_
  intro cd A outer st H room gd
  unfold b__law_of
  exact (dss_one (ds_ret (dv_de (de_tuple rfl T.n_tuple (db_dv (dv_lc [("one", 1)] rfl sc__law_of.nd (di_seq (de_var 0)) rfl (fun _ _ _ _ _ => (dg_name 1 sc__law_of.nd)) (fun _ _ _ _ _ => dcs_nil) (fun _ _ _ _ _ => (de_tuple rfl T.n_tuple (db_dv (dv_lc [("other", 2)] rfl sc__law_of.nd (di_seq (de_var 0)) rfl (fun _ _ _ _ _ => (dg_name 2 sc__law_of.nd)) (fun _ _ _ _ _ => dcs_nil) (fun _ _ _ _ _ => (de_dv (dv_call (ok__law_over T) (room.mono (by decide)) gd rfl T.f__law_over.g T.f__law_over.F.kp T.f__law_over.b (da_cons (de_var 2) (da_cons (de_var 1) da_nil)) (lenCons (lenCons lenNil)))))))))))))))
theorem ok_summed (T : Txt K mg) : FnG P w K mg base 4 T.f_summed.f T.f_summed.fd ["many"] (spP K 1 m_summed) := by
  refine fnP_ok (b := b_summed) (N := ["many", "found", "one"]) (n := 1) T.f_summed.F sc_summed rfl ?_
  intro cd A outer st H room gd
  unfold b_summed
  exact (dss_cons (ds_set 1 sc_summed.nd (dv_de (de_glob rfl T.c_ZERO.1 T.c_ZERO.2.1 T.c_ZERO.2.2)))
    (dss_cons (ds_for PassesOwn.never rfl (di_seq (de_var 0)) (dg_name 2 sc_summed.nd) (dss_one (ds_set 1 sc_summed.nd (dv_call (ok_plus T) (room.mono (by decide)) gd rfl T.f_plus.g T.f_plus.F.kp T.f_plus.b (da_cons (de_var 1) (da_cons (de_var 2) da_nil)) (lenCons (lenCons lenNil))))))
    (dss_one (ds_retV 1))))
theorem ok_is_grid (T : Txt K mg) : FnG P w K mg base 4 T.f_is_grid.f T.f_is_grid.fd ["thing", "many"] (spP K 2 m_is_grid) := by
  refine fnP_ok (b := b_is_grid) (N := ["thing", "many", "part"]) (n := 2) T.f_is_grid.F sc_is_grid rfl ?_
  intro cd A outer st H room gd
  unfold b_is_grid
  exact (dss_one (ds_ret (dv_de (de_and (de_dv (dv_call (ok_is_sized T) (room.mono (by decide)) gd rfl T.f_is_sized.g T.f_is_sized.F.kp T.f_is_sized.b (da_cons (de_var 0) (da_cons (de_var 1) (da_cons (de_var 1) da_nil))) (lenCons (lenCons (lenCons lenNil))))) (de_one (de_all rfl rfl T.n_all (db_dv (dv_lc [("part", 2)] rfl sc_is_grid.nd (di_seq (de_var 0)) rfl (fun _ _ _ _ _ => (dg_name 2 sc_is_grid.nd)) (fun _ _ _ _ _ => dcs_nil) (fun _ _ _ _ _ => (de_dv (dv_call (ok_is_positive T) (room.mono (by decide)) gd rfl T.f_is_positive.g T.f_is_positive.F.kp T.f_is_positive.b (da_cons (de_var 2) da_nil) (lenCons lenNil))))))))))))
theorem ok__law_dot (T : Txt K mg) : FnG P w K mg base 4 T.f__law_dot.f T.f__law_dot.fd ["row", "other"] (spP K 2 m__law_dot) := by
  refine fnP_ok (b := b__law_dot) (N := ["row", "other", "one", "two"]) (n := 2) T.f__law_dot.F sc__law_dot rfl ?_
  intro cd A outer st H room gd
  unfold b__law_dot
  exact (dss_one (ds_ret (dv_call (ok__law_sum T) (room.mono (by decide)) gd rfl T.f__law_sum.g T.f__law_sum.F.kp T.f__law_sum.b (da_cons (de_dv (dv_lc [("one", 2), ("two", 3)] rfl sc__law_dot.nd (di_zip rfl T.n_zip (da_cons (de_var 0) (da_cons (de_var 1) da_nil))) rfl (fun _ _ _ _ _ => (dg_tup 2 rfl (dgs_cons (dg_name 2 sc__law_dot.nd) (dgs_cons (dg_name 3 sc__law_dot.nd) dgs_nil)))) (fun _ _ _ _ _ => dcs_nil) (fun _ _ _ _ _ => (de_dv (dv_call (ok__law_mul T) (room.mono (by decide)) gd rfl T.f__law_mul.g T.f__law_mul.F.kp T.f__law_mul.b (da_cons (de_var 2) (da_cons (de_var 3) da_nil)) (lenCons (lenCons lenNil))))))) da_nil) (lenCons lenNil))))
theorem ok__law_spoiled (T : Txt K mg) : FnG P w K mg base 4 T.f__law_spoiled.f T.f__law_spoiled.fd ["hand", "table"] (spI K 2 m__law_spoiled) := by
  refine fnI_ok (b := b__law_spoiled) (N := ["hand", "table", "i", "j", "one", "row"]) (n := 2) T.f__law_spoiled.F sc__law_spoiled rfl ?_
  intro cd A outer st H room gd
  unfold b__law_spoiled
  exact (dss_cons (ds_par 2 3 rfl sc__law_spoiled.nd (dv_callI 0 (ok__law_draw T) (room.mono (by decide)) gd rfl T.f__law_draw.g T.f__law_draw.F.kp T.f__law_draw.b (da_cons (de_len rfl T.n_len (db_var 1)) da_nil) (lenCons lenNil)) (dv_callI 0 (ok__law_draw T) (room.mono (by decide)) gd rfl T.f__law_draw.g T.f__law_draw.F.kp T.f__law_draw.b (da_cons (de_len rfl T.n_len (db_var 1)) da_nil) (lenCons lenNil)))
    (dss_cons (ds_set 4 sc__law_spoiled.nd (dv_callI 0 (ok__law_any T) (room.mono (by decide)) gd rfl T.f__law_any.g T.f__law_any.F.kp T.f__law_any.b (da_cons (de_dv (dv_lst (da_cons (de_dv (dv_callI 0 (ok__law_positive T) (room.mono (by decide)) gd rfl T.f__law_positive.g T.f__law_positive.F.kp T.f__law_positive.b da_nil lenNil)) (da_cons (de_dv (dv_call (ok__law_over T) (room.mono (by decide)) gd rfl T.f__law_over.g T.f__law_over.F.kp T.f__law_over.b (da_cons (de_tup (da_cons de_int (da_cons de_int da_nil)) (lenCons (lenCons lenNil))) (da_cons (de_ix (de_ixV 1 (de_var 2)) (de_var 3)) da_nil)) (lenCons (lenCons lenNil)))) (da_cons (de_dv (dv_call (ok__law_add T) (room.mono (by decide)) gd rfl T.f__law_add.g T.f__law_add.F.kp T.f__law_add.b (da_cons (de_ix (de_ixV 1 (de_var 2)) (de_var 3)) (da_cons (de_tup (da_cons de_int (da_cons de_int da_nil)) (lenCons (lenCons lenNil))) da_nil)) (lenCons (lenCons lenNil)))) da_nil))) (lenCons (lenCons (lenCons lenNil))))) da_nil) (lenCons lenNil)))
    (dss_cons (ds_set 5 sc__law_spoiled.nd (dv_de (de_addA (de_addA (de_sl (de_ixV 1 (de_var 2)) do_none (do_some (de_var 3))) (de_tup (da_cons (de_var 4) da_nil) (lenCons lenNil))) (de_sl (de_ixV 1 (de_var 2)) (do_some (de_addA (de_var 3) de_int)) do_none))))
    (dss_one (ds_ret (dv_de (de_addA (de_addA (de_sl (de_var 1) do_none (do_some (de_var 2))) (de_tup (da_cons (de_var 5) da_nil) (lenCons lenNil))) (de_sl (de_var 1) (do_some (de_addA (de_var 2) de_int)) do_none))))))))
theorem ok_dot (T : Txt K mg) : FnG P w K mg base 5 T.f_dot.f T.f_dot.fd ["one", "other"] (spP K 2 m_dot) := by
  refine fnP_ok (b := b_dot) (N := ["one", "other", "first", "second"]) (n := 2) T.f_dot.F sc_dot rfl ?_
  intro cd A outer st H room gd
  unfold b_dot
  exact (dss_one (ds_ret (dv_call (ok_summed T) (room.mono (by decide)) gd rfl T.f_summed.g T.f_summed.F.kp T.f_summed.b (da_cons (de_dv (dv_lc [("first", 2), ("second", 3)] rfl sc_dot.nd (di_zip rfl T.n_zip (da_cons (de_var 0) (da_cons (de_var 1) da_nil))) rfl (fun _ _ _ _ _ => (dg_tup 2 rfl (dgs_cons (dg_name 2 sc_dot.nd) (dgs_cons (dg_name 3 sc_dot.nd) dgs_nil)))) (fun _ _ _ _ _ => dcs_nil) (fun _ _ _ _ _ => (de_dv (dv_call (ok_times T) (room.mono (by decide)) gd rfl T.f_times.g T.f_times.F.kp T.f_times.b (da_cons (de_var 2) (da_cons (de_var 3) da_nil)) (lenCons (lenCons lenNil))))))) da_nil) (lenCons lenNil))))
theorem ok_levels (T : Txt K mg) : FnG P w K mg base 5 T.f_levels.f T.f_levels.fd ["table"] (spP K 1 m_levels) := by
  refine fnP_ok (b := b_levels) (N := ["table", "many", "one", "other", "third", "line"]) (n := 1) T.f_levels.F sc_levels rfl ?_
  intro cd A outer st H room gd
  unfold b_levels
  exact (dss_cons (ds_if (dt_w (dw_or (dt_not (dt_of (db_dv (dv_call (ok_is_sized T) (room.mono (by decide)) gd rfl T.f_is_sized.g T.f_is_sized.F.kp T.f_is_sized.b (da_cons (de_var 0) (da_cons de_int (da_cons (de_glob rfl T.c_MOST_TABLE.1 T.c_MOST_TABLE.2.1 T.c_MOST_TABLE.2.2) da_nil))) (lenCons (lenCons (lenCons lenNil))))))) (dw_or1 (dt_not (dt_of (db_de (de_all rfl rfl T.n_all (db_dv (dv_lc [("line", 5)] rfl sc_levels.nd (di_seq (de_var 0)) rfl (fun _ _ _ _ _ => (dg_name 5 sc_levels.nd)) (fun _ _ _ _ _ => dcs_nil) (fun _ _ _ _ _ => (de_dv (dv_call (ok_is_grid T) (room.mono (by decide)) gd rfl T.f_is_grid.g T.f_is_grid.F.kp T.f_is_grid.b (da_cons (de_var 5) (da_cons (de_len rfl T.n_len (db_var 0)) da_nil)) (lenCons (lenCons lenNil)))))))))))))) (dss_one ds_no) dss_nil)
    (dss_cons (ds_set 1 sc_levels.nd (dv_de (de_len rfl T.n_len (db_var 0))))
    (dss_cons (ds_for PassesOwn.never rfl (di_range1 rfl T.n_range (da_cons (de_var 1) da_nil)) (dg_name 2 sc_levels.nd) (dss_one (ds_for PassesOwn.never rfl (di_range1 rfl T.n_range (da_cons (de_var 1) da_nil)) (dg_name 3 sc_levels.nd) (dss_one (ds_for PassesOwn.never rfl (di_range1 rfl T.n_range (da_cons (de_var 1) da_nil)) (dg_name 4 sc_levels.nd) (dss_one (ds_if (dt_ne (hu64 room) (de_dv (dv_call (ok_times T) (room.mono (by decide)) gd rfl T.f_times.g T.f_times.F.kp T.f_times.b (da_cons (de_ix (de_ixV 0 (de_var 2)) (de_var 3)) (da_cons (de_ix (de_ixV 0 (de_var 3)) (de_var 4)) da_nil)) (lenCons (lenCons lenNil)))) (de_ix (de_ixV 0 (de_var 2)) (de_var 4))) (dss_one (ds_ret (dv_de (de_tup (da_cons (de_glob rfl T.c_TURN.1 T.c_TURN.2.1 T.c_TURN.2.2) (da_cons (de_var 2) (da_cons (de_var 3) (da_cons (de_var 4) da_nil)))) (lenCons (lenCons (lenCons (lenCons lenNil)))))))) dss_nil)))))))
    (dss_one (ds_ret (dv_de (de_tup (da_cons (de_glob rfl T.c_LEVELS.1 T.c_LEVELS.2.1 T.c_LEVELS.2.2) (da_cons (de_ixV 0 de_int) da_nil)) (lenCons (lenCons lenNil)))))))))
theorem ok_is_rows (T : Txt K mg) : FnG P w K mg base 5 T.f_is_rows.f T.f_is_rows.fd ["thing"] (spP K 1 m_is_rows) := by
  refine fnP_ok (b := b_is_rows) (N := ["thing", "line"]) (n := 1) T.f_is_rows.F sc_is_rows rfl ?_
  intro cd A outer st H room gd
  unfold b_is_rows
  exact (dss_cons (ds_if (dt_w (dw_or (dt_not (dt_of (db_dv (dv_call (ok_is_sized T) (room.mono (by decide)) gd rfl T.f_is_sized.g T.f_is_sized.F.kp T.f_is_sized.b (da_cons (de_var 0) (da_cons de_int (da_cons (de_glob rfl T.c_MOST_TABLE.1 T.c_MOST_TABLE.2.1 T.c_MOST_TABLE.2.2) da_nil))) (lenCons (lenCons (lenCons lenNil))))))) (dw_or1 (dt_not (dt_of (db_dv (dv_call (ok_is_sized T) (room.mono (by decide)) gd rfl T.f_is_sized.g T.f_is_sized.F.kp T.f_is_sized.b (da_cons (de_ixV 0 de_int) (da_cons de_int (da_cons (de_glob rfl T.c_MOST_GOODS.1 T.c_MOST_GOODS.2.1 T.c_MOST_GOODS.2.2) da_nil))) (lenCons (lenCons (lenCons lenNil)))))))))) (dss_one (ds_ret (dv_de de_bl))) dss_nil)
    (dss_one (ds_ret (dv_de (de_all rfl rfl T.n_all (db_dv (dv_lc [("line", 1)] rfl sc_is_rows.nd (di_seq (de_var 0)) rfl (fun _ _ _ _ _ => (dg_name 1 sc_is_rows.nd)) (fun _ _ _ _ _ => dcs_nil) (fun _ _ _ _ _ => (de_dv (dv_call (ok_is_grid T) (room.mono (by decide)) gd rfl T.f_is_grid.g T.f_is_grid.F.kp T.f_is_grid.b (da_cons (de_var 1) (da_cons (de_len rfl T.n_len (db_de (de_ixV 0 de_int))) da_nil)) (lenCons (lenCons lenNil))))))))))))
theorem ok__law_table (T : Txt K mg) : FnG P w K mg base 5 T.f__law_table.f T.f__law_table.fd ["prices", "baskets", "kind"] (spP K 3 m__law_table) := by
  refine fnP_ok (b := b__law_table) (N := ["prices", "baskets", "kind", "found", "i", "row", "j", "basket"]) (n := 3) T.f__law_table.F sc__law_table rfl ?_
  intro cd A outer st H room gd
  unfold b__law_table
  exact (dss_cons (ds_set 3 sc__law_table.nd (dv_lst da_nil lenNil))
    (dss_cons (ds_for PassesOwn.never rfl (di_range1 rfl T.n_range (da_cons (de_len rfl T.n_len (db_var 0)) da_nil)) (dg_name 4 sc__law_table.nd) (dss_cons (ds_set 5 sc__law_table.nd (dv_lst da_nil lenNil))
    (dss_cons (ds_for PassesOwn.never rfl (di_range1 rfl T.n_range (da_cons (de_len rfl T.n_len (db_var 0)) da_nil)) (dg_name 6 sc__law_table.nd) (dss_cons (ds_set 7 sc__law_table.nd (dv_de (de_ixV 1 (de_if (dt_eq (hu64 room) (de_var 2) de_str) (de_var 4) (de_if (dt_eq (hu64 room) (de_var 2) de_str) (de_var 6) (de_var 2))))))
    (dss_one (ds_expr (de_append 5 (dv_call (ok__law_over T) (room.mono (by decide)) gd rfl T.f__law_over.g T.f__law_over.F.kp T.f__law_over.b (da_cons (de_dv (dv_call (ok__law_dot T) (room.mono (by decide)) gd rfl T.f__law_dot.g T.f__law_dot.F.kp T.f__law_dot.b (da_cons (de_var 7) (da_cons (de_ixV 0 (de_var 6)) da_nil)) (lenCons (lenCons lenNil)))) (da_cons (de_dv (dv_call (ok__law_dot T) (room.mono (by decide)) gd rfl T.f__law_dot.g T.f__law_dot.F.kp T.f__law_dot.b (da_cons (de_var 7) (da_cons (de_ixV 0 (de_var 4)) da_nil)) (lenCons (lenCons lenNil)))) da_nil)) (lenCons (lenCons lenNil))))))))
    (dss_one (ds_expr (de_append 3 (dv_de (de_tuple rfl T.n_tuple (db_var 5)))))))))
    (dss_one (ds_ret (dv_de (de_tuple rfl T.n_tuple (db_var 3)))))))
theorem ok_basket_table (T : Txt K mg) : FnG P w K mg base 6 T.f_basket_table.f T.f_basket_table.fd ["prices", "baskets", "kind"] (spP K 3 m_basket_table) := by
  refine fnP_ok (b := b_basket_table) (N := ["prices", "baskets", "kind", "found", "one", "first", "row", "other", "second", "basket"]) (n := 3) T.f_basket_table.F sc_basket_table rfl ?_
  intro cd A outer st H room gd
  unfold b_basket_table
  exact (dss_cons (ds_if (dt_not (dt_of (db_dv (dv_call (ok_is_rows T) (room.mono (by decide)) gd rfl T.f_is_rows.g T.f_is_rows.F.kp T.f_is_rows.b (da_cons (de_var 0) da_nil) (lenCons lenNil))))) (dss_one ds_no) dss_nil)
    (dss_cons (ds_if (dt_w (dw_or (dt_not (dt_of (db_dv (dv_call (ok_is_rows T) (room.mono (by decide)) gd rfl T.f_is_rows.g T.f_is_rows.F.kp T.f_is_rows.b (da_cons (de_var 1) da_nil) (lenCons lenNil))))) (dw_or (dt_ne (hu64 room) (de_len rfl T.n_len (db_var 1)) (de_len rfl T.n_len (db_var 0))) (dw_or1 (dt_ne (hu64 room) (de_len rfl T.n_len (db_de (de_ixV 1 de_int))) (de_len rfl T.n_len (db_de (de_ixV 0 de_int)))))))) (dss_one ds_no) dss_nil)
    (dss_cons (ds_if (dt_w (dw_and (dt_not (dt_of (db_dv (dv_call (ok_is_within T) (room.mono (by decide)) gd rfl T.f_is_within.g T.f_is_within.F.kp T.f_is_within.b (da_cons (de_var 2) (da_cons de_int (da_cons (de_sub (de_len rfl T.n_len (db_var 0)) de_int) da_nil))) (lenCons (lenCons (lenCons lenNil))))))) (dw_and1 (dt_not (dt_w (dw_and (dt_of (db_de (de_isi (n := "str") rfl T.n_isinstance rfl T.n_str (by decide +kernel) (de_var 2)))) (dw_and1 (dt_in (hu65 room) (de_var 2) (de_tup (da_cons (de_glob rfl T.c_OLD.1 T.c_OLD.2.1 T.c_OLD.2.2) (da_cons (de_glob rfl T.c_NEW.1 T.c_NEW.2.1 T.c_NEW.2.2) da_nil)) (lenCons (lenCons lenNil))))))))))) (dss_one ds_no) dss_nil)
    (dss_cons (ds_set 3 sc_basket_table.nd (dv_lst da_nil lenNil))
    (dss_cons (ds_for PassesOwn.never rfl (di_enum rfl T.n_enumerate (da_cons (de_var 0) da_nil)) (dg_tup 2 rfl (dgs_cons (dg_name 4 sc_basket_table.nd) (dgs_cons (dg_name 5 sc_basket_table.nd) dgs_nil))) (dss_cons (ds_set 6 sc_basket_table.nd (dv_lst da_nil lenNil))
    (dss_cons (ds_for PassesOwn.never rfl (di_enum rfl T.n_enumerate (da_cons (de_var 0) da_nil)) (dg_tup 2 rfl (dgs_cons (dg_name 7 sc_basket_table.nd) (dgs_cons (dg_name 8 sc_basket_table.nd) dgs_nil))) (dss_cons (ds_set 9 sc_basket_table.nd (dv_de (de_ixV 1 (de_if (dt_eq (hu64 room) (de_var 2) (de_glob rfl T.c_OLD.1 T.c_OLD.2.1 T.c_OLD.2.2)) (de_var 4) (de_if (dt_eq (hu64 room) (de_var 2) (de_glob rfl T.c_NEW.1 T.c_NEW.2.1 T.c_NEW.2.2)) (de_var 7) (de_var 2))))))
    (dss_one (ds_expr (de_append 6 (dv_call (ok_over T) (room.mono (by decide)) gd rfl T.f_over.g T.f_over.F.kp T.f_over.b (da_cons (de_dv (dv_call (ok_dot T) (room.mono (by decide)) gd rfl T.f_dot.g T.f_dot.F.kp T.f_dot.b (da_cons (de_var 9) (da_cons (de_var 8) da_nil)) (lenCons (lenCons lenNil)))) (da_cons (de_dv (dv_call (ok_dot T) (room.mono (by decide)) gd rfl T.f_dot.g T.f_dot.F.kp T.f_dot.b (da_cons (de_var 9) (da_cons (de_var 5) da_nil)) (lenCons (lenCons lenNil)))) da_nil)) (lenCons (lenCons lenNil))))))))
    (dss_one (ds_expr (de_append 3 (dv_de (de_tuple rfl T.n_tuple (db_var 6)))))))))
    (dss_one (ds_ret (dv_de (de_tuple rfl T.n_tuple (db_var 3))))))))))
theorem ok__law_is_told (T : Txt K mg) : FnG P w K mg base 6 T.f__law_is_told.f T.f__law_is_told.fd ["table"] (spP K 1 m__law_is_told) := by
  refine fnP_ok (b := b__law_is_told) (N := ["table", "found", "due"]) (n := 1) T.f__law_is_told.F sc__law_is_told rfl ?_
  intro cd A outer st H room gd
  unfold b__law_is_told
  exact (dss_cons (ds_par 1 2 rfl sc__law_is_told.nd (dv_call (ok_levels T) (room.mono (by decide)) gd rfl T.f_levels.g T.f_levels.F.kp T.f_levels.b (da_cons (de_var 0) da_nil) (lenCons lenNil)) (dv_call (ok__law_due T) (room.mono (by decide)) gd rfl T.f__law_due.g T.f__law_due.F.kp T.f__law_due.b (da_cons (de_var 0) da_nil) (lenCons lenNil)))
    (dss_cons (ds_if (dt_w (dw_or (dt_ne (hu64 room) (de_repr gd (hu64 room) rfl T.n_repr (db_var 1)) (de_repr gd (hu64 room) rfl T.n_repr (db_var 2))) (dw_or1 (dt_ne (hu64 room) (de_repr gd (hu64 room) rfl T.n_repr (db_dv (dv_call (ok_levels T) (room.mono (by decide)) gd rfl T.f_levels.g T.f_levels.F.kp T.f_levels.b (da_cons (de_var 0) da_nil) (lenCons lenNil)))) (de_repr gd (hu64 room) rfl T.n_repr (db_var 2)))))) (dss_one (ds_ret (dv_de de_bl))) dss_nil)
    (dss_one (ds_ret (dv_de (de_or (de_eq (hu64 room) (de_ixV 2 de_int) de_str) (de_one (de_and (de_eq (hu64 room) (de_dv (dv_call (ok__law_of T) (room.mono (by decide)) gd rfl T.f__law_of.g T.f__law_of.F.kp T.f__law_of.b (da_cons (de_ixV 1 de_int) da_nil) (lenCons lenNil))) (de_var 0)) (de_one (de_eq (hu64 room) (de_ix (de_ixV 1 de_int) de_int) (de_tup (da_cons de_int (da_cons de_int da_nil)) (lenCons (lenCons lenNil)))))))))))))
theorem ok__law_is_basket_right (T : Txt K mg) : FnG P w K mg base 7 T.f__law_is_basket_right.f T.f__law_is_basket_right.fd ["hand"] (spI K 1 m__law_is_basket_right) := by
  refine fnI_ok (b := b__law_is_basket_right) (N := ["hand", "many", "goods", "prices", "baskets", "year", "told", "kind", "costs", "back", "row", "i", "good", "one", "j"]) (n := 1) T.f__law_is_basket_right.F sc__law_is_basket_right rfl ?_
  intro cd A outer st H room gd
  unfold b__law_is_basket_right
  exact (dss_cons (ds_parC 1 2 rfl sc__law_is_basket_right.nd (dv_de (de_addA de_int (de_dv (dv_callI 0 (ok__law_draw T) (room.mono (by decide)) gd rfl T.f__law_draw.g T.f__law_draw.F.kp T.f__law_draw.b (da_cons (de_dv (dv_callI 0 (ok__law_any T) (room.mono (by decide)) gd rfl T.f__law_any.g T.f__law_any.F.kp T.f__law_any.b (da_cons (de_dv (dv_lst (da_cons de_int (da_cons de_int (da_cons de_int da_nil))) (lenCons (lenCons (lenCons lenNil))))) da_nil) (lenCons lenNil))) da_nil) (lenCons lenNil))))) (dv_de (de_addA de_int (de_dv (dv_callI 0 (ok__law_draw T) (room.mono (by decide)) gd rfl T.f__law_draw.g T.f__law_draw.F.kp T.f__law_draw.b (da_cons de_int da_nil) (lenCons lenNil))))))
    (dss_cons (ds_parC 3 4 rfl sc__law_is_basket_right.nd (dv_lst da_nil lenNil) (dv_lst da_nil lenNil))
    (dss_cons (ds_for PassesOwn.never rfl (di_range1 rfl T.n_range (da_cons (de_var 1) da_nil)) (dg_name 5 sc__law_is_basket_right.nd) (dss_cons (ds_expr (de_append 3 (dv_de (de_tuple rfl T.n_tuple (db_dv (dv_lc [("good", 12)] rfl sc__law_is_basket_right.nd (di_range1 rfl T.n_range (da_cons (de_var 2) da_nil)) rfl (fun _ _ _ _ _ => (dg_name 12 sc__law_is_basket_right.nd)) (fun _ _ _ _ _ => dcs_nil) (fun _ _ _ _ _ => (de_dv (dv_callI 0 (ok__law_positive T) (room.mono (by decide)) gd rfl T.f__law_positive.g T.f__law_positive.F.kp T.f__law_positive.b da_nil lenNil)))))))))
    (dss_one (ds_expr (de_append 4 (dv_de (de_tuple rfl T.n_tuple (db_dv (dv_lc [("good", 12)] rfl sc__law_is_basket_right.nd (di_range1 rfl T.n_range (da_cons (de_var 2) da_nil)) rfl (fun _ _ _ _ _ => (dg_name 12 sc__law_is_basket_right.nd)) (fun _ _ _ _ _ => dcs_nil) (fun _ _ _ _ _ => (de_dv (dv_callI 0 (ok__law_positive T) (room.mono (by decide)) gd rfl T.f__law_positive.g T.f__law_positive.F.kp T.f__law_positive.b da_nil lenNil))))))))))))
    (dss_cons (ds_asg (de_tup (da_cons (de_tuple rfl T.n_tuple (db_var 3)) (da_cons (de_tuple rfl T.n_tuple (db_var 4)) (da_cons (de_dv (dv_callI 0 (ok__law_draw T) (room.mono (by decide)) gd rfl T.f__law_draw.g T.f__law_draw.F.kp T.f__law_draw.b (da_cons (de_var 1) da_nil) (lenCons lenNil))) da_nil))) (lenCons (lenCons (lenCons lenNil)))) (dg_tup 3 rfl (dgs_cons (dg_name 3 sc__law_is_basket_right.nd) (dgs_cons (dg_name 4 sc__law_is_basket_right.nd) (dgs_cons (dg_name 5 sc__law_is_basket_right.nd) dgs_nil)))))
    (dss_cons (ds_set 6 sc__law_is_basket_right.nd (dv_lst da_nil lenNil))
    (dss_cons (ds_for PassesOwn.never rfl (di_seq (de_tup (da_cons de_str (da_cons de_str (da_cons (de_var 5) da_nil))) (lenCons (lenCons (lenCons lenNil))))) (dg_name 7 sc__law_is_basket_right.nd) (dss_cons (ds_expr (de_append 6 (dv_call (ok_basket_table T) (room.mono (by decide)) gd rfl T.f_basket_table.g T.f_basket_table.F.kp T.f_basket_table.b (da_cons (de_var 3) (da_cons (de_var 4) (da_cons (de_var 7) da_nil))) (lenCons (lenCons (lenCons lenNil))))))
    (dss_one (ds_if (dt_w (dw_or (dt_ne (hu64 room) (de_repr gd (hu64 room) rfl T.n_repr (db_de (de_ixV 6 (de_neg de_int)))) (de_repr gd (hu64 room) rfl T.n_repr (db_dv (dv_call (ok__law_table T) (room.mono (by decide)) gd rfl T.f__law_table.g T.f__law_table.F.kp T.f__law_table.b (da_cons (de_var 3) (da_cons (de_var 4) (da_cons (de_var 7) da_nil))) (lenCons (lenCons (lenCons lenNil))))))) (dw_or1 (dt_not (dt_of (db_dv (dv_call (ok__law_is_told T) (room.mono (by decide)) gd rfl T.f__law_is_told.g T.f__law_is_told.F.kp T.f__law_is_told.b (da_cons (de_ixV 6 (de_neg de_int)) da_nil) (lenCons lenNil)))))))) (dss_one (ds_ret (dv_de de_bl))) dss_nil))))
    (dss_cons (ds_set 8 sc__law_is_basket_right.nd (dv_lc [("row", 10)] rfl sc__law_is_basket_right.nd (di_seq (de_var 3)) rfl (fun _ _ _ _ _ => (dg_name 10 sc__law_is_basket_right.nd)) (fun _ _ _ _ _ => dcs_nil) (fun _ _ _ _ _ => (de_dv (dv_call (ok__law_dot T) (room.mono (by decide)) gd rfl T.f__law_dot.g T.f__law_dot.F.kp T.f__law_dot.b (da_cons (de_ixV 4 (de_var 5)) (da_cons (de_var 10) da_nil)) (lenCons (lenCons lenNil)))))))
    (dss_cons (ds_if (dt_ne (hu64 room) (de_dv (dv_call (ok_levels T) (room.mono (by decide)) gd rfl T.f_levels.g T.f_levels.F.kp T.f_levels.b (da_cons (de_ixV 6 de_int) da_nil) (lenCons lenNil))) (de_tup (da_cons de_str (da_cons (de_tuple rfl T.n_tuple (db_dv (dv_lc [("one", 13)] rfl sc__law_is_basket_right.nd (di_seq (de_var 8)) rfl (fun _ _ _ _ _ => (dg_name 13 sc__law_is_basket_right.nd)) (fun _ _ _ _ _ => dcs_nil) (fun _ _ _ _ _ => (de_dv (dv_call (ok__law_over T) (room.mono (by decide)) gd rfl T.f__law_over.g T.f__law_over.F.kp T.f__law_over.b (da_cons (de_var 13) (da_cons (de_ixV 8 de_int) da_nil)) (lenCons (lenCons lenNil)))))))) da_nil)) (lenCons (lenCons lenNil)))) (dss_one (ds_ret (dv_de de_bl))) dss_nil)
    (dss_cons (ds_if (dt_w (dw_and (dt_eq (hu64 room) (de_var 2) de_int) (dw_and1 (dt_ne (hu64 room) (de_dv (dv_lst (da_cons (de_ix (de_dv (dv_call (ok_levels T) (room.mono (by decide)) gd rfl T.f_levels.g T.f_levels.F.kp T.f_levels.b (da_cons (de_ixV 6 de_int) da_nil) (lenCons lenNil))) de_int) (da_cons (de_ix (de_dv (dv_call (ok_levels T) (room.mono (by decide)) gd rfl T.f_levels.g T.f_levels.F.kp T.f_levels.b (da_cons (de_ixV 6 de_int) da_nil) (lenCons lenNil))) de_int) da_nil)) (lenCons (lenCons lenNil)))) (de_dv (dv_lst (da_cons de_str (da_cons de_str da_nil)) (lenCons (lenCons lenNil)))))))) (dss_one (ds_ret (dv_de de_bl))) dss_nil)
    (dss_cons (ds_set 9 sc__law_is_basket_right.nd (dv_de (de_tuple rfl T.n_tuple (db_dv (dv_lc [("i", 11)] rfl sc__law_is_basket_right.nd (di_range1 rfl T.n_range (da_cons (de_var 1) da_nil)) rfl (fun _ _ _ _ _ => (dg_name 11 sc__law_is_basket_right.nd)) (fun _ _ _ _ _ => dcs_nil) (fun _ _ _ _ _ => (de_tuple rfl T.n_tuple (db_dv (dv_lc [("j", 14)] rfl sc__law_is_basket_right.nd (di_range1 rfl T.n_range (da_cons (de_var 1) da_nil)) rfl (fun _ _ _ _ _ => (dg_name 14 sc__law_is_basket_right.nd)) (fun _ _ _ _ _ => dcs_nil) (fun _ _ _ _ _ => (de_dv (dv_call (ok__law_over T) (room.mono (by decide)) gd rfl T.f__law_over.g T.f__law_over.F.kp T.f__law_over.b (da_cons (de_tup (da_cons de_int (da_cons de_int da_nil)) (lenCons (lenCons lenNil))) (da_cons (de_ix (de_ix (de_ixV 6 de_int) (de_var 14)) (de_var 11)) da_nil)) (lenCons (lenCons lenNil))))))))))))))
    (dss_one (ds_ret (dv_de (de_eq (hu64 room) (de_ixV 6 de_int) (de_var 9)))))))))))))))
theorem ok_law (T : Txt K mg) : FnG P w K mg base 8 T.f_law.f T.f_law.fd ["script"] (spP K 1 m_law) := by
  refine fnP_ok (b := b_law) (N := ["script", "hand", "turn", "many", "heights", "table", "again", "drawn", "i", "year", "j"]) (n := 1) T.f_law.F sc_law rfl ?_
  intro cd A outer st H room gd
  unfold b_law
  exact (dss_cons (ds_set 1 sc_law.nd (dv_call (ok__law_hand T) (room.mono (by decide)) gd rfl T.f__law_hand.g T.f__law_hand.F.kp T.f__law_hand.b (da_cons (de_var 0) da_nil) (lenCons lenNil)))
    (dss_cons (ds_for PassesOwn.never rfl (di_range1 rfl T.n_range (da_cons de_int da_nil)) (dg_name 2 sc_law.nd) (dss_cons (ds_set 3 sc_law.nd (dv_de (de_addA de_int (de_dv (dv_callI 1 (ok__law_draw T) (room.mono (by decide)) gd rfl T.f__law_draw.g T.f__law_draw.F.kp T.f__law_draw.b (da_cons (de_dv (dv_callI 1 (ok__law_any T) (room.mono (by decide)) gd rfl T.f__law_any.g T.f__law_any.F.kp T.f__law_any.b (da_cons (de_dv (dv_lst (da_cons de_int (da_cons de_int (da_cons de_int da_nil))) (lenCons (lenCons (lenCons lenNil))))) da_nil) (lenCons lenNil))) da_nil) (lenCons lenNil))))))
    (dss_cons (ds_set 4 sc_law.nd (dv_de (de_addA (de_tup (da_cons (de_tup (da_cons de_int (da_cons de_int da_nil)) (lenCons (lenCons lenNil))) da_nil) (lenCons lenNil)) (de_tuple rfl T.n_tuple (db_dv (dv_lc [("year", 9)] rfl sc_law.nd (di_range1 rfl T.n_range (da_cons (de_sub (de_var 3) de_int) da_nil)) rfl (fun _ _ _ _ _ => (dg_name 9 sc_law.nd)) (fun _ _ _ _ _ => dcs_nil) (fun _ _ _ _ _ => (de_dv (dv_callI 1 (ok__law_positive T) (room.mono (by decide)) gd rfl T.f__law_positive.g T.f__law_positive.F.kp T.f__law_positive.b da_nil lenNil)))))))))
    (dss_cons (ds_set 5 sc_law.nd (dv_call (ok__law_of T) (room.mono (by decide)) gd rfl T.f__law_of.g T.f__law_of.F.kp T.f__law_of.b (da_cons (de_var 4) da_nil) (lenCons lenNil)))
    (dss_cons (ds_if (dt_w (dw_or (dt_ne (hu64 room) (de_dv (dv_call (ok_levels T) (room.mono (by decide)) gd rfl T.f_levels.g T.f_levels.F.kp T.f_levels.b (da_cons (de_var 5) da_nil) (lenCons lenNil))) (de_tup (da_cons de_str (da_cons (de_var 4) da_nil)) (lenCons (lenCons lenNil)))) (dw_or1 (dt_not (dt_of (db_dv (dv_call (ok__law_is_told T) (room.mono (by decide)) gd rfl T.f__law_is_told.g T.f__law_is_told.F.kp T.f__law_is_told.b (da_cons (de_var 5) da_nil) (lenCons lenNil)))))))) (dss_one (ds_ret (dv_de de_bl))) dss_nil)
    (dss_cons (ds_for PassesOwn.never rfl (di_range1 rfl T.n_range (da_cons de_int da_nil)) (dg_name 6 sc_law.nd) (dss_one (ds_if (dt_not (dt_of (db_dv (dv_call (ok__law_is_told T) (room.mono (by decide)) gd rfl T.f__law_is_told.g T.f__law_is_told.F.kp T.f__law_is_told.b (da_cons (de_dv (dv_callI 1 (ok__law_spoiled T) (room.mono (by decide)) gd rfl T.f__law_spoiled.g T.f__law_spoiled.F.kp T.f__law_spoiled.b (da_cons (de_var 5) da_nil) (lenCons lenNil))) da_nil) (lenCons lenNil))))) (dss_one (ds_ret (dv_de de_bl))) dss_nil)))
    (dss_cons (ds_set 7 sc_law.nd (dv_de (de_tuple rfl T.n_tuple (db_dv (dv_lc [("i", 8)] rfl sc_law.nd (di_range1 rfl T.n_range (da_cons (de_var 3) da_nil)) rfl (fun _ _ _ _ _ => (dg_name 8 sc_law.nd)) (fun _ _ _ _ _ => dcs_nil) (fun _ _ _ _ _ => (de_tuple rfl T.n_tuple (db_dv (dv_lc [("j", 10)] rfl sc_law.nd (di_range1 rfl T.n_range (da_cons (de_var 3) da_nil)) rfl (fun _ _ _ _ _ => (dg_name 10 sc_law.nd)) (fun _ _ _ _ _ => dcs_nil) (fun _ _ _ _ _ => (de_dv (dv_callI 1 (ok__law_positive T) (room.mono (by decide)) gd rfl T.f__law_positive.g T.f__law_positive.F.kp T.f__law_positive.b da_nil lenNil))))))))))))
    (dss_one (ds_if (dt_w (dw_or (dt_not (dt_of (db_dv (dv_call (ok__law_is_told T) (room.mono (by decide)) gd rfl T.f__law_is_told.g T.f__law_is_told.F.kp T.f__law_is_told.b (da_cons (de_var 7) da_nil) (lenCons lenNil))))) (dw_or1 (dt_not (dt_of (db_dv (dv_callI 1 (ok__law_is_basket_right T) (room.mono (by decide)) gd rfl T.f__law_is_basket_right.g T.f__law_is_basket_right.F.kp T.f__law_is_basket_right.b da_nil lenNil))))))) (dss_one (ds_ret (dv_de de_bl))) dss_nil)))))))))
    (dss_one (ds_ret (dv_de de_bl)))))
end
end K85
set_option Elab.async false
set_option linter.all false
set_option maxRecDepth 100000
namespace K85
open PySem Dl

theorem gcd_fmod (a b : Int) : Int.gcd b (a.fmod b) = Int.gcd a b := by
  rw [Int.fmod_def, Int.gcd_sub_mul_left_right, Int.gcd_comm]
theorem fmod_lt (a b : Int) (h : b ≠ 0) : (a.fmod b).natAbs < b.natAbs := by
  rcases Int.lt_or_gt_of_ne h with h | h
  · have e : a.fmod b = -((-a).fmod (-b)) := by rw [Int.neg_fmod_neg]; omega
    have h1 := Int.fmod_nonneg_of_pos (-a) (b := -b) (by omega)
    have h2 := Int.fmod_lt_of_pos (-a) (b := -b) (by omega)
    omega
  · have h1 := Int.fmod_nonneg_of_pos a h
    have h2 := Int.fmod_lt_of_pos a h
    omega
theorem common_loop : ∀ (n : Nat) (a b : Int), b.natAbs ≤ n → ∃ c : Int, c.natAbs = Int.gcd a b ∧
    sWhile (tOf (eBin neD (eVar 1) (eC (.int 0)))) (sPar 0 1 (vE (eVar 1)) (vE (eBin modD (eVar 0) (eVar 1)))) [.v (.int a), .v (.int b)] = some (.nx [.v (.int c), .v (.int 0)]) := by
  intro n
  induction n with
  | zero =>
    intro a b h
    have : b = 0 := by omega
    subst this
    refine ⟨a, by simp, sWhile_stop ?_⟩
    simp [fnP, runG, sSeq, sIf, sNil, sRet, sRetV, sSet, setOut, sPar, parOut, sEx, eVar, bVar, eC, eV, dat, vE, eBin, eUn, eTup, vLst, aCons, aNil, eIxV, slD, atD, L2.atI, L2.ixN, eCall, tOf, truD, Dl.tAndT, Dl.tOrT, Dl.tNotT, eAnd, eOr, eIf, notD, eChain, addA_int, subD, negD, absD, lenD, Dl.intD, tupD, cmpD, eqD_ii, neD_ii, eqD_ss, neD_ss, isi_ii, isi_ib, isi_is, isi_it, isi_tt, isi_ti, isi_ts, isi_ss, isi_si, isi_st]
  | succ n ih =>
    intro a b h
    by_cases hb : b = 0
    · subst hb
      refine ⟨a, by simp, sWhile_stop ?_⟩
      simp [fnP, runG, sSeq, sIf, sNil, sRet, sRetV, sSet, setOut, sPar, parOut, sEx, eVar, bVar, eC, eV, dat, vE, eBin, eUn, eTup, vLst, aCons, aNil, eIxV, slD, atD, L2.atI, L2.ixN, eCall, tOf, truD, Dl.tAndT, Dl.tOrT, Dl.tNotT, eAnd, eOr, eIf, notD, eChain, addA_int, subD, negD, absD, lenD, Dl.intD, tupD, cmpD, eqD_ii, neD_ii, eqD_ss, neD_ss, isi_ii, isi_ib, isi_is, isi_it, isi_tt, isi_ti, isi_ts, isi_ss, isi_si, isi_st]
    · have := fmod_lt a b hb
      obtain ⟨c, h1, h2⟩ := ih b (a.fmod b) (by omega)
      refine ⟨c, by rw [h1, gcd_fmod], ?_⟩
      refine sWhile_nx (g1 := [.v (.int a), .v (.int b)]) ?_ ?_ h2
      · simp [fnP, runG, sSeq, sIf, sNil, sRet, sRetV, sSet, setOut, sPar, parOut, sEx, eVar, bVar, eC, eV, dat, vE, eBin, eUn, eTup, vLst, aCons, aNil, eIxV, slD, atD, L2.atI, L2.ixN, eCall, tOf, truD, Dl.tAndT, Dl.tOrT, Dl.tNotT, eAnd, eOr, eIf, notD, eChain, addA_int, subD, negD, absD, lenD, Dl.intD, tupD, cmpD, eqD_ii, neD_ii, eqD_ss, neD_ss, isi_ii, isi_ib, isi_is, isi_it, isi_tt, isi_ti, isi_ts, isi_ss, isi_si, isi_st, hb]
      · simp [fnP, runG, sSeq, sIf, sNil, sRet, sRetV, sSet, setOut, sPar, parOut, sEx, eVar, bVar, eC, eV, dat, vE, eBin, eUn, eTup, vLst, aCons, aNil, eIxV, slD, atD, L2.atI, L2.ixN, eCall, tOf, truD, Dl.tAndT, Dl.tOrT, Dl.tNotT, eAnd, eOr, eIf, notD, eChain, addA_int, subD, negD, absD, lenD, Dl.intD, tupD, cmpD, eqD_ii, neD_ii, eqD_ss, neD_ss, isi_ii, isi_ib, isi_is, isi_it, isi_tt, isi_ti, isi_ts, isi_ss, isi_si, isi_st, modD, hb]
theorem common_ok (a b : Int) : m_common [.int a, .int b] = some (.v (.int (Int.gcd a b))) := by
  obtain ⟨c, h1, h2⟩ := common_loop _ a b (Nat.le_refl _)
  unfold m_common b_common
  simp [fnP, runG, sSeq, sIf, sNil, sRet, sRetV, sSet, setOut, sPar, parOut, sEx, eVar, bVar, eC, eV, dat, vE, eBin, eUn, eTup, vLst, aCons, aNil, eIxV, slD, atD, L2.atI, L2.ixN, eCall, tOf, truD, Dl.tAndT, Dl.tOrT, Dl.tNotT, eAnd, eOr, eIf, notD, eChain, addA_int, subD, negD, absD, lenD, Dl.intD, tupD, cmpD, eqD_ii, neD_ii, eqD_ss, neD_ss, isi_ii, isi_ib, isi_is, isi_it, isi_tt, isi_ti, isi_ts, isi_ss, isi_si, isi_st, h2]
  omega
theorem low_loop (x y : Sl) : ∀ (n : Nat) (a b : Int), b.natAbs ≤ n → 0 ≤ a → 0 ≤ b →
    sWhile (tOf (eBin neD (eVar 3) (eC (.int 0)))) (sPar 2 3 (vE (eVar 3)) (vE (eBin modD (eUn intD (bVar 2)) (eVar 3)))) [x, y, .v (.int a), .v (.int b)] = some (.nx [x, y, .v (.int (Int.gcd a b)), .v (.int 0)]) := by
  intro n
  induction n with
  | zero =>
    intro a b h h0 h1
    have : b = 0 := by omega
    subst this
    refine sWhile_stop ?_
    have e : ((Int.gcd a 0 : Nat) : Int) = a := by simp; omega
    simp [fnP, runG, sSeq, sIf, sNil, sRet, sRetV, sSet, setOut, sPar, parOut, sEx, eVar, bVar, eC, eV, dat, vE, eBin, eUn, eTup, vLst, aCons, aNil, eIxV, slD, atD, L2.atI, L2.ixN, eCall, tOf, truD, Dl.tAndT, Dl.tOrT, Dl.tNotT, eAnd, eOr, eIf, notD, eChain, addA_int, subD, negD, absD, lenD, Dl.intD, tupD, cmpD, eqD_ii, neD_ii, eqD_ss, neD_ss, isi_ii, isi_ib, isi_is, isi_it, isi_tt, isi_ti, isi_ts, isi_ss, isi_si, isi_st, e]
    omega
  | succ n ih =>
    intro a b h h0 hb0
    by_cases hb : b = 0
    · subst hb
      refine sWhile_stop ?_
      have e : ((Int.gcd a 0 : Nat) : Int) = a := by simp; omega
      simp [fnP, runG, sSeq, sIf, sNil, sRet, sRetV, sSet, setOut, sPar, parOut, sEx, eVar, bVar, eC, eV, dat, vE, eBin, eUn, eTup, vLst, aCons, aNil, eIxV, slD, atD, L2.atI, L2.ixN, eCall, tOf, truD, Dl.tAndT, Dl.tOrT, Dl.tNotT, eAnd, eOr, eIf, notD, eChain, addA_int, subD, negD, absD, lenD, Dl.intD, tupD, cmpD, eqD_ii, neD_ii, eqD_ss, neD_ss, isi_ii, isi_ib, isi_is, isi_it, isi_tt, isi_ti, isi_ts, isi_ss, isi_si, isi_st, e]
      omega
    · have := fmod_lt a b hb
      have h2 := ih b (a.fmod b) (by omega) hb0 (Int.fmod_nonneg h0 hb0)
      rw [gcd_fmod] at h2
      refine sWhile_nx (g1 := [x, y, .v (.int a), .v (.int b)]) ?_ ?_ h2
      · simp [fnP, runG, sSeq, sIf, sNil, sRet, sRetV, sSet, setOut, sPar, parOut, sEx, eVar, bVar, eC, eV, dat, vE, eBin, eUn, eTup, vLst, aCons, aNil, eIxV, slD, atD, L2.atI, L2.ixN, eCall, tOf, truD, Dl.tAndT, Dl.tOrT, Dl.tNotT, eAnd, eOr, eIf, notD, eChain, addA_int, subD, negD, absD, lenD, Dl.intD, tupD, cmpD, eqD_ii, neD_ii, eqD_ss, neD_ss, isi_ii, isi_ib, isi_is, isi_it, isi_tt, isi_ti, isi_ts, isi_ss, isi_si, isi_st, hb]
      · simp [fnP, runG, sSeq, sIf, sNil, sRet, sRetV, sSet, setOut, sPar, parOut, sEx, eVar, bVar, eC, eV, dat, vE, eBin, eUn, eTup, vLst, aCons, aNil, eIxV, slD, atD, L2.atI, L2.ixN, eCall, tOf, truD, Dl.tAndT, Dl.tOrT, Dl.tNotT, eAnd, eOr, eIf, notD, eChain, addA_int, subD, negD, absD, lenD, Dl.intD, tupD, cmpD, eqD_ii, neD_ii, eqD_ss, neD_ss, isi_ii, isi_ib, isi_is, isi_it, isi_tt, isi_ti, isi_ts, isi_ss, isi_si, isi_st, modD, hb]

/-! ### shares as rationals -/
def qD (r : Rat) : D := .tuple [.int r.num, .int r.den]
theorem fdiv_gcd {a b : Int} (hb : 0 < b) : a.fdiv (Int.gcd a b) = (Rat.divInt a b).num ∧ b.fdiv (Int.gcd a b) = (Rat.divInt a b).den := by
  have h1 : (0 : Int) ≤ (Int.gcd a b : Nat) := by omega
  rw [Int.fdiv_eq_ediv_of_nonneg _ h1, Int.fdiv_eq_ediv_of_nonneg _ h1, Rat.num_divInt, Rat.den_divInt]
  have h2 : b ≠ 0 := by omega
  rw [if_neg h2, Int.sign_eq_one_of_pos hb, Int.one_mul, Int.gcd_comm a b]
  refine ⟨rfl, ?_⟩
  rw [Int.natCast_ediv]
  have : (b.natAbs : Int) = b := by omega
  rw [this]
theorem gcd_okD {a b : Int} (hb : 0 < b) (hB : b.natAbs < 2 ^ 8900) : DivOk (Int.gcd a b) = true := by
  have h1 : Int.gcd a b ≤ b.natAbs := Nat.le_of_dvd (by omega) (by rw [← Int.natAbs_natCast (Int.gcd a b)]; exact Int.natAbs_dvd_natAbs.mpr (Int.gcd_dvd_right ..))
  have h2 : 0 < Int.gcd a b := Int.gcd_pos_of_ne_zero_right _ (by omega)
  have h3 := log_lt (k := 8900) (by decide) (Nat.lt_of_le_of_lt h1 hB)
  unfold DivOk
  simp
  omega
theorem low_ok {a b : Int} (hb : 0 < b) (hB : b.natAbs < 2 ^ 8900) : m__law_low [.int a, .int b] = some (.v (qD (Rat.divInt a b))) := by
  have e1 : (if a < 0 then -a else a) = (a.natAbs : Int) := by split <;> omega
  have e2 : (if b < 0 then -b else b) = (b.natAbs : Int) := by split <;> omega
  have h2 := low_loop (.v (.int a)) (.v (.int b)) _ (a.natAbs : Int) (b.natAbs : Int) (Nat.le_refl _) (by omega) (by omega)
  have e3 : Int.gcd (a.natAbs : Int) (b.natAbs : Int) = Int.gcd a b := by simp [Int.gcd]
  rw [e3] at h2
  obtain ⟨k1, k2⟩ := fdiv_gcd (a := a) hb
  have k3 := gcd_okD (a := a) hb hB
  unfold m__law_low b__law_low
  simp [fnP, runG, sSeq, sIf, sNil, sRet, sRetV, sSet, setOut, sPar, parOut, sEx, eVar, bVar, eC, eV, dat, vE, eBin, eUn, eTup, vLst, aCons, aNil, eIxV, slD, atD, L2.atI, L2.ixN, eCall, tOf, truD, Dl.tAndT, Dl.tOrT, Dl.tNotT, eAnd, eOr, eIf, notD, eChain, addA_int, subD, negD, absD, lenD, Dl.intD, tupD, cmpD, eqD_ii, neD_ii, eqD_ss, neD_ss, isi_ii, isi_ib, isi_is, isi_it, isi_tt, isi_ti, isi_ts, isi_ss, isi_si, isi_st, e1, e2, h2, hb, fdivD, k3, k1, k2, qD]
theorem share_ok {a b : Int} (hb : 0 < b) (hB : b.natAbs < 2 ^ 8900) : m_share [.int a, .int b] = some (.v (qD (Rat.divInt a b))) := by
  obtain ⟨k1, k2⟩ := fdiv_gcd (a := a) hb
  have k3 := gcd_okD (a := a) hb hB
  have hb2 : ¬ b < 0 := by omega
  unfold m_share b_share
  simp [fnP, runG, sSeq, sIf, sNil, sRet, sRetV, sSet, setOut, sPar, parOut, sEx, eVar, bVar, eC, eV, dat, vE, eBin, eUn, eTup, vLst, aCons, aNil, eIxV, slD, atD, L2.atI, L2.ixN, eCall, tOf, truD, Dl.tAndT, Dl.tOrT, Dl.tNotT, eAnd, eOr, eIf, notD, eChain, addA_int, subD, negD, absD, lenD, Dl.intD, tupD, cmpD, eqD_ii, neD_ii, eqD_ss, neD_ss, isi_ii, isi_ib, isi_is, isi_it, isi_tt, isi_ti, isi_ts, isi_ss, isi_si, isi_st, common_ok, hb2, fdivD, k3, k1, k2, qD]
end K85
set_option Elab.async false
set_option linter.all false
set_option maxRecDepth 100000
namespace K85
open PySem Dl

/-! ### bounds -/
structure Bd (k : Nat) (r : Rat) : Prop where
  num : r.num.natAbs < 2 ^ k
  den : r.den < 2 ^ k
  pos : 0 < r.num
theorem Bd.mono {j k : Nat} {r : Rat} (h : Bd j r) (e : j ≤ k) : Bd k r := by
  have := Nat.pow_le_pow_right (n := 2) (by decide) e
  exact ⟨by have := h.num; omega, by have := h.den; omega, h.pos⟩
theorem Bd.rpos {k : Nat} {r : Rat} (h : Bd k r) : 0 < r := by
  rw [Rat.lt_iff]
  have := h.pos
  simpa using this
theorem divInt_bd {a b : Int} {k : Nat} (ha : 0 < a) (hb : 0 < b) (h1 : a.natAbs < 2 ^ k) (h2 : b.natAbs < 2 ^ k) : Bd k (Rat.divInt a b) := by
  have g0 : 0 < Int.gcd b a := Int.gcd_pos_of_ne_zero_left _ (by omega)
  have g1 : ((Int.gcd b a : Nat) : Int) ∣ a := Int.gcd_dvd_right ..
  have g2 : ((Int.gcd b a : Nat) : Int) ∣ b := Int.gcd_dvd_left ..
  have en : (Rat.divInt a b).num = a / (Int.gcd b a : Nat) := by rw [Rat.num_divInt, Int.sign_eq_one_of_pos hb, Int.one_mul]
  have ed : (Rat.divInt a b).den = b.natAbs / Int.gcd b a := by rw [Rat.den_divInt, if_neg (by omega)]
  refine ⟨?_, ?_, ?_⟩
  · rw [en]
    have : (a / ((Int.gcd b a : Nat) : Int)).natAbs ≤ a.natAbs := by
      have := Int.natAbs_ediv_le_natAbs a ((Int.gcd b a : Nat) : Int)
      exact this
    omega
  · rw [ed]
    exact Nat.lt_of_le_of_lt (Nat.div_le_self ..) h2
  · rw [en]
    obtain ⟨c, hc⟩ := g1
    have hg : (0 : Int) < (Int.gcd b a : Nat) := by omega
    have : a / ((Int.gcd b a : Nat) : Int) = c := by
      rw [hc]
      rw [← hc]
      exact Int.ediv_eq_of_eq_mul_right (by omega) hc
    rw [this]
    rw [hc] at ha
    exact Int.pos_of_mul_pos_right ha hg
theorem mul_rat (r s : Rat) : Rat.divInt (r.num * s.num) ((r.den : Int) * (s.den : Int)) = r * s := by
  rw [Rat.mul_def', ← Int.natCast_mul, Rat.divInt_ofNat]
theorem add_rat (r s : Rat) : Rat.divInt (r.num * (s.den : Int) + s.num * (r.den : Int)) ((r.den : Int) * (s.den : Int)) = r + s := by
  rw [Rat.add_def', ← Int.natCast_mul, Rat.divInt_ofNat]
theorem add_rat' (r s : Rat) (h : r.den = s.den) : Rat.divInt (r.num + s.num) (r.den : Int) = r + s := by
  have hd : (r.den : Int) ≠ 0 := by have := r.den_pos; omega
  rw [← add_rat, ← h, ← Int.add_mul, Rat.divInt_mul_right hd]
theorem div_rat (r s : Rat) : Rat.divInt (r.num * (s.den : Int)) ((r.den : Int) * s.num) = r / s := by
  have h := Rat.divInt_mul_divInt r.num (s.den : Int) (d₁ := (r.den : Int)) (d₂ := s.num)
  rw [← h, Rat.num_divInt_den, Rat.div_def, Rat.inv_def]
theorem natAbs_lt {n m : Nat} (h : n < m) : ((n : Nat) : Int).natAbs < m := by rw [Int.natAbs_natCast]; exact h
theorem lt_mul2 {a b c d : Nat} (h1 : a < 2 ^ c) (h2 : b < 2 ^ d) : a * b < 2 ^ (c + d) := by
  rw [Nat.pow_add]
  exact Nat.mul_lt_mul'' h1 h2
theorem Bd.mul {j k : Nat} {r s : Rat} (hr : Bd j r) (hs : Bd k s) : Bd (j + k) (r * s) := by
  rw [← mul_rat]
  refine divInt_bd (Int.mul_pos hr.pos hs.pos) (Int.mul_pos (by have := r.den_pos; omega) (by have := s.den_pos; omega)) ?_ ?_
  · rw [Int.natAbs_mul]; exact lt_mul2 hr.num hs.num
  · rw [Int.natAbs_mul]; exact lt_mul2 (natAbs_lt hr.den) (natAbs_lt hs.den)
theorem Bd.div {j k : Nat} {r s : Rat} (hr : Bd j r) (hs : Bd k s) : Bd (j + k) (r / s) := by
  rw [← div_rat]
  refine divInt_bd (Int.mul_pos hr.pos (by have := s.den_pos; omega)) (Int.mul_pos (by have := r.den_pos; omega) hs.pos) ?_ ?_
  · rw [Int.natAbs_mul]; exact lt_mul2 hr.num (natAbs_lt hs.den)
  · rw [Int.natAbs_mul]; exact lt_mul2 (natAbs_lt hr.den) hs.num
theorem Bd.add {j k : Nat} {r s : Rat} (hr : Bd j r) (hs : Bd k s) : Bd (j + k + 1) (r + s) := by
  rw [← add_rat]
  have hrd := r.den_pos
  have hsd := s.den_pos
  refine divInt_bd (Int.add_pos (Int.mul_pos hr.pos (by omega)) (Int.mul_pos hs.pos (by omega))) (Int.mul_pos (by omega) (by omega)) ?_ ?_
  · have h1 := lt_mul2 hr.num hs.den
    have h2 := lt_mul2 hs.num hr.den
    rw [Nat.add_comm k j] at h2
    have h3 := Int.natAbs_add_le (r.num * (s.den : Int)) (s.num * (r.den : Int))
    rw [Int.natAbs_mul, Int.natAbs_mul] at h3
    simp only [Int.natAbs_natCast] at h3
    rw [Nat.pow_succ]
    omega
  · rw [Int.natAbs_mul]
    have h1 := lt_mul2 hr.den hs.den
    simp only [Int.natAbs_natCast]
    rw [Nat.pow_succ]
    omega

/-! ### the program's and the law's fractions -/
theorem mulOk_of {a b : Int} (h1 : a.natAbs < 2 ^ 4000) (h2 : b.natAbs < 2 ^ 4000) : Dl.MulOk a b = true := by
  have := log_lt (by decide) h1
  have := log_lt (by decide) h2
  unfold Dl.MulOk
  simp only [Bool.or_eq_true, decide_eq_true_eq]
  left; left
  omega
section
variable {r s : Rat} (hr : Bd 4000 r) (hs : Bd 4000 s)
include hr hs
theorem bnd1 : ((r.den : Int) * (s.den : Int)).natAbs < 2 ^ 8900 := by
  rw [Int.natAbs_mul]
  exact Nat.lt_of_lt_of_le (lt_mul2 (natAbs_lt hr.den) (natAbs_lt hs.den)) (Nat.pow_le_pow_right (by decide) (by decide))
theorem bnd2 : ((r.den : Int) * s.num).natAbs < 2 ^ 8900 := by
  rw [Int.natAbs_mul]
  exact Nat.lt_of_lt_of_le (lt_mul2 (natAbs_lt hr.den) hs.num) (Nat.pow_le_pow_right (by decide) (by decide))
theorem dpos : 0 < (r.den : Int) * (s.den : Int) := Int.mul_pos (by have := r.den_pos; omega) (by have := s.den_pos; omega)
theorem dpos2 : 0 < (r.den : Int) * s.num := Int.mul_pos (by have := r.den_pos; omega) hs.pos
theorem law_mul_ok : m__law_mul [qD r, qD s] = some (.v (qD (r * s))) := by
  have k1 := mulOk_of hr.num hs.num
  have k2 := mulOk_of (a := (r.den : Int)) (b := (s.den : Int)) (natAbs_lt hr.den) (natAbs_lt hs.den)
  have k3 := low_ok (a := r.num * s.num) (dpos hr hs) (bnd1 hr hs)
  rw [mul_rat] at k3
  unfold m__law_mul b__law_mul qD
  simp [fnP, runG, sSeq, sIf, sNil, sRet, sRetV, sSet, setOut, sPar, parOut, sEx, eVar, bVar, eC, eV, dat, vE, eBin, eUn, eTup, vLst, aCons, aNil, eIxV, slD, atD, L2.atI, L2.ixN, eCall, tOf, truD, Dl.tAndT, Dl.tOrT, Dl.tNotT, eAnd, eOr, eIf, notD, eChain, addA_int, subD, negD, absD, lenD, Dl.intD, tupD, cmpD, eqD_ii, neD_ii, eqD_ss, neD_ss, isi_ii, isi_ib, isi_is, isi_it, isi_tt, isi_ti, isi_ts, isi_ss, isi_si, isi_st, mulD, k1, k2, k3]
  rfl
theorem times_ok : m_times [qD r, qD s] = some (.v (qD (r * s))) := by
  have k1 := mulOk_of hr.num hs.num
  have k2 := mulOk_of (a := (r.den : Int)) (b := (s.den : Int)) (natAbs_lt hr.den) (natAbs_lt hs.den)
  have k3 := share_ok (a := r.num * s.num) (dpos hr hs) (bnd1 hr hs)
  rw [mul_rat] at k3
  unfold m_times b_times qD
  simp [fnP, runG, sSeq, sIf, sNil, sRet, sRetV, sSet, setOut, sPar, parOut, sEx, eVar, bVar, eC, eV, dat, vE, eBin, eUn, eTup, vLst, aCons, aNil, eIxV, slD, atD, L2.atI, L2.ixN, eCall, tOf, truD, Dl.tAndT, Dl.tOrT, Dl.tNotT, eAnd, eOr, eIf, notD, eChain, addA_int, subD, negD, absD, lenD, Dl.intD, tupD, cmpD, eqD_ii, neD_ii, eqD_ss, neD_ss, isi_ii, isi_ib, isi_is, isi_it, isi_tt, isi_ti, isi_ts, isi_ss, isi_si, isi_st, mulD, k1, k2, k3]
  rfl
theorem law_over_ok : m__law_over [qD r, qD s] = some (.v (qD (r / s))) := by
  have k1 := mulOk_of (a := r.num) (b := (s.den : Int)) hr.num (natAbs_lt hs.den)
  have k2 := mulOk_of (a := (r.den : Int)) (b := s.num) (natAbs_lt hr.den) hs.num
  have k3 := low_ok (a := r.num * (s.den : Int)) (dpos2 hr hs) (bnd2 hr hs)
  rw [div_rat] at k3
  unfold m__law_over b__law_over qD
  simp [fnP, runG, sSeq, sIf, sNil, sRet, sRetV, sSet, setOut, sPar, parOut, sEx, eVar, bVar, eC, eV, dat, vE, eBin, eUn, eTup, vLst, aCons, aNil, eIxV, slD, atD, L2.atI, L2.ixN, eCall, tOf, truD, Dl.tAndT, Dl.tOrT, Dl.tNotT, eAnd, eOr, eIf, notD, eChain, addA_int, subD, negD, absD, lenD, Dl.intD, tupD, cmpD, eqD_ii, neD_ii, eqD_ss, neD_ss, isi_ii, isi_ib, isi_is, isi_it, isi_tt, isi_ti, isi_ts, isi_ss, isi_si, isi_st, mulD, k1, k2, k3]
  rfl
theorem over_ok : m_over [qD r, qD s] = some (.v (qD (r / s))) := by
  have k1 := mulOk_of (a := r.num) (b := (s.den : Int)) hr.num (natAbs_lt hs.den)
  have k2 := mulOk_of (a := (r.den : Int)) (b := s.num) (natAbs_lt hr.den) hs.num
  have k3 := share_ok (a := r.num * (s.den : Int)) (dpos2 hr hs) (bnd2 hr hs)
  rw [div_rat] at k3
  unfold m_over b_over qD
  simp [fnP, runG, sSeq, sIf, sNil, sRet, sRetV, sSet, setOut, sPar, parOut, sEx, eVar, bVar, eC, eV, dat, vE, eBin, eUn, eTup, vLst, aCons, aNil, eIxV, slD, atD, L2.atI, L2.ixN, eCall, tOf, truD, Dl.tAndT, Dl.tOrT, Dl.tNotT, eAnd, eOr, eIf, notD, eChain, addA_int, subD, negD, absD, lenD, Dl.intD, tupD, cmpD, eqD_ii, neD_ii, eqD_ss, neD_ss, isi_ii, isi_ib, isi_is, isi_it, isi_tt, isi_ti, isi_ts, isi_ss, isi_si, isi_st, mulD, k1, k2, k3]
  rfl
end
/-- the same, the one may be nought -/
structure B0 (k : Nat) (r : Rat) : Prop where
  num : r.num.natAbs < 2 ^ k
  den : r.den < 2 ^ k
theorem Bd.b0 {k : Nat} {r : Rat} (h : Bd k r) : B0 k r := ⟨h.num, h.den⟩
section
variable {r s : Rat} (hr : B0 4000 r) (hs : B0 4000 s)
include hr hs
theorem bnd1' : ((r.den : Int) * (s.den : Int)).natAbs < 2 ^ 8900 := by
  rw [Int.natAbs_mul]
  exact Nat.lt_of_lt_of_le (lt_mul2 (natAbs_lt hr.den) (natAbs_lt hs.den)) (Nat.pow_le_pow_right (by decide) (by decide))
theorem dpos' : 0 < (r.den : Int) * (s.den : Int) := Int.mul_pos (by have := r.den_pos; omega) (by have := s.den_pos; omega)
theorem law_add_ok : m__law_add [qD r, qD s] = some (.v (qD (r + s))) := by
  have k1 := mulOk_of (a := r.num) (b := (s.den : Int)) hr.num (natAbs_lt hs.den)
  have k2 := mulOk_of (a := s.num) (b := (r.den : Int)) hs.num (natAbs_lt hr.den)
  have k3 := mulOk_of (a := (r.den : Int)) (b := (s.den : Int)) (natAbs_lt hr.den) (natAbs_lt hs.den)
  have k4 := low_ok (a := r.num * (s.den : Int) + s.num * (r.den : Int)) (dpos' hr hs) (bnd1' hr hs)
  rw [add_rat] at k4
  unfold m__law_add b__law_add qD
  simp [fnP, runG, sSeq, sIf, sNil, sRet, sRetV, sSet, setOut, sPar, parOut, sEx, eVar, bVar, eC, eV, dat, vE, eBin, eUn, eTup, vLst, aCons, aNil, eIxV, slD, atD, L2.atI, L2.ixN, eCall, tOf, truD, Dl.tAndT, Dl.tOrT, Dl.tNotT, eAnd, eOr, eIf, notD, eChain, addA_int, subD, negD, absD, lenD, Dl.intD, tupD, cmpD, eqD_ii, neD_ii, eqD_ss, neD_ss, isi_ii, isi_ib, isi_is, isi_it, isi_tt, isi_ti, isi_ts, isi_ss, isi_si, isi_st, mulD, k1, k2, k3, k4]
  rfl
theorem plus_ok : m_plus [qD r, qD s] = some (.v (qD (r + s))) := by
  have k1 := mulOk_of (a := r.num) (b := (s.den : Int)) hr.num (natAbs_lt hs.den)
  have k2 := mulOk_of (a := s.num) (b := (r.den : Int)) hs.num (natAbs_lt hr.den)
  have k3 := mulOk_of (a := (r.den : Int)) (b := (s.den : Int)) (natAbs_lt hr.den) (natAbs_lt hs.den)
  have k4 := share_ok (a := r.num * (s.den : Int) + s.num * (r.den : Int)) (dpos' hr hs) (bnd1' hr hs)
  rw [add_rat] at k4
  by_cases h : r.den = s.den
  · have k5 := share_ok (a := r.num + s.num) (b := (r.den : Int)) (by have := r.den_pos; omega) (by
      have := hr.den
      have : (2:Nat) ^ 4000 ≤ 2 ^ 8900 := Nat.pow_le_pow_right (by decide) (by decide)
      simp only [Int.natAbs_natCast]; omega)
    rw [add_rat' _ _ h] at k5
    unfold m_plus b_plus qD
    have h' : (r.den : Int) = (s.den : Int) := by omega
    rw [h'] at k5
    rw [h']
    simp [fnP, runG, sSeq, sIf, sNil, sRet, sRetV, sSet, setOut, sPar, parOut, sEx, eVar, bVar, eC, eV, dat, vE, eBin, eUn, eTup, vLst, aCons, aNil, eIxV, slD, atD, L2.atI, L2.ixN, eCall, tOf, truD, Dl.tAndT, Dl.tOrT, Dl.tNotT, eAnd, eOr, eIf, notD, eChain, addA_int, subD, negD, absD, lenD, Dl.intD, tupD, cmpD, eqD_ii, neD_ii, eqD_ss, neD_ss, isi_ii, isi_ib, isi_is, isi_it, isi_tt, isi_ti, isi_ts, isi_ss, isi_si, isi_st, mulD, k5]
    rfl
  · have h' : ¬ (r.den : Int) = (s.den : Int) := by omega
    unfold m_plus b_plus qD
    simp [fnP, runG, sSeq, sIf, sNil, sRet, sRetV, sSet, setOut, sPar, parOut, sEx, eVar, bVar, eC, eV, dat, vE, eBin, eUn, eTup, vLst, aCons, aNil, eIxV, slD, atD, L2.atI, L2.ixN, eCall, tOf, truD, Dl.tAndT, Dl.tOrT, Dl.tNotT, eAnd, eOr, eIf, notD, eChain, addA_int, subD, negD, absD, lenD, Dl.intD, tupD, cmpD, eqD_ii, neD_ii, eqD_ss, neD_ss, isi_ii, isi_ib, isi_is, isi_it, isi_tt, isi_ti, isi_ts, isi_ss, isi_si, isi_st, mulD, h, h', k1, k2, k3, k4]
    rfl
end
end K85
set_option Elab.async false
set_option linter.all false
set_option maxRecDepth 100000
namespace K85
open PySem Dl

/-! ### the program's looks at its arguments -/
theorem is_integer_ok (i : Int) : m_is_integer [.int i] = some (.v (.bool true)) := by
  unfold m_is_integer b_is_integer
  simp [fnP, runG, sSeq, sIf, sNil, sRet, sRetV, sSet, setOut, sPar, parOut, sEx, eVar, bVar, eC, eV, dat, vE, eBin, eUn, eTup, vLst, aCons, aNil, eIxV, slD, atD, L2.atI, L2.ixN, eCall, tOf, truD, Dl.tAndT, Dl.tOrT, Dl.tNotT, eAnd, eOr, eIf, notD, eChain, addA_int, subD, negD, absD, lenD, Dl.intD, tupD, cmpD, eqD_ii, neD_ii, eqD_ss, neD_ss, isi_ii, isi_ib, isi_is, isi_it, isi_tt, isi_ti, isi_ts, isi_ss, isi_si, isi_st]
theorem is_sized_ok (l : List D) (lo hi : Int) (h1 : lo ≤ (l.length : Nat)) (h2 : ((l.length : Nat) : Int) ≤ hi) : m_is_sized [.tuple l, .int lo, .int hi] = some (.v (.bool true)) := by
  unfold m_is_sized b_is_sized
  simp [fnP, runG, sSeq, sIf, sNil, sRet, sRetV, sSet, setOut, sPar, parOut, sEx, eVar, bVar, eC, eV, dat, vE, eBin, eUn, eTup, vLst, aCons, aNil, eIxV, slD, atD, L2.atI, L2.ixN, eCall, tOf, truD, Dl.tAndT, Dl.tOrT, Dl.tNotT, eAnd, eOr, eIf, notD, eChain, addA_int, subD, negD, absD, lenD, Dl.intD, tupD, cmpD, eqD_ii, neD_ii, eqD_ss, neD_ss, isi_ii, isi_ib, isi_is, isi_it, isi_tt, isi_ti, isi_ts, isi_ss, isi_si, isi_st, h1, h2]
theorem red (r : Rat) : Int.gcd r.num (r.den : Int) = 1 := by
  have := r.reduced
  simpa [Int.gcd] using this
theorem is_share_ok (r : Rat) : m_is_share [qD r] = some (.v (.bool true)) := by
  have h1 := is_sized_ok [.int r.num, .int (r.den : Int)] 2 2 (by simp) (by simp)
  have h2 := common_ok r.num (r.den : Int)
  have h3 : 0 < r.den := r.den_pos
  rw [red] at h2
  unfold m_is_share b_is_share qD
  simp [fnP, runG, sSeq, sIf, sNil, sRet, sRetV, sSet, setOut, sPar, parOut, sEx, eVar, bVar, eC, eV, dat, vE, eBin, eUn, eTup, vLst, aCons, aNil, eIxV, slD, atD, L2.atI, L2.ixN, eCall, tOf, truD, Dl.tAndT, Dl.tOrT, Dl.tNotT, eAnd, eOr, eIf, notD, eChain, addA_int, subD, negD, absD, lenD, Dl.intD, tupD, cmpD, eqD_ii, neD_ii, eqD_ss, neD_ss, isi_ii, isi_ib, isi_is, isi_it, isi_tt, isi_ti, isi_ts, isi_ss, isi_si, isi_st, h1, h2, is_integer_ok, h3]
theorem is_positive_ok {r : Rat} {k : Nat} (h : Bd k r) : m_is_positive [qD r] = some (.v (.bool true)) := by
  have h1 := is_share_ok r
  have h2 := h.pos
  unfold qD at h1
  unfold m_is_positive b_is_positive qD
  simp [fnP, runG, sSeq, sIf, sNil, sRet, sRetV, sSet, setOut, sPar, parOut, sEx, eVar, bVar, eC, eV, dat, vE, eBin, eUn, eTup, vLst, aCons, aNil, eIxV, slD, atD, L2.atI, L2.ixN, eCall, tOf, truD, Dl.tAndT, Dl.tOrT, Dl.tNotT, eAnd, eOr, eIf, notD, eChain, addA_int, subD, negD, absD, lenD, Dl.intD, tupD, cmpD, eqD_ii, neD_ii, eqD_ss, neD_ss, isi_ii, isi_ib, isi_is, isi_it, isi_tt, isi_ti, isi_ts, isi_ss, isi_si, isi_st, h1, h2]
def rowD (l : List Rat) : D := .tuple (l.map qD)
def tabD (t : List (List Rat)) : D := .tuple (t.map rowD)
def BdL (k : Nat) (l : List Rat) : Prop := ∀ r ∈ l, Bd k r
theorem is_grid_ok {l : List Rat} {k n : Nat} (h : BdL k l) (hn : l.length = n) (hl : n ≤ 1000) : m_is_grid [rowD l, .int n] = some (.v (.bool true)) := by
  have h1 := is_sized_ok (l.map qD) n n (by simp [hn]) (by simp [hn])
  have h2 := vLc_map (fi := iSeq (eVar 0)) (t := gVar 2) (c := cYes) (f := eV (eCall m_is_positive (aCons (eVar 2) aNil))) (vs := [2]) (g := [.v (rowD l), .v (.int n), .no]) (g0 := [.v (rowD l), .v (.int n), .no]) (xs := l) qD (fun _ => .bool true)
    (by simp [iSeq, fnP, runG, sSeq, sIf, sNil, sRet, sRetV, sSet, setOut, sPar, parOut, sEx, eVar, bVar, eC, eV, dat, vE, eBin, eUn, eTup, vLst, aCons, aNil, eIxV, slD, atD, L2.atI, L2.ixN, eCall, tOf, truD, Dl.tAndT, Dl.tOrT, Dl.tNotT, eAnd, eOr, eIf, notD, eChain, addA_int, subD, negD, absD, lenD, Dl.intD, tupD, cmpD, eqD_ii, neD_ii, eqD_ss, neD_ss, isi_ii, isi_ib, isi_is, isi_it, isi_tt, isi_ti, isi_ts, isi_ss, isi_si, isi_st, rowD, seqD]) (by simp [okW]) (by omega) (fun x hx => by
      have := is_positive_ok (h x hx)
      exact ⟨[.v (rowD l), .v (.int n), .v (qD x)], [.v (rowD l), .v (.int n), .v (qD x)], rfl, rfl, by simp [fnP, runG, sSeq, sIf, sNil, sRet, sRetV, sSet, setOut, sPar, parOut, sEx, eVar, bVar, eC, eV, dat, vE, eBin, eUn, eTup, vLst, aCons, aNil, eIxV, slD, atD, L2.atI, L2.ixN, eCall, tOf, truD, Dl.tAndT, Dl.tOrT, Dl.tNotT, eAnd, eOr, eIf, notD, eChain, addA_int, subD, negD, absD, lenD, Dl.intD, tupD, cmpD, eqD_ii, neD_ii, eqD_ss, neD_ss, isi_ii, isi_ib, isi_is, isi_it, isi_tt, isi_ti, isi_ts, isi_ss, isi_si, isi_st, this], rfl⟩)
  have h3 := allD_map (fun _ : Rat => true) l
  unfold m_is_grid b_is_grid
  unfold rowD at h2 ⊢
  simp [fnP, runG, sSeq, sIf, sNil, sRet, sRetV, sSet, setOut, sPar, parOut, sEx, eVar, bVar, eC, eV, dat, vE, eBin, eUn, eTup, vLst, aCons, aNil, eIxV, slD, atD, L2.atI, L2.ixN, eCall, tOf, truD, Dl.tAndT, Dl.tOrT, Dl.tNotT, eAnd, eOr, eIf, notD, eChain, addA_int, subD, negD, absD, lenD, Dl.intD, tupD, cmpD, eqD_ii, neD_ii, eqD_ss, neD_ss, isi_ii, isi_ib, isi_is, isi_it, isi_tt, isi_ti, isi_ts, isi_ss, isi_si, isi_st, h1, h2, h3, backG, wipeG]

/-! ### sums -/
theorem B0.add {j k : Nat} {r s : Rat} (hr : B0 j r) (hs : B0 k s) : B0 (j + k + 1) (r + s) := by
  have hrd := r.den_pos
  have hsd := s.den_pos
  rw [← add_rat]
  have hb : 0 < (r.den : Int) * (s.den : Int) := Int.mul_pos (by omega) (by omega)
  have h1 := lt_mul2 hr.num hs.den
  have h2 := lt_mul2 hs.num hr.den
  have h4 := lt_mul2 hr.den hs.den
  rw [Nat.add_comm k j] at h2
  have h3 := Int.natAbs_add_le (r.num * (s.den : Int)) (s.num * (r.den : Int))
  rw [Int.natAbs_mul, Int.natAbs_mul] at h3
  simp only [Int.natAbs_natCast] at h3
  refine ⟨?_, ?_⟩
  · rw [Rat.num_divInt, Int.sign_eq_one_of_pos hb, Int.one_mul, Nat.pow_succ]
    have := Int.natAbs_ediv_le_natAbs (r.num * (s.den : Int) + s.num * (r.den : Int)) ((Int.gcd ((r.den : Int) * (s.den : Int)) (r.num * (s.den : Int) + s.num * (r.den : Int)) : Nat) : Int)
    omega
  · rw [Rat.den_divInt, if_neg (by omega), Nat.pow_succ]
    have := Nat.div_le_self ((r.den : Int) * (s.den : Int)).natAbs (Int.gcd ((r.den : Int) * (s.den : Int)) (r.num * (s.den : Int) + s.num * (r.den : Int)))
    rw [Int.natAbs_mul, Int.natAbs_natCast, Int.natAbs_natCast] at this
    rw [Int.natAbs_mul, Int.natAbs_natCast, Int.natAbs_natCast]
    omega
theorem B0.mono {j k : Nat} {r : Rat} (h : B0 j r) (e : j ≤ k) : B0 k r := by
  have := Nat.pow_le_pow_right (n := 2) (by decide) e
  exact ⟨by have := h.num; omega, by have := h.den; omega⟩
theorem sum_b0 {k : Nat} : ∀ (rs : List Rat) (acc : Rat) (j : Nat), B0 j acc → BdL k rs → B0 (j + rs.length * (k + 1)) (rs.foldl (· + ·) acc)
  | [], acc, j, h, _ => by simpa using h
  | r :: rs, acc, j, h, hr => by
    have h1 := h.add (hr r (List.mem_cons_self ..)).b0
    have h2 := sum_b0 rs (acc + r) _ h1 fun x hx => hr x (List.mem_cons_of_mem _ hx)
    refine B0.mono (r := rs.foldl (· + ·) (acc + r)) h2 ?_
    simp only [List.length_cons, Nat.add_mul]
    omega
theorem sum_nn {k : Nat} : ∀ (rs : List Rat) (acc : Rat), 0 ≤ acc → BdL k rs → 0 ≤ rs.foldl (· + ·) acc ∧ (0 < acc ∨ rs ≠ [] → 0 < rs.foldl (· + ·) acc)
  | [], acc, h, _ => ⟨h, fun z => by
    rcases z with z | z
    · exact z
    · exact absurd rfl z⟩
  | r :: rs, acc, h, hr => by
    have hp := (hr r (List.mem_cons_self ..)).rpos
    have h1 : 0 < acc + r := by
      have e := (Rat.add_lt_add_left (c := acc)).mpr hp
      rw [Rat.add_zero] at e
      refine Rat.lt_of_le_of_ne (Rat.le_trans h (Rat.le_of_lt e)) fun z => ?_
      rw [← z] at e
      exact Rat.not_le.mpr e h
    have h2 := sum_nn rs (acc + r) (Rat.le_of_lt h1) fun x hx => hr x (List.mem_cons_of_mem _ hx)
    exact ⟨h2.1, fun _ => h2.2 (.inl h1)⟩
def sumR (rs : List Rat) : Rat := rs.foldl (· + ·) 0
theorem b0_zero : B0 1 0 := ⟨by decide, by decide⟩
theorem sum_bd {k : Nat} {rs : List Rat} (h : BdL k rs) (hn : rs ≠ []) : Bd (1 + rs.length * (k + 1)) (sumR rs) := by
  have h1 := sum_b0 rs 0 1 b0_zero h
  have h2 := (sum_nn rs 0 Rat.le_refl h).2 (.inr hn)
  refine ⟨h1.num, h1.den, ?_⟩
  have h3 := (Rat.lt_iff _ _).mp h2
  show 0 < (rs.foldl (· + ·) 0).num
  simpa using h3
theorem law_sum_loop {k : Nat} (L : Sl) : ∀ (rs : List Rat) (acc : Rat) (z : Sl) (j : Nat), B0 j acc → BdL k rs → k ≤ 4000 → j + rs.length * (k + 1) ≤ 4000 →
    ∃ z', forGo (gVar 2) (sSet 1 (eCall m__law_add (aCons (eVar 1) (aCons (eVar 2) aNil)))) (rs.map qD) [L, .v (qD acc), z] = some (.nx [L, .v (qD (rs.foldl (· + ·) acc)), z'])
  | [], acc, z, j, _, _, _, _ => ⟨z, rfl⟩
  | r :: rs, acc, z, j, h, hr, hk, hl => by
    have hr0 := hr r (List.mem_cons_self ..)
    simp only [List.length_cons, Nat.add_mul] at hl
    have h1 := law_add_ok (h.mono (k := 4000) (by omega)) (hr0.b0.mono hk)
    obtain ⟨z', h2⟩ := law_sum_loop L rs (acc + r) (.v (qD r)) _ (h.add hr0.b0) (fun x hx => hr x (List.mem_cons_of_mem _ hx)) hk (by omega)
    refine ⟨z', ?_⟩
    rw [List.map_cons, forGo]
    simp [gVar, fnP, runG, sSeq, sIf, sNil, sRet, sRetV, sSet, setOut, sPar, parOut, sEx, eVar, bVar, eC, eV, dat, vE, eBin, eUn, eTup, vLst, aCons, aNil, eIxV, slD, atD, L2.atI, L2.ixN, eCall, tOf, truD, Dl.tAndT, Dl.tOrT, Dl.tNotT, eAnd, eOr, eIf, notD, eChain, addA_int, subD, negD, absD, lenD, Dl.intD, tupD, cmpD, eqD_ii, neD_ii, eqD_ss, neD_ss, isi_ii, isi_ib, isi_is, isi_it, isi_tt, isi_ti, isi_ts, isi_ss, isi_si, isi_st, h1, h2]
theorem summed_loop {k : Nat} (L : Sl) : ∀ (rs : List Rat) (acc : Rat) (z : Sl) (j : Nat), B0 j acc → BdL k rs → k ≤ 4000 → j + rs.length * (k + 1) ≤ 4000 →
    ∃ z', forGo (gVar 2) (sSet 1 (eCall m_plus (aCons (eVar 1) (aCons (eVar 2) aNil)))) (rs.map qD) [L, .v (qD acc), z] = some (.nx [L, .v (qD (rs.foldl (· + ·) acc)), z'])
  | [], acc, z, j, _, _, _, _ => ⟨z, rfl⟩
  | r :: rs, acc, z, j, h, hr, hk, hl => by
    have hr0 := hr r (List.mem_cons_self ..)
    simp only [List.length_cons, Nat.add_mul] at hl
    have h1 := plus_ok (h.mono (k := 4000) (by omega)) (hr0.b0.mono hk)
    obtain ⟨z', h2⟩ := summed_loop L rs (acc + r) (.v (qD r)) _ (h.add hr0.b0) (fun x hx => hr x (List.mem_cons_of_mem _ hx)) hk (by omega)
    refine ⟨z', ?_⟩
    rw [List.map_cons, forGo]
    simp [gVar, fnP, runG, sSeq, sIf, sNil, sRet, sRetV, sSet, setOut, sPar, parOut, sEx, eVar, bVar, eC, eV, dat, vE, eBin, eUn, eTup, vLst, aCons, aNil, eIxV, slD, atD, L2.atI, L2.ixN, eCall, tOf, truD, Dl.tAndT, Dl.tOrT, Dl.tNotT, eAnd, eOr, eIf, notD, eChain, addA_int, subD, negD, absD, lenD, Dl.intD, tupD, cmpD, eqD_ii, neD_ii, eqD_ss, neD_ss, isi_ii, isi_ib, isi_is, isi_it, isi_tt, isi_ti, isi_ts, isi_ss, isi_si, isi_st, h1, h2]
theorem q_zero : qD 0 = .tuple [.int 0, .int 1] := rfl
theorem law_sum_ok {k : Nat} {rs : List Rat} (h : BdL k rs) (hk : k ≤ 4000) (hl : 1 + rs.length * (k + 1) ≤ 4000) : m__law_sum [.list (rs.map qD)] = some (.v (qD (sumR rs))) := by
  obtain ⟨z, h1⟩ := law_sum_loop (.v (.list (rs.map qD))) rs 0 .no 1 b0_zero h hk hl
  rw [q_zero] at h1
  unfold m__law_sum b__law_sum
  simp [fnP, runG, sSeq, sIf, sNil, sRet, sRetV, sSet, setOut, sPar, parOut, sEx, eVar, bVar, eC, eV, dat, vE, eBin, eUn, eTup, vLst, aCons, aNil, eIxV, slD, atD, L2.atI, L2.ixN, eCall, tOf, truD, Dl.tAndT, Dl.tOrT, Dl.tNotT, eAnd, eOr, eIf, notD, eChain, addA_int, subD, negD, absD, lenD, Dl.intD, tupD, cmpD, eqD_ii, neD_ii, eqD_ss, neD_ss, isi_ii, isi_ib, isi_is, isi_it, isi_tt, isi_ti, isi_ts, isi_ss, isi_si, isi_st, sFor, iSeq, seqD, h1, sumR]
theorem summed_ok {k : Nat} {rs : List Rat} (h : BdL k rs) (hk : k ≤ 4000) (hl : 1 + rs.length * (k + 1) ≤ 4000) : m_summed [.list (rs.map qD)] = some (.v (qD (sumR rs))) := by
  obtain ⟨z, h1⟩ := summed_loop (.v (.list (rs.map qD))) rs 0 .no 1 b0_zero h hk hl
  rw [q_zero] at h1
  unfold m_summed b_summed
  simp [fnP, runG, sSeq, sIf, sNil, sRet, sRetV, sSet, setOut, sPar, parOut, sEx, eVar, bVar, eC, eV, dat, vE, eBin, eUn, eTup, vLst, aCons, aNil, eIxV, slD, atD, L2.atI, L2.ixN, eCall, tOf, truD, Dl.tAndT, Dl.tOrT, Dl.tNotT, eAnd, eOr, eIf, notD, eChain, addA_int, subD, negD, absD, lenD, Dl.intD, tupD, cmpD, eqD_ii, neD_ii, eqD_ss, neD_ss, isi_ii, isi_ib, isi_is, isi_it, isi_tt, isi_ti, isi_ts, isi_ss, isi_si, isi_st, sFor, iSeq, seqD, k_ZERO, h1, sumR]
def prodR (l m : List Rat) : List Rat := (l.zip m).map fun p => p.1 * p.2
def dotR (l m : List Rat) : Rat := sumR (prodR l m)
theorem prod_bd {k : Nat} {l m : List Rat} (h1 : BdL k l) (h2 : BdL k m) : BdL (k + k) (prodR l m) := fun r hr => by
  obtain ⟨p, hp, rfl⟩ := List.mem_map.mp hr
  exact (h1 _ (List.of_mem_zip hp).1).mul (h2 _ (List.of_mem_zip hp).2)
theorem dot_bd {k : Nat} {l m : List Rat} (h1 : BdL k l) (h2 : BdL k m) (hl : l.length = m.length) (hn : l ≠ []) (h6 : l.length ≤ 6) : Bd (7 + 12 * k) (dotR l m) := by
  have h3 := prod_bd h1 h2
  have h4 : (prodR l m).length = l.length := by simp [prodR, hl]
  have h5 : prodR l m ≠ [] := fun e => by
    rw [e] at h4
    exact hn (List.length_eq_zero_iff.mp h4.symm)
  refine (sum_bd h3 h5).mono ?_
  rw [h4]
  have : l.length * (k + k + 1) ≤ 6 * (k + k + 1) := Nat.mul_le_mul_right _ h6
  omega
theorem prod_map {l m : List Rat} : ((l.zip m).map fun p => qD (p.1 * p.2)) = (prodR l m).map qD := by
  simp [prodR]
theorem dots {k : Nat} {l m : List Rat} (h1 : BdL k l) (h2 : BdL k m) (hk : k ≤ 300) (h6 : l.length ≤ 6) :
    m__law_dot [rowD l, rowD m] = some (.v (qD (dotR l m))) ∧ m_dot [rowD l, rowD m] = some (.v (qD (dotR l m))) := by
  have h4 : (prodR l m).length ≤ 6 := by simp [prodR]; omega
  have h5 : (prodR l m).length * (k + k + 1) ≤ 6 * (k + k + 1) := Nat.mul_le_mul_right _ h4
  have h7 := law_sum_ok (prod_bd h1 h2) (by omega) (by omega)
  have h8 := summed_ok (prod_bd h1 h2) (by omega) (by omega)
  have hz : (l.zip m).length ≤ 1000000 := by simp; omega
  have key : ∀ (mm : List D → Option Sl), (∀ r s, Bd 4000 r → Bd 4000 s → mm [qD r, qD s] = some (.v (qD (r * s)))) → vLc (iZip2 (aCons (eVar 0) (aCons (eVar 1) aNil))) (gTup (gsCons (gVar 2) (gsCons (gVar 3) gsNil)) 2) cYes (eV (eCall mm (aCons (eVar 2) (aCons (eVar 3) aNil)))) [2, 3]
      [.v (rowD l), .v (rowD m), .no, .no] = some (.own none ((prodR l m).map qD), [.v (rowD l), .v (rowD m), .no, .no]) := fun mm hm => by
    have := vLc_map (fi := iZip2 (aCons (eVar 0) (aCons (eVar 1) aNil))) (t := gTup (gsCons (gVar 2) (gsCons (gVar 3) gsNil)) 2) (c := cYes) (f := eV (eCall mm (aCons (eVar 2) (aCons (eVar 3) aNil)))) (vs := [2, 3]) (g := [.v (rowD l), .v (rowD m), .no, .no]) (g0 := [.v (rowD l), .v (rowD m), .no, .no])
      (xs := l.zip m) (fun p => .tuple [qD p.1, qD p.2]) (fun p => qD (p.1 * p.2)) (by simp [iZip2, fnP, runG, sSeq, sIf, sNil, sRet, sRetV, sSet, setOut, sPar, parOut, sEx, eVar, bVar, eC, eV, dat, vE, eBin, eUn, eTup, vLst, aCons, aNil, eIxV, slD, atD, L2.atI, L2.ixN, eCall, tOf, truD, Dl.tAndT, Dl.tOrT, Dl.tNotT, eAnd, eOr, eIf, notD, eChain, addA_int, subD, negD, absD, lenD, Dl.intD, tupD, cmpD, eqD_ii, neD_ii, eqD_ss, neD_ss, isi_ii, isi_ib, isi_is, isi_it, isi_tt, isi_ti, isi_ts, isi_ss, isi_si, isi_st, rowD, zipL_map]) (by simp [okW]) hz (fun p hp => by
        have := hm p.1 p.2 ((h1 _ (List.of_mem_zip hp).1).mono (by omega)) ((h2 _ (List.of_mem_zip hp).2).mono (by omega))
        exact ⟨[.v (rowD l), .v (rowD m), .v (qD p.1), .v (qD p.2)], [.v (rowD l), .v (rowD m), .v (qD p.1), .v (qD p.2)], rfl, rfl, by simp [fnP, runG, sSeq, sIf, sNil, sRet, sRetV, sSet, setOut, sPar, parOut, sEx, eVar, bVar, eC, eV, dat, vE, eBin, eUn, eTup, vLst, aCons, aNil, eIxV, slD, atD, L2.atI, L2.ixN, eCall, tOf, truD, Dl.tAndT, Dl.tOrT, Dl.tNotT, eAnd, eOr, eIf, notD, eChain, addA_int, subD, negD, absD, lenD, Dl.intD, tupD, cmpD, eqD_ii, neD_ii, eqD_ss, neD_ss, isi_ii, isi_ib, isi_is, isi_it, isi_tt, isi_ti, isi_ts, isi_ss, isi_si, isi_st, this], rfl⟩)
    rw [prod_map] at this
    exact this
  refine ⟨?_, ?_⟩
  · have k1 := key m__law_mul fun r s a b => law_mul_ok a b
    unfold m__law_dot b__law_dot
    simp [fnP, runG, sSeq, sIf, sNil, sRet, sRetV, sSet, setOut, sPar, parOut, sEx, eVar, bVar, eC, eV, dat, vE, eBin, eUn, eTup, vLst, aCons, aNil, eIxV, slD, atD, L2.atI, L2.ixN, eCall, tOf, truD, Dl.tAndT, Dl.tOrT, Dl.tNotT, eAnd, eOr, eIf, notD, eChain, addA_int, subD, negD, absD, lenD, Dl.intD, tupD, cmpD, eqD_ii, neD_ii, eqD_ss, neD_ss, isi_ii, isi_ib, isi_is, isi_it, isi_tt, isi_ti, isi_ts, isi_ss, isi_si, isi_st, k1, h7]
    rfl
  · have k1 := key m_times fun r s a b => times_ok a b
    unfold m_dot b_dot
    simp [fnP, runG, sSeq, sIf, sNil, sRet, sRetV, sSet, setOut, sPar, parOut, sEx, eVar, bVar, eC, eV, dat, vE, eBin, eUn, eTup, vLst, aCons, aNil, eIxV, slD, atD, L2.atI, L2.ixN, eCall, tOf, truD, Dl.tAndT, Dl.tOrT, Dl.tNotT, eAnd, eOr, eIf, notD, eChain, addA_int, subD, negD, absD, lenD, Dl.intD, tupD, cmpD, eqD_ii, neD_ii, eqD_ss, neD_ss, isi_ii, isi_ib, isi_is, isi_it, isi_tt, isi_ti, isi_ts, isi_ss, isi_si, isi_st, k1, h8]
    rfl
end K85
set_option Elab.async false
set_option linter.all false
set_option maxRecDepth 100000
namespace K85
open PySem Dl

/-! ### data of fractions -/
theorem lay_q (r : Rat) : (qD r).canLay0 = true := by simp [qD, PyData.canLay0, PyData.canLayAll0]
theorem dep_q (r : Rat) : (qD r).depth = 1 := by simp [qD, PyData.depth, PyData.depthAll]
theorem lay_row (l : List Rat) : (rowD l).canLay0 = true := by
  unfold rowD
  rw [PyData.canLay0]
  exact canLayAll_of fun d hd => by
    obtain ⟨r, _, rfl⟩ := List.mem_map.mp hd
    exact lay_q r
theorem dep_row (l : List Rat) : (rowD l).depth ≤ 2 := by
  unfold rowD
  rw [PyData.depth]
  have := depthAll_of (xs := l.map qD) (n := 1) fun d hd => by
    obtain ⟨r, _, rfl⟩ := List.mem_map.mp hd
    exact Nat.le_of_eq (dep_q r)
  omega
theorem lay_tab (t : List (List Rat)) : (tabD t).canLay0 = true := by
  unfold tabD
  rw [PyData.canLay0]
  exact canLayAll_of fun d hd => by
    obtain ⟨r, _, rfl⟩ := List.mem_map.mp hd
    exact lay_row r
theorem dep_tab (t : List (List Rat)) : (tabD t).depth ≤ 3 := by
  unfold tabD
  rw [PyData.depth]
  have := depthAll_of (xs := t.map rowD) (n := 2) fun d hd => by
    obtain ⟨r, _, rfl⟩ := List.mem_map.mp hd
    exact dep_row r
  omega
theorem eqv_q (r s : Rat) : PyData.eqv (qD r) (qD s) = decide (r = s) := by
  unfold qD
  rw [eqv_tup]
  simp only [PyData.eqvAll, eqv_int, Bool.and_true]
  rw [Bool.eq_iff_iff]
  simp only [Bool.and_eq_true, decide_eq_true_eq]
  constructor
  · rintro ⟨h1, h2⟩
    exact Rat.ext h1 (by omega)
  · rintro rfl
    exact ⟨rfl, rfl⟩
theorem eqv_row (l m : List Rat) : PyData.eqv (rowD l) (rowD m) = decide (l = m) := by
  unfold rowD
  rw [eqv_tup, eqvAll_map eqv_q]
theorem eqv_tab (l m : List (List Rat)) : PyData.eqv (tabD l) (tabD m) = decide (l = m) := by
  unfold tabD
  rw [eqv_tup, eqvAll_map eqv_row]
theorem neD_q (r s : Rat) : neD (qD r) (qD s) = some (.bool (!decide (r = s))) := neD_sh (shaped_of (lay_q r) (by rw [dep_q]; decide)) (shaped_of (lay_q s) (by rw [dep_q]; decide)) (eqv_q r s) rfl
theorem eqD_q (r s : Rat) : eqD (qD r) (qD s) = some (.bool (decide (r = s))) := eqD_sh (shaped_of (lay_q r) (by rw [dep_q]; decide)) (shaped_of (lay_q s) (by rw [dep_q]; decide)) (eqv_q r s) rfl
theorem eqD_tab (r s : List (List Rat)) : eqD (tabD r) (tabD s) = some (.bool (decide (r = s))) := eqD_sh (shaped_of (lay_tab r) (by have := dep_tab r; omega)) (shaped_of (lay_tab s) (by have := dep_tab s; omega)) (eqv_tab r s) rfl
theorem rp_q {k : Nat} {r : Rat} (h : B0 k r) (hk : k ≤ 1900) : rpD (qD r) = true := by
  have h := h.mono hk
  simp only [qD, rpD, rpAll, Bool.and_true, Bool.and_eq_true, decide_eq_true_eq]
  exact ⟨h.num, natAbs_lt h.den⟩
theorem ln_q (r : Rat) : lnD (qD r) = 1207 := by simp [qD, lnD, lnAll]
theorem rp_row {k : Nat} {l : List Rat} (h : BdL k l) (hk : k ≤ 1900) : rpD (rowD l) = true := by
  unfold rowD
  rw [rpD]
  exact rpAll_of fun d hd => by
    obtain ⟨r, hr, rfl⟩ := List.mem_map.mp hd
    exact rp_q (h r hr).b0 hk
theorem ln_row {l : List Rat} (h : l.length ≤ 12) : lnD (rowD l) ≤ 20000 := by
  unfold rowD
  rw [lnD]
  have := lnAll_of (xs := l.map qD) (n := 1207) fun d hd => by
    obtain ⟨r, _, rfl⟩ := List.mem_map.mp hd
    exact Nat.le_of_eq (ln_q r)
  simp only [List.length_map] at this
  omega

/-! ### tables -/
structure Tab (k n : Nat) (T : List (List Rat)) : Prop where
  len : T.length = n
  row : ∀ l ∈ T, l.length = n ∧ BdL k l
  lo : 1 ≤ n
  hi : n ≤ 12
def ro (T : List (List Rat)) (i : Nat) : List Rat := T.getD i []
def en (T : List (List Rat)) (i j : Nat) : Rat := (ro T i).getD j 0
theorem Tab.at1 {k n : Nat} {T : List (List Rat)} (h : Tab k n T) {i : Nat} (hi : i < n) : T[i]? = some (ro T i) ∧ (ro T i).length = n ∧ BdL k (ro T i) := by
  have h1 : i < T.length := by rw [h.len]; exact hi
  have e : ro T i = T[i] := by simp [ro, List.getD_eq_getElem?_getD, h1]
  rw [e]
  exact ⟨List.getElem?_eq_getElem h1, h.row _ (List.getElem_mem h1)⟩
theorem Tab.at2 {k n : Nat} {T : List (List Rat)} (h : Tab k n T) {i j : Nat} (hi : i < n) (hj : j < n) : (ro T i)[j]? = some (en T i j) ∧ Bd k (en T i j) := by
  obtain ⟨h1, h2, h3⟩ := h.at1 hi
  have h4 : j < (ro T i).length := by rw [h2]; exact hj
  have e : en T i j = (ro T i)[j] := by unfold en; rw [List.getD_eq_getElem?_getD, List.getElem?_eq_getElem h4]; rfl
  rw [e]
  exact ⟨List.getElem?_eq_getElem h4, h3 _ (List.getElem_mem h4)⟩
theorem Tab.d1 {k n : Nat} {T : List (List Rat)} (h : Tab k n T) {i : Nat} (hi : i < n) : atD (tabD T) (.int (i : Int)) = some (rowD (ro T i)) := atD_map (f := rowD) (h.at1 hi).1
theorem Tab.d2 {k n : Nat} {T : List (List Rat)} (h : Tab k n T) {i j : Nat} (hi : i < n) (hj : j < n) : atD (rowD (ro T i)) (.int (j : Int)) = some (qD (en T i j)) := atD_map (f := qD) (h.at2 hi hj).1
def turnD (i j k : Nat) : D := .tuple [.str (Str.ofString "turn"), .int i, .int j, .int k]
def tuK (T : List (List Rat)) (i j k : Nat) : Option Sl := if en T i j * en T j k = en T i k then none else some (.v (turnD i j k))
def tuJ (T : List (List Rat)) (n i j : Nat) : Option Sl := (List.range n).findSome? (tuK T i j)
def tuI (T : List (List Rat)) (n i : Nat) : Option Sl := (List.range n).findSome? (tuJ T n i)
def tu (T : List (List Rat)) (n : Nat) : Option Sl := (List.range n).findSome? (tuI T n)
def toldD (T : List (List Rat)) : D := .tuple [.str (Str.ofString "levels"), rowD (ro T 0)]
theorem range_ok {n : Nat} (h : n ≤ 12) : SmI (n : Int) := by
  unfold SmI
  omega
theorem rangeL0 (n : Nat) : rangeL 0 n = (List.range n).map fun (i : Nat) => .int (i : Int) := by
  simp [rangeL]
section
variable {k n : Nat} {T : List (List Rat)} (h : Tab k n T) (hk : k ≤ 2000) {mm : List D → Option Sl} (hm : ∀ r s, Bd 4000 r → Bd 4000 s → mm [qD r, qD s] = some (.v (qD (r * s)))) (tl : List Sl)
include h hk hm
theorem turn_k (i j : Nat) (hi : i < n) (hj : j < n) (c : Sl) :
    (tuJ T n i j = none ∧ ∃ c', sFor (iRange1 (aCons (eVar 1) aNil)) (gVar 4) (sIf (tOf (eBin neD (eV (eCall mm (aCons (eBin atD (eIxV 0 (eVar 2)) (eVar 3)) (aCons (eBin atD (eIxV 0 (eVar 3)) (eVar 4)) aNil)))) (eBin atD (eIxV 0 (eVar 2)) (eVar 4)))) (sRet (vE (eTup (aCons (eC (.str (Str.ofString "turn"))) (aCons (eVar 2) (aCons (eVar 3) (aCons (eVar 4) aNil))))))) sNil)
      (.v (tabD T) :: .v (.int n) :: .v (.int i) :: .v (.int j) :: c :: tl) = some (.nx (.v (tabD T) :: .v (.int n) :: .v (.int i) :: .v (.int j) :: c' :: tl))) ∨
    ∃ y g', tuJ T n i j = some y ∧ sFor (iRange1 (aCons (eVar 1) aNil)) (gVar 4) (sIf (tOf (eBin neD (eV (eCall mm (aCons (eBin atD (eIxV 0 (eVar 2)) (eVar 3)) (aCons (eBin atD (eIxV 0 (eVar 3)) (eVar 4)) aNil)))) (eBin atD (eIxV 0 (eVar 2)) (eVar 4)))) (sRet (vE (eTup (aCons (eC (.str (Str.ofString "turn"))) (aCons (eVar 2) (aCons (eVar 3) (aCons (eVar 4) aNil))))))) sNil)
      (.v (tabD T) :: .v (.int n) :: .v (.int i) :: .v (.int j) :: c :: tl) = some (.ret y g') := by
  have key := forGo_findM (t := gVar 4) (b := sIf (tOf (eBin neD (eV (eCall mm (aCons (eBin atD (eIxV 0 (eVar 2)) (eVar 3)) (aCons (eBin atD (eIxV 0 (eVar 3)) (eVar 4)) aNil)))) (eBin atD (eIxV 0 (eVar 2)) (eVar 4)))) (sRet (vE (eTup (aCons (eC (.str (Str.ofString "turn"))) (aCons (eVar 2) (aCons (eVar 3) (aCons (eVar 4) aNil))))))) sNil)
    (fun g => ∃ c', g = .v (tabD T) :: .v (.int n) :: .v (.int i) :: .v (.int j) :: c' :: tl) (fun x : Nat => .int (x : Int)) (tuK T i j) (List.range n) (fun x hx g hg => by
      obtain ⟨c', rfl⟩ := hg
      have hx : x < n := List.mem_range.mp hx
      have b1 := (h.at2 hi hj).2
      have b2 := (h.at2 hj hx).2
      have m1 := hm _ _ (b1.mono (by omega)) (b2.mono (by omega))
      have l1 := h.d1 hi
      have l2 := h.d1 hj
      have l3 := h.d2 hi hj
      have l4 := h.d2 hj hx
      have l5 := h.d2 hi hx
      have l6 := neD_q (en T i j * en T j x) (en T i x)
      refine ⟨_, rfl, ?_⟩
      by_cases e : en T i j * en T j x = en T i x
      · left
        refine ⟨by simp [tuK, e], .v (tabD T) :: .v (.int n) :: .v (.int i) :: .v (.int j) :: .v (.int x) :: tl, ?_, _, rfl⟩
        rw [e] at m1 l6
        simp [sIf, tOf, eBin, eV, eCall, aCons, aNil, eVar, eIxV, slD, dat, truD, sNil, l1, l2, l3, l4, l5, l6, m1]
      · right
        refine ⟨.v (turnD i j x), .v (tabD T) :: .v (.int n) :: .v (.int i) :: .v (.int j) :: .v (.int x) :: tl, by simp [tuK, e], ?_⟩
        simp [sIf, tOf, eBin, eV, eCall, aCons, aNil, eVar, eIxV, slD, dat, truD, sNil, sRet, vE, eTup, eC, l1, l2, l3, l4, l5, l6, m1, e, turnD]) _ ⟨c, rfl⟩
  have hr := range_ok h.hi
  have es : ∀ b : Fs, sFor (iRange1 (aCons (eVar 1) aNil)) (gVar 4) b (.v (tabD T) :: .v (.int n) :: .v (.int i) :: .v (.int j) :: c :: tl) = forGo (gVar 4) b ((List.range n).map fun (i : Nat) => .int (i : Int)) (.v (tabD T) :: .v (.int n) :: .v (.int i) :: .v (.int j) :: c :: tl) := fun b => by
    simp [sFor, iRange1, aCons, aNil, eVar, hr, rangeL0]
  rw [es]
  rcases key with ⟨h1, g', h2, c', rfl⟩ | ⟨y, g', h1, h2⟩
  · exact .inl ⟨h1, c', h2⟩
  · exact .inr ⟨y, g', h1, h2⟩
theorem loopEs (t : Fg) (b : Fs) (d0 : D) (rest : List Sl) : sFor (iRange1 (aCons (eVar 1) aNil)) t b (.v d0 :: .v (.int n) :: rest) = forGo t b ((List.range n).map fun (i : Nat) => .int (i : Int)) (.v d0 :: .v (.int n) :: rest) := by
  have hr := range_ok h.hi
  simp [sFor, iRange1, aCons, aNil, eVar, hr, rangeL0]
theorem turn_j (i : Nat) (hi : i < n) (b c : Sl) :
    (tuI T n i = none ∧ ∃ b' c', sFor (iRange1 (aCons (eVar 1) aNil)) (gVar 3) (sFor (iRange1 (aCons (eVar 1) aNil)) (gVar 4) (sIf (tOf (eBin neD (eV (eCall mm (aCons (eBin atD (eIxV 0 (eVar 2)) (eVar 3)) (aCons (eBin atD (eIxV 0 (eVar 3)) (eVar 4)) aNil)))) (eBin atD (eIxV 0 (eVar 2)) (eVar 4)))) (sRet (vE (eTup (aCons (eC (.str (Str.ofString "turn"))) (aCons (eVar 2) (aCons (eVar 3) (aCons (eVar 4) aNil))))))) sNil))
      (.v (tabD T) :: .v (.int n) :: .v (.int i) :: b :: c :: tl) = some (.nx (.v (tabD T) :: .v (.int n) :: .v (.int i) :: b' :: c' :: tl))) ∨
    ∃ y g', tuI T n i = some y ∧ sFor (iRange1 (aCons (eVar 1) aNil)) (gVar 3) (sFor (iRange1 (aCons (eVar 1) aNil)) (gVar 4) (sIf (tOf (eBin neD (eV (eCall mm (aCons (eBin atD (eIxV 0 (eVar 2)) (eVar 3)) (aCons (eBin atD (eIxV 0 (eVar 3)) (eVar 4)) aNil)))) (eBin atD (eIxV 0 (eVar 2)) (eVar 4)))) (sRet (vE (eTup (aCons (eC (.str (Str.ofString "turn"))) (aCons (eVar 2) (aCons (eVar 3) (aCons (eVar 4) aNil))))))) sNil))
      (.v (tabD T) :: .v (.int n) :: .v (.int i) :: b :: c :: tl) = some (.ret y g') := by
  rw [loopEs h hk hm]
  have key := forGo_findM (t := gVar 3) (b := sFor (iRange1 (aCons (eVar 1) aNil)) (gVar 4) (sIf (tOf (eBin neD (eV (eCall mm (aCons (eBin atD (eIxV 0 (eVar 2)) (eVar 3)) (aCons (eBin atD (eIxV 0 (eVar 3)) (eVar 4)) aNil)))) (eBin atD (eIxV 0 (eVar 2)) (eVar 4)))) (sRet (vE (eTup (aCons (eC (.str (Str.ofString "turn"))) (aCons (eVar 2) (aCons (eVar 3) (aCons (eVar 4) aNil))))))) sNil))
    (fun g => ∃ b' c', g = .v (tabD T) :: .v (.int n) :: .v (.int i) :: b' :: c' :: tl) (fun x : Nat => .int (x : Int)) (tuJ T n i) (List.range n) (fun x hx g hg => by
      obtain ⟨b', c', rfl⟩ := hg
      refine ⟨_, rfl, ?_⟩
      rcases turn_k h hk hm tl i x hi (List.mem_range.mp hx) c' with ⟨h1, c2, h2⟩ | ⟨y, g', h1, h2⟩
      · exact .inl ⟨h1, _, h2, _, _, rfl⟩
      · exact .inr ⟨y, g', h1, h2⟩) _ ⟨b, c, rfl⟩
  rcases key with ⟨h1, g', h2, b', c', rfl⟩ | ⟨y, g', h1, h2⟩
  · exact .inl ⟨h1, b', c', h2⟩
  · exact .inr ⟨y, g', h1, h2⟩
theorem turn_i (a b c : Sl) :
    (tu T n = none ∧ ∃ a' b' c', sFor (iRange1 (aCons (eVar 1) aNil)) (gVar 2) (sFor (iRange1 (aCons (eVar 1) aNil)) (gVar 3) (sFor (iRange1 (aCons (eVar 1) aNil)) (gVar 4) (sIf (tOf (eBin neD (eV (eCall mm (aCons (eBin atD (eIxV 0 (eVar 2)) (eVar 3)) (aCons (eBin atD (eIxV 0 (eVar 3)) (eVar 4)) aNil)))) (eBin atD (eIxV 0 (eVar 2)) (eVar 4)))) (sRet (vE (eTup (aCons (eC (.str (Str.ofString "turn"))) (aCons (eVar 2) (aCons (eVar 3) (aCons (eVar 4) aNil))))))) sNil)))
      (.v (tabD T) :: .v (.int n) :: a :: b :: c :: tl) = some (.nx (.v (tabD T) :: .v (.int n) :: a' :: b' :: c' :: tl))) ∨
    ∃ y g', tu T n = some y ∧ sFor (iRange1 (aCons (eVar 1) aNil)) (gVar 2) (sFor (iRange1 (aCons (eVar 1) aNil)) (gVar 3) (sFor (iRange1 (aCons (eVar 1) aNil)) (gVar 4) (sIf (tOf (eBin neD (eV (eCall mm (aCons (eBin atD (eIxV 0 (eVar 2)) (eVar 3)) (aCons (eBin atD (eIxV 0 (eVar 3)) (eVar 4)) aNil)))) (eBin atD (eIxV 0 (eVar 2)) (eVar 4)))) (sRet (vE (eTup (aCons (eC (.str (Str.ofString "turn"))) (aCons (eVar 2) (aCons (eVar 3) (aCons (eVar 4) aNil))))))) sNil)))
      (.v (tabD T) :: .v (.int n) :: a :: b :: c :: tl) = some (.ret y g') := by
  rw [loopEs h hk hm]
  have key := forGo_findM (t := gVar 2) (b := sFor (iRange1 (aCons (eVar 1) aNil)) (gVar 3) (sFor (iRange1 (aCons (eVar 1) aNil)) (gVar 4) (sIf (tOf (eBin neD (eV (eCall mm (aCons (eBin atD (eIxV 0 (eVar 2)) (eVar 3)) (aCons (eBin atD (eIxV 0 (eVar 3)) (eVar 4)) aNil)))) (eBin atD (eIxV 0 (eVar 2)) (eVar 4)))) (sRet (vE (eTup (aCons (eC (.str (Str.ofString "turn"))) (aCons (eVar 2) (aCons (eVar 3) (aCons (eVar 4) aNil))))))) sNil)))
    (fun g => ∃ a' b' c', g = .v (tabD T) :: .v (.int n) :: a' :: b' :: c' :: tl) (fun x : Nat => .int (x : Int)) (tuI T n) (List.range n) (fun x hx g hg => by
      obtain ⟨a', b', c', rfl⟩ := hg
      refine ⟨_, rfl, ?_⟩
      rcases turn_j h hk hm tl x (List.mem_range.mp hx) b' c' with ⟨h1, b2, c2, h2⟩ | ⟨y, g', h1, h2⟩
      · exact .inl ⟨h1, _, h2, _, _, _, rfl⟩
      · exact .inr ⟨y, g', h1, h2⟩) _ ⟨a, b, c, rfl⟩
  rcases key with ⟨h1, g', h2, a', b', c', rfl⟩ | ⟨y, g', h1, h2⟩
  · exact .inl ⟨h1, a', b', c', h2⟩
  · exact .inr ⟨y, g', h1, h2⟩
end
theorem findSome_some {α β : Type} {p : α → Option β} {y : β} : ∀ {xs : List α}, xs.findSome? p = some y → ∃ x ∈ xs, p x = some y
  | [], h => by simp at h
  | x :: r, h => by
    rw [List.findSome?_cons] at h
    cases q : p x with
    | some z => rw [q] at h; exact ⟨x, List.mem_cons_self .., by rw [q]; exact h⟩
    | none =>
      rw [q] at h
      obtain ⟨x', h1, h2⟩ := findSome_some h
      exact ⟨x', List.mem_cons_of_mem _ h1, h2⟩
theorem findSome_none {α β : Type} {p : α → Option β} : ∀ {xs : List α}, xs.findSome? p = none → ∀ x ∈ xs, p x = none
  | [], _, x, hx => by simp at hx
  | z :: r, h, x, hx => by
    rw [List.findSome?_cons] at h
    cases q : p z with
    | some w => rw [q] at h; cases h
    | none =>
      rw [q] at h
      rcases List.mem_cons.mp hx with rfl | hx
      · exact q
      · exact findSome_none h x hx
theorem tu_none {T : List (List Rat)} {n : Nat} (h : tu T n = none) (i j k : Nat) (hi : i < n) (hj : j < n) (hk : k < n) : en T i j * en T j k = en T i k := by
  have h1 := findSome_none h i (List.mem_range.mpr hi)
  have h2 := findSome_none h1 j (List.mem_range.mpr hj)
  have h3 := findSome_none h2 k (List.mem_range.mpr hk)
  unfold tuK at h3
  split at h3
  · assumption
  · cases h3
theorem tu_some {T : List (List Rat)} {n : Nat} {y : Sl} (h : tu T n = some y) : ∃ i j k, i < n ∧ j < n ∧ k < n ∧ y = .v (turnD i j k) := by
  obtain ⟨i, hi, h1⟩ := findSome_some h
  obtain ⟨j, hj, h2⟩ := findSome_some h1
  obtain ⟨k, hk, h3⟩ := findSome_some h2
  unfold tuK at h3
  split at h3
  · cases h3
  · cases h3
    exact ⟨i, j, k, List.mem_range.mp hi, List.mem_range.mp hj, List.mem_range.mp hk, rfl⟩
/-- what both answer -/
def ansD (T : List (List Rat)) (n : Nat) : D := match tu T n with
  | some (.v d) => d
  | _ => toldD T
theorem due_ok {k n : Nat} {T : List (List Rat)} (h : Tab k n T) (hk : k ≤ 2000) : m__law_due [tabD T] = some (.v (ansD T n)) := by
  have hl : lenD (tabD T) = some (.int (n : Int)) := by unfold tabD; simp [lenD, h.len]
  have hd := h.d1 (i := 0) (by have := h.lo; omega)
  have hd : atD (tabD T) (.int 0) = some (rowD (ro T 0)) := hd
  have key := turn_i h hk (mm := m__law_mul) (fun r s a b => law_mul_ok a b) [] .no .no .no
  have s1 : sSet 1 (vE (eUn lenD (bVar 0))) [.v (tabD T), .no, .no, .no, .no] = some (.nx [.v (tabD T), .v (.int n), .no, .no, .no]) := set_v (vE_of (eUn_of (g1 := [.v (tabD T), .no, .no, .no, .no]) rfl hl))
  unfold m__law_due b__law_due
  rcases key with ⟨h1, a', b', c', h2⟩ | ⟨y, g', h1, h2⟩
  · have ha : ansD T n = toldD T := by unfold ansD; rw [h1]
    rw [ha]
    exact fnP_ret _ rfl (seq_nx s1 (seq_nx h2 (ret_v (vE_of (eTup_of (ar_cons rfl (ar_cons (ixV_v (g1 := [.v (tabD T), .v (.int n), a', b', c']) rfl rfl rfl hd) ar_nil)))))))
  · obtain ⟨i, j, k', _, _, _, rfl⟩ := tu_some h1
    have ha : ansD T n = turnD i j k' := by unfold ansD; rw [h1]
    rw [ha]
    exact fnP_ret _ rfl (seq_nx s1 (seq_ret h2))
theorem levels_ok {k n : Nat} {T : List (List Rat)} (h : Tab k n T) (hk : k ≤ 2000) : m_levels [tabD T] = some (.v (ansD T n)) := by
  have hl : lenD (tabD T) = some (.int (n : Int)) := by unfold tabD; simp [lenD, h.len]
  have hd := h.d1 (i := 0) (by have := h.lo; omega)
  have hd : atD (tabD T) (.int 0) = some (rowD (ro T 0)) := hd
  have key := turn_i h hk (mm := m_times) (fun r s a b => times_ok a b) [.no] .no .no .no
  have hs : m_is_sized [tabD T, .int 1, .int 12] = some (.v (.bool true)) := is_sized_ok (T.map rowD) 1 12 (by have := h.lo; simp [h.len]; omega) (by have := h.hi; simp [h.len]; omega)
  have hv := vLc_map (fi := iSeq (eVar 0)) (t := gVar 5) (c := cYes) (f := eV (eCall m_is_grid (aCons (eVar 5) (aCons (eUn lenD (bVar 0)) aNil)))) (vs := [5]) (g := [.v (tabD T), .no, .no, .no, .no, .no]) (g0 := [.v (tabD T), .no, .no, .no, .no, .no]) (xs := T) rowD (fun _ => .bool true)
    (by simp [iSeq, eVar, tabD, seqD]) (by simp [okW]) (by have := h.len; have := h.hi; omega) (fun x hx => by
      have := is_grid_ok (h.row x hx).2 (h.row x hx).1 (by have := h.hi; omega)
      exact ⟨[.v (tabD T), .no, .no, .no, .no, .v (rowD x)], [.v (tabD T), .no, .no, .no, .no, .v (rowD x)], rfl, rfl, by simp [eV, eCall, aCons, aNil, eVar, eUn, bVar, hl, this, dat], rfl⟩)
  have ha2 := allD_map (fun _ : List Rat => true) T
  have s1 : sSet 1 (vE (eUn lenD (bVar 0))) [.v (tabD T), .no, .no, .no, .no, .no] = some (.nx [.v (tabD T), .v (.int n), .no, .no, .no, .no]) := set_v (vE_of (eUn_of (g1 := [.v (tabD T), .no, .no, .no, .no, .no]) rfl hl))
  have hall : (T.all fun _ => true) = true := by simp
  rw [hall] at ha2
  have s0 : sIf (Dl.tOrT (Dl.tNotT (tOf (eV (eCall m_is_sized (aCons (eVar 0) (aCons (eC (.int 1)) (aCons (eC k_MOST_TABLE) aNil))))))) (Dl.tNotT (tOf (eUn allD (eV (vLc (iSeq (eVar 0)) (gVar 5) cYes (eV (eCall m_is_grid (aCons (eVar 5) (aCons (eUn lenD (bVar 0)) aNil)))) [5])))))) sNo sNil [.v (tabD T), .no, .no, .no, .no, .no] = some (.nx [.v (tabD T), .no, .no, .no, .no, .no]) :=
    if_f (tOr_f (tNot_of (tOf_b (eV_v (eCall_of (g1 := [.v (tabD T), .no, .no, .no, .no, .no]) rfl hs)))) (tNot_of (tOf_b (eUn_of (eV_o hv) ha2)))) rfl
  unfold m_levels b_levels
  rcases key with ⟨h1, a', b', c', h2⟩ | ⟨y, g', h1, h2⟩
  · have ha : ansD T n = toldD T := by unfold ansD; rw [h1]
    rw [ha]
    exact fnP_ret _ rfl (seq_nx s0 (seq_nx s1 (seq_nx h2 (ret_v (vE_of (eTup_of (ar_cons rfl (ar_cons (ixV_v (g1 := [.v (tabD T), .v (.int n), a', b', c', .no]) rfl rfl rfl hd) ar_nil))))))))
  · obtain ⟨i, j, k', _, _, _, rfl⟩ := tu_some h1
    have ha : ansD T n = turnD i j k' := by unfold ansD; rw [h1]
    rw [ha]
    exact fnP_ret _ rfl (seq_nx s0 (seq_nx s1 (seq_ret h2)))
end K85
set_option Elab.async false
set_option linter.all false
set_option maxRecDepth 100000
namespace K85
open PySem Dl

def ofR (H : List Rat) : List (List Rat) := H.map fun one => H.map fun other => other / one
theorem law_of_ok {k : Nat} {H : List Rat} (h : BdL k H) (hk : k ≤ 2000) (hl : H.length ≤ 1000) : m__law_of [rowD H] = some (.v (tabD (ofR H))) := by
  have inner : ∀ r ∈ H, vLc (iSeq (eVar 0)) (gVar 2) cYes (eV (eCall m__law_over (aCons (eVar 2) (aCons (eVar 1) aNil)))) [2] [.v (rowD H), .v (qD r), .no] = some (.own none (H.map fun o => qD (o / r)), [.v (rowD H), .v (qD r), .no]) := fun r hr =>
    vLc_map (g0 := [.v (rowD H), .v (qD r), .no]) qD (fun o => qD (o / r)) (iSeq_of rfl rfl) rfl (by omega) fun o ho =>
      ⟨[.v (rowD H), .v (qD r), .v (qD o)], [.v (rowD H), .v (qD r), .v (qD o)], rfl, rfl, eV_v (eCall_of (g1 := [.v (rowD H), .v (qD r), .v (qD o)]) (ar_cons rfl (ar_cons rfl ar_nil)) (law_over_ok ((h o ho).mono (by omega)) ((h r hr).mono (by omega)))), rfl⟩
  have outer : vLc (iSeq (eVar 0)) (gVar 1) cYes (eUn tupD (eV (vLc (iSeq (eVar 0)) (gVar 2) cYes (eV (eCall m__law_over (aCons (eVar 2) (aCons (eVar 1) aNil)))) [2]))) [1] [.v (rowD H), .no, .no] = some (.own none (H.map fun r => .tuple (H.map fun o => qD (o / r))), [.v (rowD H), .no, .no]) :=
    vLc_map (g0 := [.v (rowD H), .no, .no]) qD (fun r => .tuple (H.map fun o => qD (o / r))) (iSeq_of rfl rfl) rfl (by omega) fun r hr =>
      ⟨[.v (rowD H), .v (qD r), .no], [.v (rowD H), .v (qD r), .no], rfl, rfl, eUn_of (eV_o (inner r hr)) rfl, rfl⟩
  have e : tabD (ofR H) = .tuple (H.map fun r => .tuple (H.map fun o => qD (o / r))) := by
    simp [tabD, rowD, ofR]
  rw [e]
  unfold m__law_of b__law_of
  exact fnP_ret _ rfl (ret_v (vE_of (eUn_of (eV_o outer) rfl)))
theorem told_of {k n : Nat} {T : List (List Rat)} (h : Tab k n T) (hn : tu T n = none) : ofR (ro T 0) = T ∧ en T 0 0 = 1 := by
  have hlo := h.lo
  obtain ⟨_, l0, b0⟩ := h.at1 (i := 0) (by omega)
  have e00 : en T 0 0 = 1 := by
    have h1 := tu_none hn 0 0 0 (by omega) (by omega) (by omega)
    have h2 : en T 0 0 ≠ 0 := Rat.ne_of_gt (h.at2 (i := 0) (j := 0) (by omega) (by omega)).2.rpos
    have h3 := Rat.mul_div_cancel (a := en T 0 0) h2
    rw [h1, Rat.div_def, Rat.mul_inv_cancel _ h2] at h3
    exact h3.symm
  refine ⟨?_, e00⟩
  apply List.ext_getElem?
  intro i
  by_cases hi : i < n
  · obtain ⟨t1, t2, t3⟩ := h.at1 hi
    rw [t1]
    unfold ofR
    rw [List.getElem?_map, (h.at2 (i := 0) (j := i) (by omega) hi).1]
    show some _ = some _
    congr 1
    apply List.ext_getElem?
    intro j
    by_cases hj : j < n
    · rw [(h.at2 hi hj).1, List.getElem?_map, (h.at2 (i := 0) (j := j) (by omega) hj).1]
      show some _ = some _
      congr 1
      have h1 := tu_none hn 0 i j (by omega) hi hj
      have h2 : en T 0 i ≠ 0 := Rat.ne_of_gt (h.at2 (i := 0) (j := i) (by omega) hi).2.rpos
      rw [← h1, Rat.mul_comm]
      exact Rat.mul_div_cancel h2
    · rw [List.getElem?_eq_none (by simp [l0]; omega), List.getElem?_eq_none (by rw [t2]; omega)]
  · rw [List.getElem?_eq_none (by simp [ofR, l0]; omega), List.getElem?_eq_none (by rw [h.len]; omega)]
theorem rp_int {n : Nat} (h : n < 12) : rpD (.int (n : Int)) = true := by
  simp only [rpD, decide_eq_true_eq]
  exact natAbs_lt (Nat.lt_trans h (by decide +kernel))
theorem repr_ans {k n : Nat} {T : List (List Rat)} (h : Tab k n T) (hk : k ≤ 1900) : ∃ x, reprD (ansD T n) = some (.str x) := by
  have hlo := h.lo
  have hhi := h.hi
  cases e : tu T n with
  | none =>
    have ha : ansD T n = toldD T := by unfold ansD; rw [e]
    rw [ha]
    obtain ⟨_, l0, b0⟩ := h.at1 (i := 0) (by omega)
    refine ⟨_, reprD_of ?_ ?_ rfl ?_⟩
    · have := rp_row b0 hk
      simp only [toldD, rpD, rpAll, this, Bool.and_true]
      decide +kernel
    · have := dep_row (ro T 0)
      simp only [toldD, PyData.depth, PyData.depthAll]
      omega
    · have := ln_row (l := ro T 0) (by omega)
      have e6 : (Str.ofString "levels").length = 6 := by decide +kernel
      simp only [toldD, lnD, lnAll, e6]
      omega
  | some y =>
    obtain ⟨i, j, k', hi, hj, hk', rfl⟩ := tu_some e
    have ha : ansD T n = turnD i j k' := by unfold ansD; rw [e]
    rw [ha]
    refine ⟨_, reprD_of ?_ ?_ rfl ?_⟩
    · have r1 := rp_int (n := i) (by omega)
      have r2 := rp_int (n := j) (by omega)
      have r3 := rp_int (n := k') (by omega)
      have r0 : rpD (.str (Str.ofString "turn")) = true := by decide +kernel
      unfold turnD
      simp only [rpD] at r0 r1 r2 r3 ⊢
      simp only [rpAll, rpD, r0, r1, r2, r3, Bool.and_true]
    · simp only [turnD, PyData.depth, PyData.depthAll]
      omega
    · have e6 : (Str.ofString "turn").length = 4 := by decide +kernel
      simp only [turnD, lnD, lnAll, e6]
      omega
theorem is_told_ok {k n : Nat} {T : List (List Rat)} (h : Tab k n T) (hk : k ≤ 1900) : m__law_is_told [tabD T] = some (.v (.bool true)) := by
  have hlo := h.lo
  have hhi := h.hi
  have q1 := levels_ok h (by omega)
  have q2 := due_ok h (by omega)
  obtain ⟨x, hx⟩ := repr_ans h hk
  have s1 : sPar 1 2 (eCall m_levels (aCons (eVar 0) aNil)) (eCall m__law_due (aCons (eVar 0) aNil)) [.v (tabD T), .no, .no] = some (.nx [.v (tabD T), .v (ansD T n), .v (ansD T n)]) :=
    par_of (g1 := [.v (tabD T), .no, .no]) (g2 := [.v (tabD T), .no, .no]) (eCall_of (ar_cons rfl ar_nil) q1) (eCall_of (ar_cons rfl ar_nil) q2)
  have hne : neD (.str x) (.str x) = some (.bool false) := by rw [neD_ss]; simp
  have s2 : sIf (Dl.tOrT (tOf (eBin neD (eUn reprD (bVar 1)) (eUn reprD (bVar 2)))) (tOf (eBin neD (eUn reprD (eV (eCall m_levels (aCons (eVar 0) aNil)))) (eUn reprD (bVar 2))))) (sRet (vE (eC (.bool false)))) sNil [.v (tabD T), .v (ansD T n), .v (ansD T n)] = some (.nx [.v (tabD T), .v (ansD T n), .v (ansD T n)]) :=
    if_f (tOr_f (tOf_b (eBin_of (eUn_of (g1 := [.v (tabD T), .v (ansD T n), .v (ansD T n)]) rfl hx) (eUn_of (g1 := [.v (tabD T), .v (ansD T n), .v (ansD T n)]) rfl hx) hne))
      (tOf_b (eBin_of (eUn_of (g1 := [.v (tabD T), .v (ansD T n), .v (ansD T n)]) (eV_v (eCall_of (ar_cons rfl ar_nil) q1)) hx) (eUn_of (g1 := [.v (tabD T), .v (ansD T n), .v (ansD T n)]) rfl hx) hne))) rfl
  unfold m__law_is_told b__law_is_told
  refine fnP_ret _ rfl (seq_nx s1 (seq_nx s2 (ret_v (vE_of (g1 := [.v (tabD T), .v (ansD T n), .v (ansD T n)]) ?_))))
  cases e : tu T n with
  | none =>
    have ha : ansD T n = toldD T := by unfold ansD; rw [e]
    rw [ha]
    obtain ⟨o1, o2⟩ := told_of h e
    obtain ⟨_, l0, b0⟩ := h.at1 (i := 0) (by omega)
    have q3 := law_of_ok b0 (by omega) (by omega)
    rw [o1] at q3
    have q4 := h.d2 (i := 0) (j := 0) (by omega) (by omega)
    have q4 : atD (rowD (ro T 0)) (.int 0) = some (qD (en T 0 0)) := q4
    have hs : decide (Str.ofString "levels" = Str.ofString "turn") = false := by decide +kernel
    have e1 : eqD (.str (Str.ofString "levels")) (.str (Str.ofString "turn")) = some (.bool false) := by rw [eqD_ss, hs]
    have e2 := eqD_tab T T
    have e3 := eqD_q (en T 0 0) 1
    rw [decide_eq_true (rfl : T = T)] at e2
    rw [o2, decide_eq_true (rfl : (1 : Rat) = 1)] at e3
    rw [o2] at q4
    refine eOr_f (eBin_of (g2 := [.v (tabD T), .v (toldD T), .v (toldD T)]) (ixV_v (g1 := [.v (tabD T), .v (toldD T), .v (toldD T)]) rfl rfl rfl rfl) rfl e1) (eAnd_t (eBin_of (g2 := [.v (tabD T), .v (toldD T), .v (toldD T)]) (eV_v (eCall_of (ar_cons (ixV_v (g1 := [.v (tabD T), .v (toldD T), .v (toldD T)]) rfl rfl rfl rfl) ar_nil) q3)) rfl e2)
      (eBin_of (eBin_of (ixV_v (g1 := [.v (tabD T), .v (toldD T), .v (toldD T)]) rfl rfl rfl rfl) rfl q4) (eTup_of (ar_cons rfl (ar_cons rfl ar_nil))) e3))
  | some y =>
    obtain ⟨i, j, k', hi, hj, hk', rfl⟩ := tu_some e
    have ha : ansD T n = turnD i j k' := by unfold ansD; rw [e]
    rw [ha]
    have hs : decide (Str.ofString "turn" = Str.ofString "turn") = true := by decide +kernel
    have e1 : eqD (.str (Str.ofString "turn")) (.str (Str.ofString "turn")) = some (.bool true) := by rw [eqD_ss, hs]
    exact eOr_t (eBin_of (g2 := [.v (tabD T), .v (turnD i j k'), .v (turnD i j k')]) (ixV_v (g1 := [.v (tabD T), .v (turnD i j k'), .v (turnD i j k')]) rfl rfl rfl rfl) rfl e1)
end K85
set_option Elab.async false
set_option linter.all false
set_option maxRecDepth 100000
namespace K85
open PySem Dl

/-! ### the hand -/
def handL (cs : List Int) (p q r s : Int) : List D := [.list (cs.map .int), .int p, .int q, .int r, .int s]
def Hand (es : List D) : Prop := ∃ (cs : List Int) (p q r s : Int), es = handL cs p q r s ∧ 0 ≤ p ∧ 0 ≤ q
theorem ten18 : powD (.int 10) (.int 18) = some (.int 1000000000000000000) := by
  show (if (0 : Int) ≤ 18 ∧ (18 : Int) ≤ 1000000 ∧ Int.natAbs 10 < 2 ^ 64 then some (PyData.int (10 ^ (18 : Int).toNat)) else none) = _
  rw [if_pos (by decide)]
  rfl
theorem draw_first (cs : List Int) (p q r s m : Int) (hp : 0 ≤ p) (hq : 0 ≤ q) : ∃ (p' q' r' : Int) (z : Sl), 0 ≤ p' ∧ 0 ≤ q' ∧ ∀ t,
    sIf (Dl.tAndT (tOf (eBin eqD (eIxV 0 (eC (.int 2))) (eC (.int 0)))) (tOf (eBin ltD (eIxV 0 (eC (.int 1))) (eUn lenD (eIxV 0 (eC (.int 0))))))) (sSeq (sSet 2 (vE (eBin atD (eIxV 0 (eC (.int 0))) (eIxV 0 (eC (.int 1))))))
    (sSeq (sPut 0 (eC (.int 1)) (vE (eBin addA (eIxV 0 (eC (.int 1))) (eC (.int 1)))))
    (sSeq (sPut 0 (eC (.int 3)) (vE (eBin modD (eUn Dl.intD (eBin addA (eBin addA (eBin mulD (eIxV 0 (eC (.int 3))) (eC (.int 69621))) (eBin mulD (eVar 2) (eC (.int 40692)))) (eC (.int 17)))) (eC (.int 2147483629)))))
    (sIf (tOf (eBin geD (eVar 2) (eBin powD (eC (.int 10)) (eC (.int 18))))) (sPut 0 (eC (.int 2)) (vE (eVar 2))) sNil)))) sNil
      [.own t (handL cs p q r s), .v (.int m), .no, .no, .no] = some (.nx [.own t (handL cs p' q' r' s), .v (.int m), z, .no, .no]) := by
  have hl : lenD (.list (cs.map PyData.int)) = some (.int (cs.length : Nat)) := by simp [lenD]
  by_cases h0 : q = 0
  · subst h0
    have c1 : ∀ t, tOf (eBin eqD (eIxV 0 (eC (.int 2))) (eC (.int 0))) [.own t (handL cs p 0 r s), .v (.int m), .no, .no, .no] = some (true, [.own t (handL cs p 0 r s), .v (.int m), .no, .no, .no]) := fun t =>
      tOf_b (eBin_of (g1 := [.own t (handL cs p 0 r s), .v (.int m), .no, .no, .no]) (ixV_v rfl rfl rfl rfl) rfl (eqD_t rfl))
    have c2 : ∀ t, eUn lenD (eIxV 0 (eC (.int 0))) [.own t (handL cs p 0 r s), .v (.int m), .no, .no, .no] = some (.int (cs.length : Nat), [.own t (handL cs p 0 r s), .v (.int m), .no, .no, .no]) := fun t =>
      eUn_of (ixV_v rfl rfl rfl rfl) hl
    have c3 : ∀ t, eIxV 0 (eC (.int 1)) [.own t (handL cs p 0 r s), .v (.int m), .no, .no, .no] = some (.int p, [.own t (handL cs p 0 r s), .v (.int m), .no, .no, .no]) := fun t => ixV_v rfl rfl rfl rfl
    by_cases h1 : p < (cs.length : Nat)
    · obtain ⟨n, hn⟩ := Int.eq_ofNat_of_zero_le hp
      have h1n : n < cs.length := by omega
      obtain ⟨c, hcc⟩ : ∃ c, cs[n]? = some c := ⟨_, List.getElem?_eq_getElem h1n⟩
      have hc : atD (.list (cs.map PyData.int)) (.int p) = some (.int c) := by rw [hn]; exact atD_mapL hcc
      have T0 : ∀ t, Dl.tAndT (tOf (eBin eqD (eIxV 0 (eC (.int 2))) (eC (.int 0)))) (tOf (eBin ltD (eIxV 0 (eC (.int 1))) (eUn lenD (eIxV 0 (eC (.int 0)))))) [.own t (handL cs p 0 r s), .v (.int m), .no, .no, .no] = some (true, [.own t (handL cs p 0 r s), .v (.int m), .no, .no, .no]) := fun t =>
        tAnd_t (c1 t) (tOf_b (eBin_of (c3 t) (c2 t) (ltD_t h1)))
      have A1 : ∀ t, sSet 2 (vE (eBin atD (eIxV 0 (eC (.int 0))) (eIxV 0 (eC (.int 1))))) [.own t (handL cs p 0 r s), .v (.int m), .no, .no, .no] = some (.nx [.own t (handL cs p 0 r s), .v (.int m), .v (.int c), .no, .no]) := fun t => by
        have v1 : eIxV 0 (eC (.int 0)) [.own t (handL cs p 0 r s), .v (.int m), .no, .no, .no] = some (.list (cs.map .int), [.own t (handL cs p 0 r s), .v (.int m), .no, .no, .no]) := ixV_v rfl rfl rfl rfl
        exact set_v (vE_of (eBin_of v1 (c3 t) hc))
      have A2 : ∀ t, sPut 0 (eC (.int 1)) (vE (eBin addA (eIxV 0 (eC (.int 1))) (eC (.int 1)))) [.own t (handL cs p 0 r s), .v (.int m), .v (.int c), .no, .no] = some (.nx [.own t (handL cs (p + 1) 0 r s), .v (.int m), .v (.int c), .no, .no]) := fun t => by
        have v1 : eIxV 0 (eC (.int 1)) [.own t (handL cs p 0 r s), .v (.int m), .v (.int c), .no, .no] = some (.int p, [.own t (handL cs p 0 r s), .v (.int m), .v (.int c), .no, .no]) := ixV_v rfl rfl rfl rfl
        have v2 := eV_v (vE_of (eBin_of (h := eC (.int 1)) v1 rfl (addA_int p 1)))
        exact put_of (i := 0) (fj := eC (.int 1)) (k := 1) (j := 1) (ds := handL cs p 0 r s) v2 rfl rfl rfl rfl
      have A3 : ∀ t, sPut 0 (eC (.int 3)) (vE (eBin modD (eUn Dl.intD (eBin addA (eBin addA (eBin mulD (eIxV 0 (eC (.int 3))) (eC (.int 69621))) (eBin mulD (eVar 2) (eC (.int 40692)))) (eC (.int 17)))) (eC (.int 2147483629)))) [.own t (handL cs (p + 1) 0 r s), .v (.int m), .v (.int c), .no, .no] =
          some (.nx [.own t (handL cs (p + 1) 0 ((r * 69621 + c * 40692 + 17).fmod 2147483629) s), .v (.int m), .v (.int c), .no, .no]) := fun t => by
        have v1 : eIxV 0 (eC (.int 3)) [.own t (handL cs (p + 1) 0 r s), .v (.int m), .v (.int c), .no, .no] = some (.int r, [.own t (handL cs (p + 1) 0 r s), .v (.int m), .v (.int c), .no, .no]) := ixV_v rfl rfl rfl rfl
        have v2 := eBin_of (h := eC (.int 69621)) v1 rfl (mulD_of (i := r) (j := 69621) (mulOk_r (by decide)))
        have v3 : eBin mulD (eVar 2) (eC (.int 40692)) [.own t (handL cs (p + 1) 0 r s), .v (.int m), .v (.int c), .no, .no] = some (.int (c * 40692), [.own t (handL cs (p + 1) 0 r s), .v (.int m), .v (.int c), .no, .no]) := eBin_of rfl rfl (mulD_of (i := c) (j := 40692) (mulOk_r (by decide)))
        have v4 := eBin_of v2 v3 (addA_int _ _)
        have v5 := eBin_of (h := eC (.int 17)) v4 rfl (addA_int _ 17)
        have v6 := eBin_of (h := eC (.int 2147483629)) (eUn_of (op := Dl.intD) v5 rfl) rfl (modD_of (j := 2147483629) (by decide))
        exact put_of (i := 0) (fj := eC (.int 3)) (k := 3) (j := 3) (ds := handL cs (p + 1) 0 r s) (eV_v (vE_of v6)) rfl rfl rfl rfl
      have v7 : ∀ t r', eBin powD (eC (.int 10)) (eC (.int 18)) [.own t (handL cs (p + 1) 0 r' s), .v (.int m), .v (.int c), .no, .no] = some (.int 1000000000000000000, [.own t (handL cs (p + 1) 0 r' s), .v (.int m), .v (.int c), .no, .no]) := fun t r' => eBin_of rfl rfl ten18
      by_cases h2 : 1000000000000000000 ≤ c
      · refine ⟨p + 1, c, (r * 69621 + c * 40692 + 17).fmod 2147483629, .v (.int c), by omega, by omega, fun t => if_t (T0 t) (seq_nx (A1 t) (seq_nx (A2 t) (seq_nx (A3 t) (if_t (tOf_b (eBin_of (f := eVar 2) rfl (v7 t _) (geD_t h2))) ?_))))⟩
        have v8 : eV (vE (eVar 2)) [.own t (handL cs (p + 1) 0 ((r * 69621 + c * 40692 + 17).fmod 2147483629) s), .v (.int m), .v (.int c), .no, .no] = some (.int c, [.own t (handL cs (p + 1) 0 ((r * 69621 + c * 40692 + 17).fmod 2147483629) s), .v (.int m), .v (.int c), .no, .no]) := rfl
        exact put_of (i := 0) (fj := eC (.int 2)) (k := 2) (j := 2) (ds := handL cs (p + 1) 0 ((r * 69621 + c * 40692 + 17).fmod 2147483629) s) v8 rfl rfl rfl rfl
      · exact ⟨p + 1, 0, (r * 69621 + c * 40692 + 17).fmod 2147483629, .v (.int c), by omega, by omega, fun t => if_t (T0 t) (seq_nx (A1 t) (seq_nx (A2 t) (seq_nx (A3 t) (if_f (tOf_b (eBin_of (f := eVar 2) rfl (v7 t _) (geD_f h2))) rfl))))⟩
    · exact ⟨p, 0, r, .no, hp, by omega, fun t => if_f (tAnd_t (c1 t) (tOf_b (eBin_of (c3 t) (c2 t) (ltD_f h1)))) rfl⟩
  · refine ⟨p, q, r, .no, hp, hq, fun t => ?_⟩
    have c1 : tOf (eBin eqD (eIxV 0 (eC (.int 2))) (eC (.int 0))) [.own t (handL cs p q r s), .v (.int m), .no, .no, .no] = some (false, [.own t (handL cs p q r s), .v (.int m), .no, .no, .no]) :=
      tOf_b (eBin_of (g1 := [.own t (handL cs p q r s), .v (.int m), .no, .no, .no]) (ixV_v rfl rfl rfl rfl) rfl (eqD_f h0))
    exact if_f (tAnd_f c1) rfl
theorem fmod_rng (a : Int) {m : Int} (hm : 0 < m) : 0 ≤ a.fmod m ∧ a.fmod m < m := ⟨Int.fmod_nonneg_of_pos a hm, Int.fmod_lt_of_pos a hm⟩
theorem draw_ok {es : List D} {m : Int} (h : Hand es) (hm : 0 < m) (hm2 : m < 1000000000) : ∃ x es', m__law_draw es [.int m] = some (.v (.int x), es') ∧ 0 ≤ x ∧ x < m ∧ Hand es' := by
  obtain ⟨cs, p, q, r, s, rfl, hp, hq⟩ := h
  obtain ⟨p', q', r', z, hp', hq', F⟩ := draw_first cs p q r s m hp hq
  have hd : Dl.DivOk m = true := divOk_s (by omega) (by omega)
  have hm0 : m ≠ 0 := by omega
  have c2 : ∀ a, eIxV 0 (eC (.int 2)) [.own (some a) (handL cs p' q' r' s), .v (.int m), z, .no, .no] = some (.int q', [.own (some a) (handL cs p' q' r' s), .v (.int m), z, .no, .no]) := fun a => ixV_v rfl rfl rfl rfl
  by_cases h1 : 0 < q'
  · refine ⟨q'.fmod m, handL cs p' (q'.fdiv m) r' s, ?_, (fmod_rng q' hm).1, (fmod_rng q' hm).2, ⟨cs, p', _, r', s, rfl, hp', Int.fdiv_nonneg hq' (by omega)⟩⟩
    unfold m__law_draw
    refine fnI_of fun a => ⟨[.own (some a) (handL cs p' (q'.fdiv m) r' s), .v (.int m), z, .v (.int (q'.fmod m)), .no], ?_, rfl⟩
    have S1 : sSet 3 (vE (eBin modD (eUn Dl.intD (eIxV 0 (eC (.int 2)))) (eVar 1))) [.own (some a) (handL cs p' q' r' s), .v (.int m), z, .no, .no] = some (.nx [.own (some a) (handL cs p' q' r' s), .v (.int m), z, .v (.int (q'.fmod m)), .no]) :=
      set_v (vE_of (eBin_of (h := eVar 1) (eUn_of (op := Dl.intD) (c2 a) rfl) rfl (modD_of hm0)))
    have S2 : sPut 0 (eC (.int 2)) (vE (eBin fdivD (eIxV 0 (eC (.int 2))) (eVar 1))) [.own (some a) (handL cs p' q' r' s), .v (.int m), z, .v (.int (q'.fmod m)), .no] = some (.nx [.own (some a) (handL cs p' (q'.fdiv m) r' s), .v (.int m), z, .v (.int (q'.fmod m)), .no]) := by
      have v1 : eIxV 0 (eC (.int 2)) [.own (some a) (handL cs p' q' r' s), .v (.int m), z, .v (.int (q'.fmod m)), .no] = some (.int q', [.own (some a) (handL cs p' q' r' s), .v (.int m), z, .v (.int (q'.fmod m)), .no]) := ixV_v rfl rfl rfl rfl
      exact put_of (i := 0) (fj := eC (.int 2)) (k := 2) (j := 2) (ds := handL cs p' q' r' s) (eV_v (vE_of (eBin_of (h := eVar 1) v1 rfl (fdivD_of hd)))) rfl rfl rfl rfl
    have S3 : sRetV 3 [.own (some a) (handL cs p' (q'.fdiv m) r' s), .v (.int m), z, .v (.int (q'.fmod m)), .no] = some (.ret (.v (.int (q'.fmod m))) [.own (some a) (handL cs p' (q'.fdiv m) r' s), .v (.int m), z, .v (.int (q'.fmod m)), .no]) := retV_v rfl
    unfold runG b__law_draw
    have e := seq_nx (F (some a)) (seq_ret (h := sSeq (sPut 0 (eC (.int 4)) (vE (eBin addA (eIxV 0 (eC (.int 4))) (eC (.int 1)))))
    (sSeq (sSet 4 (vE (eBin modD (eUn Dl.intD (eBin mulD (eUn Dl.intD (eBin addA (eIxV 0 (eC (.int 3))) (eBin mulD (eC (.int 7919)) (eIxV 0 (eC (.int 4)))))) (eC (.int 48271)))) (eC (.int 2147483647)))))
    (sSeq (sSet 4 (vE (eBin modD (eUn Dl.intD (eBin mulD (eVar 4) (eBin addA (eBin fdivD (eVar 4) (eC (.int 1009))) (eC (.int 69621))))) (eC (.int 2147483647)))))
    (sSeq (sSet 4 (vE (eBin modD (eUn Dl.intD (eBin mulD (eVar 4) (eBin addA (eBin fdivD (eVar 4) (eC (.int 2003))) (eC (.int 40014))))) (eC (.int 2147483563)))))
    (sRet (vE (eBin modD (eUn Dl.intD (eBin fdivD (eVar 4) (eC (.int 16)))) (eVar 1)))))))) (if_t (h := sNil) (tOf_b (eBin_of (h := eC (.int 0)) (c2 a) rfl (gtD_t h1))) (seq_nx S1 (seq_nx S2 S3))))
    exact congrArg (fun o => match o with
      | some (.ret x g') => some (x, g')
      | some (.nx g') => some (.v .none, g')
      | _ => none) e
  · have h0 : q' = 0 := by omega
    subst h0
    obtain ⟨w1, hw1⟩ : ∃ w1, w1 = ((r' + 7919 * (s + 1)) * 48271).fmod 2147483647 := ⟨_, rfl⟩
    obtain ⟨w2, hw2⟩ : ∃ w2, w2 = (w1 * (w1.fdiv 1009 + 69621)).fmod 2147483647 := ⟨_, rfl⟩
    obtain ⟨w3, hw3⟩ : ∃ w3, w3 = (w2 * (w2.fdiv 2003 + 40014)).fmod 2147483563 := ⟨_, rfl⟩
    have b1 := fmod_rng ((r' + 7919 * (s + 1)) * 48271) (m := 2147483647) (by decide)
    have b2 := fmod_rng (w1 * (w1.fdiv 1009 + 69621)) (m := 2147483647) (by decide)
    rw [← hw1] at b1
    rw [← hw2] at b2
    refine ⟨(w3.fdiv 16).fmod m, handL cs p' 0 r' (s + 1), ?_, (fmod_rng _ hm).1, (fmod_rng _ hm).2, ⟨cs, p', _, r', s + 1, rfl, hp', Int.le_refl _⟩⟩
    unfold m__law_draw
    refine fnI_of fun a => ⟨[.own (some a) (handL cs p' 0 r' (s + 1)), .v (.int m), z, .no, .v (.int w3)], ?_, rfl⟩
    have S1 : sPut 0 (eC (.int 4)) (vE (eBin addA (eIxV 0 (eC (.int 4))) (eC (.int 1)))) [.own (some a) (handL cs p' 0 r' s), .v (.int m), z, .no, .no] = some (.nx [.own (some a) (handL cs p' 0 r' (s + 1)), .v (.int m), z, .no, .no]) := by
      have v1 : eIxV 0 (eC (.int 4)) [.own (some a) (handL cs p' 0 r' s), .v (.int m), z, .no, .no] = some (.int s, [.own (some a) (handL cs p' 0 r' s), .v (.int m), z, .no, .no]) := ixV_v rfl rfl rfl rfl
      exact put_of (i := 0) (fj := eC (.int 4)) (k := 4) (j := 4) (ds := handL cs p' 0 r' s) (eV_v (vE_of (eBin_of (h := eC (.int 1)) v1 rfl (addA_int s 1)))) rfl rfl rfl rfl
    have S2 : sSet 4 (vE (eBin modD (eUn Dl.intD (eBin mulD (eUn Dl.intD (eBin addA (eIxV 0 (eC (.int 3))) (eBin mulD (eC (.int 7919)) (eIxV 0 (eC (.int 4)))))) (eC (.int 48271)))) (eC (.int 2147483647)))) [.own (some a) (handL cs p' 0 r' (s + 1)), .v (.int m), z, .no, .no] = some (.nx [.own (some a) (handL cs p' 0 r' (s + 1)), .v (.int m), z, .no, .v (.int w1)]) := by
      have v1 : eIxV 0 (eC (.int 4)) [.own (some a) (handL cs p' 0 r' (s + 1)), .v (.int m), z, .no, .no] = some (.int (s + 1), [.own (some a) (handL cs p' 0 r' (s + 1)), .v (.int m), z, .no, .no]) := ixV_v rfl rfl rfl rfl
      have v2 : eIxV 0 (eC (.int 3)) [.own (some a) (handL cs p' 0 r' (s + 1)), .v (.int m), z, .no, .no] = some (.int r', [.own (some a) (handL cs p' 0 r' (s + 1)), .v (.int m), z, .no, .no]) := ixV_v rfl rfl rfl rfl
      have v3 := eBin_of (f := eC (.int 7919)) rfl v1 (mulD_of (i := 7919) (mulOk_l (by decide)))
      have v4 := eBin_of v2 v3 (addA_int _ _)
      have v5 := eBin_of (h := eC (.int 48271)) (eUn_of (op := Dl.intD) v4 rfl) rfl (mulD_of (j := 48271) (mulOk_r (by decide)))
      have v6 := eBin_of (h := eC (.int 2147483647)) (eUn_of (op := Dl.intD) v5 rfl) rfl (modD_of (j := 2147483647) (by decide))
      rw [hw1]
      exact set_v (vE_of v6)
    have S3 : sSet 4 (vE (eBin modD (eUn Dl.intD (eBin mulD (eVar 4) (eBin addA (eBin fdivD (eVar 4) (eC (.int 1009))) (eC (.int 69621))))) (eC (.int 2147483647)))) [.own (some a) (handL cs p' 0 r' (s + 1)), .v (.int m), z, .no, .v (.int w1)] = some (.nx [.own (some a) (handL cs p' 0 r' (s + 1)), .v (.int m), z, .no, .v (.int w2)]) := by
      have v1 : eBin fdivD (eVar 4) (eC (.int 1009)) [.own (some a) (handL cs p' 0 r' (s + 1)), .v (.int m), z, .no, .v (.int w1)] = some (.int (w1.fdiv 1009), [.own (some a) (handL cs p' 0 r' (s + 1)), .v (.int m), z, .no, .v (.int w1)]) := eBin_of rfl rfl (fdivD_of (divOk_s (by decide) (by decide)))
      have v2 := eBin_of (h := eC (.int 69621)) v1 rfl (addA_int _ _)
      have v3 := eBin_of (f := eVar 4) (g := [.own (some a) (handL cs p' 0 r' (s + 1)), .v (.int m), z, .no, .v (.int w1)]) (d := .int w1) rfl v2 (mulD_of (i := w1) (mulOk_l (by omega)))
      have v4 := eBin_of (h := eC (.int 2147483647)) (eUn_of (op := Dl.intD) v3 rfl) rfl (modD_of (j := 2147483647) (by decide))
      rw [hw2]
      exact set_v (vE_of v4)
    have S4 : sSet 4 (vE (eBin modD (eUn Dl.intD (eBin mulD (eVar 4) (eBin addA (eBin fdivD (eVar 4) (eC (.int 2003))) (eC (.int 40014))))) (eC (.int 2147483563)))) [.own (some a) (handL cs p' 0 r' (s + 1)), .v (.int m), z, .no, .v (.int w2)] = some (.nx [.own (some a) (handL cs p' 0 r' (s + 1)), .v (.int m), z, .no, .v (.int w3)]) := by
      have v1 : eBin fdivD (eVar 4) (eC (.int 2003)) [.own (some a) (handL cs p' 0 r' (s + 1)), .v (.int m), z, .no, .v (.int w2)] = some (.int (w2.fdiv 2003), [.own (some a) (handL cs p' 0 r' (s + 1)), .v (.int m), z, .no, .v (.int w2)]) := eBin_of rfl rfl (fdivD_of (divOk_s (by decide) (by decide)))
      have v2 := eBin_of (h := eC (.int 40014)) v1 rfl (addA_int _ _)
      have v3 := eBin_of (f := eVar 4) (g := [.own (some a) (handL cs p' 0 r' (s + 1)), .v (.int m), z, .no, .v (.int w2)]) (d := .int w2) rfl v2 (mulD_of (i := w2) (mulOk_l (by omega)))
      have v4 := eBin_of (h := eC (.int 2147483563)) (eUn_of (op := Dl.intD) v3 rfl) rfl (modD_of (j := 2147483563) (by decide))
      rw [hw3]
      exact set_v (vE_of v4)
    have S5 : sRet (vE (eBin modD (eUn Dl.intD (eBin fdivD (eVar 4) (eC (.int 16)))) (eVar 1))) [.own (some a) (handL cs p' 0 r' (s + 1)), .v (.int m), z, .no, .v (.int w3)] = some (.ret (.v (.int ((w3.fdiv 16).fmod m))) [.own (some a) (handL cs p' 0 r' (s + 1)), .v (.int m), z, .no, .v (.int w3)]) := by
      have v1 : eBin fdivD (eVar 4) (eC (.int 16)) [.own (some a) (handL cs p' 0 r' (s + 1)), .v (.int m), z, .no, .v (.int w3)] = some (.int (w3.fdiv 16), [.own (some a) (handL cs p' 0 r' (s + 1)), .v (.int m), z, .no, .v (.int w3)]) := eBin_of rfl rfl (fdivD_of (divOk_s (by decide) (by decide)))
      exact ret_v (vE_of (eBin_of (h := eVar 1) (eUn_of (op := Dl.intD) v1 rfl) rfl (modD_of hm0)))
    unfold runG b__law_draw
    have e := seq_nx (F (some a)) (seq_nx (if_f (f := sSeq (sSet 3 (vE (eBin modD (eUn Dl.intD (eIxV 0 (eC (.int 2)))) (eVar 1)))) (sSeq (sPut 0 (eC (.int 2)) (vE (eBin fdivD (eIxV 0 (eC (.int 2))) (eVar 1)))) (sRetV 3))) (h := sNil) (tOf_b (eBin_of (h := eC (.int 0)) (c2 a) rfl (gtD_f h1))) rfl) (seq_nx S1 (seq_nx S2 (seq_nx S3 (seq_nx S4 S5)))))
    exact congrArg (fun o => match o with
      | some (.ret x g') => some (x, g')
      | some (.nx g') => some (.v .none, g')
      | _ => none) e
end K85
set_option Elab.async false
set_option linter.all false
set_option maxRecDepth 100000
namespace K85
open PySem Dl

theorem atI_mem {l : List D} {x : Int} (h0 : 0 ≤ x) (h : x < (l.length : Nat)) : ∃ d, L2.atI l x = some d ∧ d ∈ l := by
  obtain ⟨n, rfl⟩ := Int.eq_ofNat_of_zero_le h0
  have hn : n < l.length := by omega
  have := atI_map (f := id) (l := l) (i := n) (a := l[n]) (List.getElem?_eq_getElem hn)
  rw [List.map_id] at this
  exact ⟨l[n], this, List.getElem_mem hn⟩
theorem any_ok {es ds : List D} (h : Hand es) (hn : ds ≠ []) (hl : ds.length < 1000000) : ∃ d es', m__law_any es [.list ds] = some (.v d, es') ∧ d ∈ ds ∧ Hand es' := by
  have hp : 0 < ds.length := List.length_pos_iff.mpr hn
  obtain ⟨x, es', e, h0, h1, H⟩ := draw_ok h (m := (ds.length : Nat)) (by omega) (by omega)
  obtain ⟨d, hd, hm⟩ := atI_mem h0 h1
  refine ⟨d, es', ?_, hm, H⟩
  unfold m__law_any b__law_any
  refine fnI_ret fun a => ⟨[.own (some a) es', .v (.list ds)], ?_, rfl⟩
  have v1 : eCallI m__law_draw 0 (aCons (eUn lenD (bVar 1)) aNil) [.own (some a) es, .v (.list ds)] = some (.v (.int x), [.own (some a) es', .v (.list ds)]) := callI_of (i := 0) (g1 := [.own (some a) es, .v (.list ds)]) (t := some a) (ds := [.int (ds.length : Nat)]) rfl (ar_cons (eUn_of (op := lenD) (d := .list ds) rfl rfl) ar_nil) rfl e
  exact ret_v (vE_of (ixV_v rfl (eV_v v1) rfl hd))
theorem positive_ok {es : List D} (h : Hand es) : ∃ r es', m__law_positive es [] = some (.v (qD r), es') ∧ Bd 10 r ∧ Hand es' := by
  obtain ⟨x1, es1, e1, h10, h11, H1⟩ := draw_ok h (m := 50) (by decide) (by decide)
  obtain ⟨d, es2, e2, hd, H2⟩ := any_ok (ds := [.int 0, .int 0, .int 1, .int 2, .int 9, .int x1]) H1 (by simp) (by simp)
  have hb : ∃ b : Int, d = .int b ∧ 0 ≤ b ∧ b < 50 := by
    simp only [List.mem_cons, List.not_mem_nil, or_false] at hd
    rcases hd with rfl | rfl | rfl | rfl | rfl | rfl
    · exact ⟨0, rfl, by decide, by decide⟩
    · exact ⟨0, rfl, by decide, by decide⟩
    · exact ⟨1, rfl, by decide, by decide⟩
    · exact ⟨2, rfl, by decide, by decide⟩
    · exact ⟨9, rfl, by decide, by decide⟩
    · exact ⟨x1, rfl, h10, h11⟩
  obtain ⟨b, rfl, hb0, hb1⟩ := hb
  obtain ⟨x3, es3, e3, h30, h31, H3⟩ := draw_ok H2 (m := 3 * (1 + b)) (by omega) (by omega)
  have h4 := low_ok (a := 1 + x3) (b := 1 + b) (by omega) (Nat.lt_of_lt_of_le (m := 2 ^ 10) (by omega) (Nat.pow_le_pow_right (by decide) (by decide)))
  refine ⟨Rat.divInt (1 + x3) (1 + b), es3, ?_, divInt_bd (by omega) (by omega) (by omega) (by omega), H3⟩
  unfold m__law_positive b__law_positive
  refine fnI_ret fun a => ⟨[.own (some a) es3, .v (.int (1 + b))], ?_, rfl⟩
  have v1 : eV (eCallI m__law_draw 0 (aCons (eC (.int 50)) aNil)) [.own (some a) es, .no] = some (.int x1, [.own (some a) es1, .no]) := eV_v (callI_of (i := 0) (g1 := [.own (some a) es, .no]) (t := some a) (ds := [.int 50]) rfl (ar_cons rfl ar_nil) rfl e1)
  have v2 : vLst (aCons (eC (.int 0)) (aCons (eC (.int 0)) (aCons (eC (.int 1)) (aCons (eC (.int 2)) (aCons (eC (.int 9)) (aCons (eV (eCallI m__law_draw 0 (aCons (eC (.int 50)) aNil))) aNil)))))) [.own (some a) es, .no] = some (.own none [.int 0, .int 0, .int 1, .int 2, .int 9, .int x1], [.own (some a) es1, .no]) :=
    vLst_of (ar_cons rfl (ar_cons rfl (ar_cons rfl (ar_cons rfl (ar_cons rfl (ar_cons v1 ar_nil))))))
  have v3 := callI_of (m := m__law_any) (i := 0) (g := [.own (some a) es, .no]) (t := some a) rfl (ar_cons (eV_o v2) ar_nil) rfl e2
  have v4 := set_v (i := 1) (vE_of (eBin_of (f := eC (.int 1)) rfl (eV_v v3) (addA_int 1 b)))
  have v5 : eBin mulD (eC (.int 3)) (eVar 1) [.own (some a) es2, .v (.int (1 + b))] = some (.int (3 * (1 + b)), [.own (some a) es2, .v (.int (1 + b))]) := eBin_of rfl rfl (mulD_of (mulOk_l (by decide)))
  have v6 := callI_of (m := m__law_draw) (i := 0) (g := [.own (some a) es2, .v (.int (1 + b))]) (t := some a) rfl (ar_cons v5 ar_nil) rfl e3
  have v7 := eBin_of (f := eC (.int 1)) rfl (eV_v v6) (addA_int 1 x3)
  have v8 : aCons (eVar 1) aNil [.own (some a) es3, .v (.int (1 + b))] = some ([.int (1 + b)], [.own (some a) es3, .v (.int (1 + b))]) := ar_cons rfl ar_nil
  exact seq_nx v4 (ret_v (eCall_of (ar_cons v7 v8) h4))
def ninth : Rat := ⟨1, 9, by decide, by decide⟩
theorem q_one : qD 1 = .tuple [.int 1, .int 1] := rfl
theorem q_ninth : qD ninth = .tuple [.int 1, .int 9] := rfl
theorem bd_one : Bd 1 1 := ⟨by decide, by decide, by decide⟩
theorem bd_ninth : Bd 4 ninth := ⟨by decide, by decide, by decide⟩
theorem spoiled_ok {es : List D} {k n : Nat} {T : List (List Rat)} (h : Hand es) (hT : Tab k n T) (hk0 : 10 ≤ k) (hk : k ≤ 1000) : ∃ T' es', m__law_spoiled es [tabD T] = some (.v (tabD T'), es') ∧ Tab (k + 5) n T' ∧ Hand es' := by
  have hlo := hT.lo
  have hhi := hT.hi
  have hl : lenD (tabD T) = some (.int (n : Int)) := by unfold tabD; simp [lenD, hT.len]
  obtain ⟨xi, es1, e1, hi0, hi1, H1⟩ := draw_ok h (m := (n : Int)) (by omega) (by omega)
  obtain ⟨xj, es2, e2, hj0, hj1, H2⟩ := draw_ok H1 (m := (n : Int)) (by omega) (by omega)
  obtain ⟨i, rfl⟩ := Int.eq_ofNat_of_zero_le hi0
  obtain ⟨j, rfl⟩ := Int.eq_ofNat_of_zero_le hj0
  have hi : i < n := by omega
  have hj : j < n := by omega
  obtain ⟨r, es3, e3, hr, H3⟩ := positive_ok H2
  obtain ⟨t1, t2, t3⟩ := hT.at1 hi
  obtain ⟨a1, b1⟩ := hT.at2 hi hj
  have d1 := hT.d1 hi
  have d2 := hT.d2 hi hj
  have o1 := law_over_ok (bd_one.mono (k := 4000) (by omega)) (b1.mono (k := 4000) (by omega))
  have o2 := law_add_ok (b1.b0.mono (k := 4000) (by omega)) (bd_ninth.b0.mono (k := 4000) (by omega))
  obtain ⟨d, es4, e4, hd, H4⟩ := any_ok (ds := [qD r, qD (1 / en T i j), qD (en T i j + ninth)]) H3 (by simp) (by simp)
  have hq : ∃ q : Rat, d = qD q ∧ Bd (k + 5) q := by
    simp only [List.mem_cons, List.not_mem_nil, or_false] at hd
    rcases hd with rfl | rfl | rfl
    · exact ⟨r, rfl, hr.mono (by omega)⟩
    · exact ⟨_, rfl, (bd_one.div b1).mono (by omega)⟩
    · exact ⟨_, rfl, (b1.add bd_ninth).mono (by omega)⟩
  obtain ⟨q, rfl, hq⟩ := hq
  obtain ⟨R, hR⟩ : ∃ R, R = (ro T i).take j ++ [q] ++ (ro T i).drop (j + 1) := ⟨_, rfl⟩
  obtain ⟨T', hT'⟩ : ∃ T', T' = T.take i ++ [R] ++ T.drop (i + 1) := ⟨_, rfl⟩
  refine ⟨T', es4, ?_, ⟨?_, ?_, hlo, hhi⟩, H4⟩
  · unfold m__law_spoiled b__law_spoiled
    refine fnI_ret fun a => ⟨[.own (some a) es4, .v (tabD T), .v (.int i), .v (.int j), .v (qD q), .v (rowD R)], ?_, rfl⟩
    have v1 := callI_of (m := m__law_draw) (i := 0) (f := aCons (eUn lenD (bVar 1)) aNil) (g := [.own (some a) es, .v (tabD T), .no, .no, .no, .no]) (t := some a) rfl (ar_cons (eUn_of rfl hl) ar_nil) rfl e1
    have v2 := callI_of (m := m__law_draw) (i := 0) (f := aCons (eUn lenD (bVar 1)) aNil) (g := [.own (some a) es1, .v (tabD T), .no, .no, .no, .no]) (t := some a) rfl (ar_cons (eUn_of rfl hl) ar_nil) rfl e2
    have s1 := par_of (i := 2) (j := 3) v1 v2
    have w1 := callI_of (m := m__law_positive) (i := 0) (f := aNil) (g := [.own (some a) es2, .v (tabD T), .v (.int i), .v (.int j), .no, .no]) (t := some a) rfl ar_nil rfl e3
    have w2 : eBin atD (eIxV 1 (eVar 2)) (eVar 3) [.own (some a) es3, .v (tabD T), .v (.int i), .v (.int j), .no, .no] = some (qD (en T i j), [.own (some a) es3, .v (tabD T), .v (.int i), .v (.int j), .no, .no]) :=
      eBin_of (ixV_v rfl rfl rfl d1) rfl d2
    have w3 : eTup (aCons (eC (.int 1)) (aCons (eC (.int 1)) aNil)) [.own (some a) es3, .v (tabD T), .v (.int i), .v (.int j), .no, .no] = some (qD 1, [.own (some a) es3, .v (tabD T), .v (.int i), .v (.int j), .no, .no]) := eTup_of (ar_cons rfl (ar_cons rfl ar_nil))
    have w4 : eTup (aCons (eC (.int 1)) (aCons (eC (.int 9)) aNil)) [.own (some a) es3, .v (tabD T), .v (.int i), .v (.int j), .no, .no] = some (qD ninth, [.own (some a) es3, .v (tabD T), .v (.int i), .v (.int j), .no, .no]) := eTup_of (ar_cons rfl (ar_cons rfl ar_nil))
    have w5 := eV_v (eCall_of (ar_cons w3 (ar_cons w2 ar_nil)) o1)
    have w6 := eV_v (eCall_of (ar_cons w2 (ar_cons w4 ar_nil)) o2)
    have w7 := vLst_of (ar_cons (eV_v w1) (ar_cons w5 (ar_cons w6 ar_nil)))
    have w8 := callI_of (m := m__law_any) (i := 0) (g := [.own (some a) es2, .v (tabD T), .v (.int i), .v (.int j), .no, .no]) (t := some a) rfl (ar_cons (eV_o w7) ar_nil) rfl e4
    have s2 := set_v (i := 4) w8
    have r1 : eIxV 1 (eVar 2) [.own (some a) es4, .v (tabD T), .v (.int i), .v (.int j), .v (qD q), .no] = some (rowD (ro T i), [.own (some a) es4, .v (tabD T), .v (.int i), .v (.int j), .v (qD q), .no]) := ixV_v rfl rfl rfl d1
    have r2 : oSome (eVar 3) [.own (some a) es4, .v (tabD T), .v (.int i), .v (.int j), .v (qD q), .no] = some (some (j : Int), [.own (some a) es4, .v (tabD T), .v (.int i), .v (.int j), .v (qD q), .no]) := oSome_of rfl
    have r3 : oSome (eBin addA (eVar 3) (eC (.int 1))) [.own (some a) es4, .v (tabD T), .v (.int i), .v (.int j), .v (qD q), .no] = some (some ((j + 1 : Nat) : Int), [.own (some a) es4, .v (tabD T), .v (.int i), .v (.int j), .v (qD q), .no]) := oSome_of (eBin_of rfl rfl (addA_int ..))
    have r4 := eSlU_of r1 (show oNone _ = _ from rfl) r2
    have r5 := eSlU_of r1 r3 (show oNone _ = _ from rfl)
    rw [cutL_map, cut_take (by omega)] at r4
    rw [cutL_map, cut_drop (by omega)] at r5
    have r6 : eTup (aCons (eVar 4) aNil) [.own (some a) es4, .v (tabD T), .v (.int i), .v (.int j), .v (qD q), .no] = some (.tuple [qD q], [.own (some a) es4, .v (tabD T), .v (.int i), .v (.int j), .v (qD q), .no]) := eTup_of (ar_cons rfl ar_nil)
    have r7 := eBin_of r4 r6 (addA_cat (by simp; omega))
    have r8 := eBin_of r7 r5 (addA_cat (by simp; omega))
    have eR : (.tuple (List.map qD (List.take j (ro T i)) ++ [qD q] ++ List.map qD (List.drop (j + 1) (ro T i))) : D) = rowD R := by rw [hR]; simp [rowD]
    rw [eR] at r8
    have s3 := set_v (i := 5) (vE_of r8)
    have z2 : oSome (eVar 2) [.own (some a) es4, .v (tabD T), .v (.int i), .v (.int j), .v (qD q), .v (rowD R)] = some (some (i : Int), [.own (some a) es4, .v (tabD T), .v (.int i), .v (.int j), .v (qD q), .v (rowD R)]) := oSome_of rfl
    have z3 : oSome (eBin addA (eVar 2) (eC (.int 1))) [.own (some a) es4, .v (tabD T), .v (.int i), .v (.int j), .v (qD q), .v (rowD R)] = some (some ((i + 1 : Nat) : Int), [.own (some a) es4, .v (tabD T), .v (.int i), .v (.int j), .v (qD q), .v (rowD R)]) := oSome_of (eBin_of rfl rfl (addA_int ..))
    have z1 : eVar 1 [.own (some a) es4, .v (tabD T), .v (.int i), .v (.int j), .v (qD q), .v (rowD R)] = some (.tuple (T.map rowD), [.own (some a) es4, .v (tabD T), .v (.int i), .v (.int j), .v (qD q), .v (rowD R)]) := rfl
    have z4 := eSlU_of z1 (show oNone _ = _ from rfl) z2
    have z5 := eSlU_of z1 z3 (show oNone _ = _ from rfl)
    rw [cutL_map, cut_take (by rw [hT.len]; omega)] at z4
    rw [cutL_map, cut_drop (by rw [hT.len]; omega)] at z5
    have z6 : eTup (aCons (eVar 5) aNil) [.own (some a) es4, .v (tabD T), .v (.int i), .v (.int j), .v (qD q), .v (rowD R)] = some (.tuple [rowD R], [.own (some a) es4, .v (tabD T), .v (.int i), .v (.int j), .v (qD q), .v (rowD R)]) := eTup_of (ar_cons rfl ar_nil)
    have z7 := eBin_of z4 z6 (addA_cat (by simp; have := hT.len; omega))
    have z8 := eBin_of z7 z5 (addA_cat (by simp; have := hT.len; omega))
    have eT : (.tuple (List.map rowD (List.take i T) ++ [rowD R] ++ List.map rowD (List.drop (i + 1) T)) : D) = tabD T' := by rw [hT']; simp [tabD]
    rw [eT] at z8
    exact seq_nx s1 (seq_nx s2 (seq_nx s3 (ret_v (vE_of z8))))
  · rw [hT']
    simp
    have := hT.len
    omega
  · intro l hl
    rw [hT'] at hl
    have up : ∀ l ∈ T, l.length = n ∧ BdL (k + 5) l := fun l hl => ⟨(hT.row l hl).1, fun r hr => ((hT.row l hl).2 r hr).mono (by omega)⟩
    rcases List.mem_append.mp hl with hl | hl
    · rcases List.mem_append.mp hl with hl | hl
      · exact up l (List.mem_of_mem_take hl)
      · rw [List.mem_singleton] at hl
        subst hl
        refine ⟨by rw [hR]; simp; omega, fun r hr => ?_⟩
        rw [hR] at hr
        rcases List.mem_append.mp hr with hr | hr
        · rcases List.mem_append.mp hr with hr | hr
          · exact (t3 r (List.mem_of_mem_take hr)).mono (by omega)
          · rw [List.mem_singleton] at hr
            rw [hr]; exact hq
        · exact (t3 r (List.mem_of_mem_drop hr)).mono (by omega)
    · exact up l (List.mem_of_mem_drop hl)
end K85
set_option Elab.async false
set_option linter.all false
set_option maxRecDepth 100000
namespace K85
open PySem Dl

/-! ### years -/
structure Yr (k n g : Nat) (P : List (List Rat)) : Prop where
  len : P.length = n
  row : ∀ l ∈ P, l.length = g ∧ BdL k l
  lo : 1 ≤ n
  hi : n ≤ 12
  glo : 1 ≤ g
  ghi : g ≤ 6
theorem Yr.at1 {k n g : Nat} {T : List (List Rat)} (h : Yr k n g T) {i : Nat} (hi : i < n) : T[i]? = some (ro T i) ∧ (ro T i).length = g ∧ BdL k (ro T i) := by
  have h1 : i < T.length := by rw [h.len]; exact hi
  have e : ro T i = T[i] := by simp [ro, List.getD_eq_getElem?_getD, h1]
  rw [e]
  exact ⟨List.getElem?_eq_getElem h1, h.row _ (List.getElem_mem h1)⟩
theorem Yr.d1 {k n g : Nat} {T : List (List Rat)} (h : Yr k n g T) {i : Nat} (hi : i < n) : atD (tabD T) (.int (i : Int)) = some (rowD (ro T i)) := atD_map (f := rowD) (h.at1 hi).1
theorem Yr.l {k n g : Nat} {T : List (List Rat)} (h : Yr k n g T) : lenD (tabD T) = some (.int (n : Int)) := by unfold tabD; simp [lenD, h.len]
theorem len_row (l : List Rat) : lenD (rowD l) = some (.int (l.length : Nat)) := by unfold rowD; simp [lenD]
theorem is_rows_ok {k n g : Nat} {P : List (List Rat)} (h : Yr k n g P) : m_is_rows [tabD P] = some (.v (.bool true)) := by
  have hlo := h.lo
  obtain ⟨t1, t2, t3⟩ := h.at1 (i := 0) (by omega)
  have d0 : atD (tabD P) (.int 0) = some (rowD (ro P 0)) := h.d1 (i := 0) (by omega)
  have l0 := len_row (ro P 0)
  rw [t2] at l0
  have q1 : m_is_sized [tabD P, .int 1, .int 12] = some (.v (.bool true)) := is_sized_ok (P.map rowD) 1 12 (by simp [h.len]; omega) (by have := h.hi; simp [h.len]; omega)
  have q2 : m_is_sized [rowD (ro P 0), .int 1, .int 6] = some (.v (.bool true)) := is_sized_ok ((ro P 0).map qD) 1 6 (by have := h.glo; simp [t2]; omega) (by have := h.ghi; simp [t2]; omega)
  have c0 : ∀ z, eIxV 0 (eC (.int 0)) [.v (tabD P), z] = some (rowD (ro P 0), [.v (tabD P), z]) := fun z => ixV_v rfl rfl rfl d0
  have hv := vLc_map (fi := iSeq (eVar 0)) (t := gVar 1) (c := cYes) (f := eV (eCall m_is_grid (aCons (eVar 1) (aCons (eUn lenD (eIxV 0 (eC (.int 0)))) aNil)))) (vs := [1]) (g := [.v (tabD P), .no]) (g0 := [.v (tabD P), .no]) (xs := P) rowD (fun _ => .bool true)
    (iSeq_of rfl rfl) rfl (by have := h.len; have := h.hi; omega) (fun x hx => by
      have := is_grid_ok (h.row x hx).2 (h.row x hx).1 (by have := h.ghi; omega)
      exact ⟨[.v (tabD P), .v (rowD x)], [.v (tabD P), .v (rowD x)], rfl, rfl, eV_v (eCall_of (ar_cons rfl (ar_cons (eUn_of (c0 _) l0) ar_nil)) this), rfl⟩)
  have ha2 := allD_map (fun _ : List Rat => true) P
  have hall : (P.all fun _ => true) = true := by simp
  rw [hall] at ha2
  have a1 : eV (eCall m_is_sized (aCons (eVar 0) (aCons (eC (.int 1)) (aCons (eC k_MOST_TABLE) aNil)))) [.v (tabD P), .no] = some (.bool true, [.v (tabD P), .no]) := eV_v (eCall_of (ar_cons rfl (ar_cons rfl (ar_cons rfl ar_nil))) q1)
  have a2 : eV (eCall m_is_sized (aCons (eIxV 0 (eC (.int 0))) (aCons (eC (.int 1)) (aCons (eC k_MOST_GOODS) aNil)))) [.v (tabD P), .no] = some (.bool true, [.v (tabD P), .no]) := eV_v (eCall_of (ar_cons (c0 _) (ar_cons rfl (ar_cons rfl ar_nil))) q2)
  unfold m_is_rows b_is_rows
  exact fnP_ret _ rfl (seq_nx (if_f (tOr_f (tNot_of (tOf_b a1)) (tNot_of (tOf_b a2))) rfl) (ret_v (vE_of (eUn_of (eV_o hv) ha2))))
/-! ### the kind -/
inductive Kn where
  | old | new | year (y : Nat)
abbrev sOld : Str := Str.ofString "old"
abbrev sNew : Str := Str.ofString "new"
def Kn.d : Kn → D
  | .old => .str sOld
  | .new => .str sNew
  | .year y => .int (y : Int)
def Kn.f : Kn → Nat → Nat → Nat
  | .old, i, _ => i
  | .new, _, j => j
  | .year y, _, _ => y
def Kn.ok (n : Nat) : Kn → Prop
  | .year y => y < n
  | _ => True
theorem sh_old : SeqAt.shaped (.str sOld) = true := by decide +kernel
theorem sh_new : SeqAt.shaped (.str sNew) = true := by decide +kernel
theorem eqD_is {i : Int} {s : Str} (h : SeqAt.shaped (.str s) = true) : eqD (.int i) (.str s) = some (.bool false) := by
  unfold eqD
  simp only [shaped_int, h, and_self, if_true]
  rfl
theorem kn_old (K : Kn) : ∃ b, eqD K.d (.str sOld) = some (.bool b) ∧ (b = true ↔ K = .old) := by
  cases K with
  | old => exact ⟨true, by rw [Kn.d, eqD_ss]; simp, by simp⟩
  | new => exact ⟨false, by rw [Kn.d, eqD_ss]; congr 2, by simp⟩
  | year y => exact ⟨false, eqD_is sh_old, by simp⟩
theorem kn_new (K : Kn) : ∃ b, eqD K.d (.str sNew) = some (.bool b) ∧ (b = true ↔ K = .new) := by
  cases K with
  | old => exact ⟨false, by rw [Kn.d, eqD_ss]; congr 2, by simp⟩
  | new => exact ⟨true, by rw [Kn.d, eqD_ss]; simp, by simp⟩
  | year y => exact ⟨false, eqD_is sh_new, by simp⟩
theorem pick_ok (K : Kn) {g : G} {a b : Nat} {i j : Nat} (h2 : eVar 2 g = some (K.d, g)) (ha : eVar a g = some (.int i, g)) (hb : eVar b g = some (.int j, g)) :
    eIf (tOf (eBin eqD (eVar 2) (eC (.str sOld)))) (eVar a) (eIf (tOf (eBin eqD (eVar 2) (eC (.str sNew)))) (eVar b) (eVar 2)) g = some (.int (K.f i j : Nat), g) := by
  obtain ⟨b1, e1, q1⟩ := kn_old K
  obtain ⟨b2, e2, q2⟩ := kn_new K
  have c1 := tOf_b (eBin_of (h := eC (.str sOld)) h2 rfl e1)
  have c2 := tOf_b (eBin_of (h := eC (.str sNew)) h2 rfl e2)
  cases K with
  | old =>
    have : b1 = true := q1.mpr rfl
    subst this
    exact eIf_t c1 ha
  | new =>
    have : b1 = false := by cases b1 with
      | true => exact absurd (q1.mp rfl) (by simp)
      | false => rfl
    subst this
    have : b2 = true := q2.mpr rfl
    subst this
    exact eIf_f c1 (eIf_t c2 hb)
  | year y =>
    have : b1 = false := by cases b1 with
      | true => exact absurd (q1.mp rfl) (by simp)
      | false => rfl
    subst this
    have : b2 = false := by cases b2 with
      | true => exact absurd (q2.mp rfl) (by simp)
      | false => rfl
    subst this
    exact eIf_f c1 (eIf_f c2 h2)
theorem Kn.lt {K : Kn} {n i j : Nat} (h : K.ok n) (hi : i < n) (hj : j < n) : K.f i j < n := by
  cases K with
  | old => exact hi
  | new => exact hj
  | year y => exact h
theorem within_ok {y n : Nat} (h : y < n) : m_is_within [.int (y : Int), .int 0, .int ((n : Int) - 1)] = some (.v (.bool true)) := by
  unfold m_is_within b_is_within
  have h1 := is_integer_ok (y : Int)
  have h2 : (y : Int) ≤ (n : Int) - 1 := by omega
  simp [fnP, runG, sSeq, sIf, sNil, sRet, sRetV, sSet, setOut, sPar, parOut, sEx, eVar, bVar, eC, eV, dat, vE, eBin, eUn, eTup, vLst, aCons, aNil, eIxV, slD, atD, L2.atI, L2.ixN, eCall, tOf, truD, Dl.tAndT, Dl.tOrT, Dl.tNotT, eAnd, eOr, eIf, notD, eChain, addA_int, subD, negD, absD, lenD, Dl.intD, tupD, cmpD, eqD_ii, neD_ii, eqD_ss, neD_ss, isi_ii, isi_ib, isi_is, isi_it, isi_tt, isi_ti, isi_ts, isi_ss, isi_si, isi_st, h1, h2]
theorem within_s {s : Str} {a b : D} : m_is_within [.str s, a, b] = some (.v (.bool false)) := by
  have h1 : m_is_integer [.str s] = some (.v (.bool false)) := by
    unfold m_is_integer b_is_integer
    simp [fnP, runG, sSeq, sIf, sNil, sRet, sRetV, sSet, setOut, sPar, parOut, sEx, eVar, bVar, eC, eV, dat, vE, eBin, eUn, eTup, vLst, aCons, aNil, eIxV, slD, atD, L2.atI, L2.ixN, eCall, tOf, truD, Dl.tAndT, Dl.tOrT, Dl.tNotT, eAnd, eOr, eIf, notD, eChain, addA_int, subD, negD, absD, lenD, Dl.intD, tupD, cmpD, eqD_ii, neD_ii, eqD_ss, neD_ss, isi_ii, isi_ib, isi_is, isi_it, isi_tt, isi_ti, isi_ts, isi_ss, isi_si, isi_st]
  unfold m_is_within b_is_within
  simp [fnP, runG, sSeq, sIf, sNil, sRet, sRetV, sSet, setOut, sPar, parOut, sEx, eVar, bVar, eC, eV, dat, vE, eBin, eUn, eTup, vLst, aCons, aNil, eIxV, slD, atD, L2.atI, L2.ixN, eCall, tOf, truD, Dl.tAndT, Dl.tOrT, Dl.tNotT, eAnd, eOr, eIf, notD, eChain, addA_int, subD, negD, absD, lenD, Dl.intD, tupD, cmpD, eqD_ii, neD_ii, eqD_ss, neD_ss, isi_ii, isi_ib, isi_is, isi_it, isi_tt, isi_ti, isi_ts, isi_ss, isi_si, isi_st, h1]
theorem in_old : inD (.str sOld) (.tuple [.str sOld, .str sNew]) = some (.bool true) := by
  show (if SeqAt.shaped (.str sOld) = true ∧ SeqAt.shaped (.list [.str sOld, .str sNew]) = true then some (PyData.bool (false ^^ ([PyData.str sOld, .str sNew].any fun z => PyData.eqv z (.str sOld)))) else none) = _
  rw [if_pos ⟨sh_old, by decide +kernel⟩]
  have : ([PyData.str sOld, .str sNew].any fun z => PyData.eqv z (.str sOld)) = true := by decide +kernel
  rw [this]
  rfl
theorem in_new : inD (.str sNew) (.tuple [.str sOld, .str sNew]) = some (.bool true) := by
  show (if SeqAt.shaped (.str sNew) = true ∧ SeqAt.shaped (.list [.str sOld, .str sNew]) = true then some (PyData.bool (false ^^ ([PyData.str sOld, .str sNew].any fun z => PyData.eqv z (.str sNew)))) else none) = _
  rw [if_pos ⟨sh_new, by decide +kernel⟩]
  have : ([PyData.str sOld, .str sNew].any fun z => PyData.eqv z (.str sNew)) = true := by decide +kernel
  rw [this]
  rfl
/-! ### the table of a basket -/
def btE (P B : List (List Rat)) (K : Kn) (i j : Nat) : Rat := dotR (ro B (K.f i j)) (ro P j) / dotR (ro B (K.f i j)) (ro P i)
def bt (P B : List (List Rat)) (K : Kn) (n : Nat) : List (List Rat) := (List.range n).map fun i => (List.range n).map fun j => btE P B K i j
section
variable {n g : Nat} {P B : List (List Rat)} (hP : Yr 10 n g P) (hB : Yr 10 n g B) {K : Kn} (hK : K.ok n)
include hP hB hK
theorem bt_e {i j : Nat} (hi : i < n) (hj : j < n) : m_dot [rowD (ro B (K.f i j)), rowD (ro P j)] = some (.v (qD (dotR (ro B (K.f i j)) (ro P j)))) ∧ m__law_dot [rowD (ro B (K.f i j)), rowD (ro P j)] = some (.v (qD (dotR (ro B (K.f i j)) (ro P j)))) ∧
    m_dot [rowD (ro B (K.f i j)), rowD (ro P i)] = some (.v (qD (dotR (ro B (K.f i j)) (ro P i)))) ∧ m__law_dot [rowD (ro B (K.f i j)), rowD (ro P i)] = some (.v (qD (dotR (ro B (K.f i j)) (ro P i)))) ∧
    m_over [qD (dotR (ro B (K.f i j)) (ro P j)), qD (dotR (ro B (K.f i j)) (ro P i))] = some (.v (qD (btE P B K i j))) ∧ m__law_over [qD (dotR (ro B (K.f i j)) (ro P j)), qD (dotR (ro B (K.f i j)) (ro P i))] = some (.v (qD (btE P B K i j))) ∧ Bd 254 (btE P B K i j) := by
  obtain ⟨_, b2, b3⟩ := hB.at1 (Kn.lt hK hi hj)
  obtain ⟨_, i2, i3⟩ := hP.at1 hi
  obtain ⟨_, j2, j3⟩ := hP.at1 hj
  have hg := hP.ghi
  have hg1 := hP.glo
  have hne : ro B (K.f i j) ≠ [] := fun z => by rw [z] at b2; simp at b2; omega
  have d1 := dots b3 j3 (by omega) (by omega)
  have d2 := dots b3 i3 (by omega) (by omega)
  have n1 := dot_bd b3 j3 (by omega) hne (by omega)
  have n2 := dot_bd b3 i3 (by omega) hne (by omega)
  exact ⟨d1.2, d1.1, d2.2, d2.1, over_ok (n1.mono (by omega)) (n2.mono (by omega)), law_over_ok (n1.mono (by omega)) (n2.mono (by omega)), (n1.div n2).mono (by omega)⟩
theorem bt_tab : Tab 254 n (bt P B K n) := by
  refine ⟨by simp [bt], fun l hl => ?_, hP.lo, hP.hi⟩
  obtain ⟨i, hi, rfl⟩ := List.mem_map.mp hl
  refine ⟨by simp, fun r hr => ?_⟩
  obtain ⟨j, hj, rfl⟩ := List.mem_map.mp hr
  exact (bt_e hP hB hK (List.mem_range.mp hi) (List.mem_range.mp hj)).2.2.2.2.2.2
end
theorem bt_row {P B : List (List Rat)} {K : Kn} {n i : Nat} (hi : i < n) : ro (bt P B K n) i = (List.range n).map fun j => btE P B K i j := by
  unfold ro bt
  simp [List.getD_eq_getElem?_getD, hi]
theorem bt_en {P B : List (List Rat)} {K : Kn} {n i j : Nat} (hi : i < n) (hj : j < n) : en (bt P B K n) i j = btE P B K i j := by
  unfold en
  rw [bt_row hi]
  simp [List.getD_eq_getElem?_getD, hj]
theorem enum_rows {k n g : Nat} {P : List (List Rat)} (h : Yr k n g P) : pairL 0 (P.map rowD) = (List.range n).map fun i => .tuple [.int (i : Nat), rowD (ro P i)] := by
  rw [pairL_map]
  apply List.ext_getElem?
  intro i
  rw [List.getElem?_map, List.getElem?_zipIdx, List.getElem?_map]
  by_cases hi : i < n
  · rw [(h.at1 hi).1]
    simp [hi]
  · rw [List.getElem?_eq_none (by rw [h.len]; omega), List.getElem?_eq_none (by simp; omega)]
    rfl
end K85
set_option Elab.async false
set_option linter.all false
set_option maxRecDepth 100000
namespace K85
open PySem Dl

section
variable {n g : Nat} {P B : List (List Rat)} (hP : Yr 10 n g P) (hB : Yr 10 n g B) {K : Kn} (hK : K.ok n)
include hP hB hK
theorem law_table_ok : m__law_table [tabD P, tabD B, K.d] = some (.v (tabD (bt P B K n))) := by
  have hn := hP.hi
  have hl := hP.l
  have inner : ∀ (F : List D) (i : Nat), i < n → ∀ z w, ∃ g', sFor (iRange1 (aCons (eUn lenD (bVar 0)) aNil)) (gVar 6) (sSeq (sSet 7 (vE (eIxV 1 (eIf (tOf (eBin eqD (eVar 2) (eC (.str sOld)))) (eVar 4) (eIf (tOf (eBin eqD (eVar 2) (eC (.str sNew)))) (eVar 6) (eVar 2))))))
    (sEx (eApp 5 (eCall m__law_over (aCons (eV (eCall m__law_dot (aCons (eVar 7) (aCons (eIxV 0 (eVar 6)) aNil)))) (aCons (eV (eCall m__law_dot (aCons (eVar 7) (aCons (eIxV 0 (eVar 4)) aNil)))) aNil)))))) [.v (tabD P), .v (tabD B), .v K.d, .own none F, .v (.int i), .own none [], z, w] = some (.nx g') ∧
      ∃ z w, g' = [.v (tabD P), .v (tabD B), .v K.d, .own none F, .v (.int i), .own none (((List.range n).map fun j => btE P B K i j).map qD), z, w] := fun F i hi z w => by
    have key := forGo_acc (t := gVar 6) (b := sSeq (sSet 7 (vE (eIxV 1 (eIf (tOf (eBin eqD (eVar 2) (eC (.str sOld)))) (eVar 4) (eIf (tOf (eBin eqD (eVar 2) (eC (.str sNew)))) (eVar 6) (eVar 2))))))
      (sEx (eApp 5 (eCall m__law_over (aCons (eV (eCall m__law_dot (aCons (eVar 7) (aCons (eIxV 0 (eVar 6)) aNil)))) (aCons (eV (eCall m__law_dot (aCons (eVar 7) (aCons (eIxV 0 (eVar 4)) aNil)))) aNil)))))) (fun j : Nat => .int (j : Int)) (fun j => btE P B K i j)
      (fun acc g => ∃ z w, g = [.v (tabD P), .v (tabD B), .v K.d, .own none F, .v (.int i), .own none (acc.map qD), z, w]) 12 (List.range n) [] [.v (tabD P), .v (tabD B), .v K.d, .own none F, .v (.int i), .own none [], z, w] (by simpa using hn) (fun j hj acc g hacc hg => by
        obtain ⟨z, w, rfl⟩ := hg
        have hj := List.mem_range.mp hj
        obtain ⟨_, e1, _, e2, _, e3, _⟩ := bt_e hP hB hK hi hj
        refine ⟨[.v (tabD P), .v (tabD B), .v K.d, .own none F, .v (.int i), .own none (acc.map qD), .v (.int j), w], _, rfl, ?_, .v (.int j), .v (rowD (ro B (K.f i j))), rfl⟩
        have s1 := set_v (i := 7) (vE_of (ixV_v (i := 1) (g := [.v (tabD P), .v (tabD B), .v K.d, .own none F, .v (.int i), .own none (acc.map qD), .v (.int j), w]) rfl (pick_ok K (i := i) (j := j) (a := 4) (b := 6) (g := [.v (tabD P), .v (tabD B), .v K.d, .own none F, .v (.int i), .own none (acc.map qD), .v (.int j), w]) rfl rfl rfl) rfl (hB.d1 (Kn.lt hK hi hj))))
        have c1 : eIxV 0 (eVar 6) [.v (tabD P), .v (tabD B), .v K.d, .own none F, .v (.int i), .own none (acc.map qD), .v (.int j), .v (rowD (ro B (K.f i j)))] = some (rowD (ro P j), [.v (tabD P), .v (tabD B), .v K.d, .own none F, .v (.int i), .own none (acc.map qD), .v (.int j), .v (rowD (ro B (K.f i j)))]) := ixV_v rfl rfl rfl (hP.d1 hj)
        have c2 : eIxV 0 (eVar 4) [.v (tabD P), .v (tabD B), .v K.d, .own none F, .v (.int i), .own none (acc.map qD), .v (.int j), .v (rowD (ro B (K.f i j)))] = some (rowD (ro P i), [.v (tabD P), .v (tabD B), .v K.d, .own none F, .v (.int i), .own none (acc.map qD), .v (.int j), .v (rowD (ro B (K.f i j)))]) := ixV_v rfl rfl rfl (hP.d1 hi)
        have c3 := eV_v (eCall_of (ar_cons (f := eVar 7) (g := [.v (tabD P), .v (tabD B), .v K.d, .own none F, .v (.int i), .own none (acc.map qD), .v (.int j), .v (rowD (ro B (K.f i j)))]) (d := rowD (ro B (K.f i j))) rfl (ar_cons c1 ar_nil)) e1)
        have c4 := eV_v (eCall_of (ar_cons (f := eVar 7) (g := [.v (tabD P), .v (tabD B), .v K.d, .own none F, .v (.int i), .own none (acc.map qD), .v (.int j), .v (rowD (ro B (K.f i j)))]) (d := rowD (ro B (K.f i j))) rfl (ar_cons c2 ar_nil)) e2)
        have c5 := eV_v (eCall_of (ar_cons c3 (ar_cons c4 ar_nil)) e3)
        have s2 := ex_of (app_of (i := 5) (t := none) (ds0 := acc.map qD) (ds := acc.map qD) rfl c5 rfl (by simp; omega))
        have e : acc.map qD ++ [qD (btE P B K i j)] = (acc ++ [btE P B K i j]).map qD := by simp
        rw [e] at s2
        exact seq_nx s1 s2) ⟨z, w, rfl⟩
    obtain ⟨g', h1, h2⟩ := key
    refine ⟨g', for_of (rng_of (ar_cons (eUn_of rfl hl) ar_nil) (by omega)) h1, ?_⟩
    simpa using h2
  have key := forGo_acc (t := gVar 4) (b := sSeq (sSet 5 (vLst aNil))
    (sSeq (sFor (iRange1 (aCons (eUn lenD (bVar 0)) aNil)) (gVar 6) (sSeq (sSet 7 (vE (eIxV 1 (eIf (tOf (eBin eqD (eVar 2) (eC (.str sOld)))) (eVar 4) (eIf (tOf (eBin eqD (eVar 2) (eC (.str sNew)))) (eVar 6) (eVar 2))))))
    (sEx (eApp 5 (eCall m__law_over (aCons (eV (eCall m__law_dot (aCons (eVar 7) (aCons (eIxV 0 (eVar 6)) aNil)))) (aCons (eV (eCall m__law_dot (aCons (eVar 7) (aCons (eIxV 0 (eVar 4)) aNil)))) aNil)))))))
    (sEx (eApp 3 (vE (eUn tupD (bVar 5))))))) (fun i : Nat => .int (i : Int)) (fun i => (List.range n).map fun j => btE P B K i j)
    (fun acc g => ∃ a b c d, g = [.v (tabD P), .v (tabD B), .v K.d, .own none (acc.map rowD), a, b, c, d]) 12 (List.range n) [] [.v (tabD P), .v (tabD B), .v K.d, .own none [], .no, .no, .no, .no] (by simpa using hn) (fun i hi acc g hacc hg => by
      obtain ⟨a, b, c, d, rfl⟩ := hg
      have hi := List.mem_range.mp hi
      obtain ⟨g', h1, z, w, rfl⟩ := inner (acc.map rowD) i hi c d
      refine ⟨[.v (tabD P), .v (tabD B), .v K.d, .own none (acc.map rowD), .v (.int i), b, c, d], _, rfl, ?_, .v (.int i), .own none (((List.range n).map fun j => btE P B K i j).map qD), z, w, rfl⟩
      have s1 := set_o (i := 5) (vLst_of (g := [.v (tabD P), .v (tabD B), .v K.d, .own none (acc.map rowD), .v (.int i), b, c, d]) ar_nil)
      have s2 : sEx (eApp 3 (vE (eUn tupD (bVar 5)))) [.v (tabD P), .v (tabD B), .v K.d, .own none (acc.map rowD), .v (.int i), .own none (((List.range n).map fun j => btE P B K i j).map qD), z, w] = some (.nx [.v (tabD P), .v (tabD B), .v K.d, .own none (acc.map rowD ++ [rowD ((List.range n).map fun j => btE P B K i j)]), .v (.int i), .own none (((List.range n).map fun j => btE P B K i j).map qD), z, w]) :=
        ex_of (app_of (i := 3) (t := none) (ds0 := acc.map rowD) (ds := acc.map rowD) (g1 := [.v (tabD P), .v (tabD B), .v K.d, .own none (acc.map rowD), .v (.int i), .own none (((List.range n).map fun j => btE P B K i j).map qD), z, w]) rfl (eV_v (vE_of (eUn_of (op := tupD) (d := .list (((List.range n).map fun j => btE P B K i j).map qD)) rfl rfl))) rfl (by simp; omega))
      have e : acc.map rowD ++ [rowD ((List.range n).map fun j => btE P B K i j)] = (acc ++ [(List.range n).map fun j => btE P B K i j]).map rowD := by simp
      rw [e] at s2
      exact seq_nx s1 (seq_nx h1 s2)) ⟨.no, .no, .no, .no, rfl⟩
  obtain ⟨g', h1, h2⟩ := key
  simp only [List.nil_append] at h2
  obtain ⟨a, b, c, d, rfl⟩ := h2
  have s0 := set_o (i := 3) (vLst_of (g := [.v (tabD P), .v (tabD B), .v K.d, .no, .no, .no, .no, .no]) ar_nil)
  have s1 := for_of (rng_of (ar_cons (f := eUn lenD (bVar 0)) (g := [.v (tabD P), .v (tabD B), .v K.d, .own none [], .no, .no, .no, .no]) (eUn_of rfl hl) ar_nil) (by omega)) h1
  unfold m__law_table b__law_table
  exact fnP_ret _ rfl (seq_nx s0 (seq_nx s1 (ret_v (vE_of (eUn_of (op := tupD) (d := .list ((bt P B K n).map rowD)) rfl rfl)))))
theorem basket_table_ok : m_basket_table [tabD P, tabD B, K.d] = some (.v (tabD (bt P B K n))) := by
  have hn := hP.hi
  have hlo := hP.lo
  have hl := hP.l
  have hlB := hB.l
  obtain ⟨_, p2, _⟩ := hP.at1 (i := 0) (by omega)
  obtain ⟨_, b2, _⟩ := hB.at1 (i := 0) (by omega)
  have r1 := is_rows_ok hP
  have r2 := is_rows_ok hB
  have c0 : sIf (Dl.tNotT (tOf (eV (eCall m_is_rows (aCons (eVar 0) aNil))))) sNo sNil [.v (tabD P), .v (tabD B), .v K.d, .no, .no, .no, .no, .no, .no, .no] = some (.nx [.v (tabD P), .v (tabD B), .v K.d, .no, .no, .no, .no, .no, .no, .no]) := if_f (tNot_of (tOf_b (eV_v (eCall_of (ar_cons rfl ar_nil) r1)))) rfl
  have d0 : atD (tabD P) (.int 0) = some (rowD (ro P 0)) := hP.d1 (i := 0) (by omega)
  have d1 : atD (tabD B) (.int 0) = some (rowD (ro B 0)) := hB.d1 (i := 0) (by omega)
  have l0 := len_row (ro P 0)
  have l1 := len_row (ro B 0)
  rw [p2] at l0
  rw [b2] at l1
  have c1 : sIf (Dl.tOrT (Dl.tNotT (tOf (eV (eCall m_is_rows (aCons (eVar 1) aNil))))) (Dl.tOrT (tOf (eBin neD (eUn lenD (bVar 1)) (eUn lenD (bVar 0)))) (tOf (eBin neD (eUn lenD (eIxV 1 (eC (.int 0)))) (eUn lenD (eIxV 0 (eC (.int 0)))))))) sNo sNil [.v (tabD P), .v (tabD B), .v K.d, .no, .no, .no, .no, .no, .no, .no] = some (.nx [.v (tabD P), .v (tabD B), .v K.d, .no, .no, .no, .no, .no, .no, .no]) := by
    have v1 : eUn lenD (bVar 1) [.v (tabD P), .v (tabD B), .v K.d, .no, .no, .no, .no, .no, .no, .no] = some (.int (n : Int), [.v (tabD P), .v (tabD B), .v K.d, .no, .no, .no, .no, .no, .no, .no]) := eUn_of rfl hlB
    have v2 : eUn lenD (bVar 0) [.v (tabD P), .v (tabD B), .v K.d, .no, .no, .no, .no, .no, .no, .no] = some (.int (n : Int), [.v (tabD P), .v (tabD B), .v K.d, .no, .no, .no, .no, .no, .no, .no]) := eUn_of rfl hl
    have v3 : eUn lenD (eIxV 1 (eC (.int 0))) [.v (tabD P), .v (tabD B), .v K.d, .no, .no, .no, .no, .no, .no, .no] = some (.int (g : Int), [.v (tabD P), .v (tabD B), .v K.d, .no, .no, .no, .no, .no, .no, .no]) := eUn_of (ixV_v rfl rfl rfl d1) l1
    have v4 : eUn lenD (eIxV 0 (eC (.int 0))) [.v (tabD P), .v (tabD B), .v K.d, .no, .no, .no, .no, .no, .no, .no] = some (.int (g : Int), [.v (tabD P), .v (tabD B), .v K.d, .no, .no, .no, .no, .no, .no, .no]) := eUn_of (ixV_v rfl rfl rfl d0) l0
    exact if_f (tOr_f (tNot_of (tOf_b (eV_v (eCall_of (ar_cons rfl ar_nil) r2)))) (tOr_f (tOf_b (eBin_of v1 v2 (neD_f rfl))) (tOf_b (eBin_of v3 v4 (neD_f rfl))))) rfl
  have c2 : sIf (Dl.tAndT (Dl.tNotT (tOf (eV (eCall m_is_within (aCons (eVar 2) (aCons (eC (.int 0)) (aCons (eBin subD (eUn lenD (bVar 0)) (eC (.int 1))) aNil))))))) (Dl.tNotT (Dl.tAndT (tOf (eUn (isiD "str") (eVar 2))) (tOf (eBin inD (eVar 2) (eTup (aCons (eC (.str sOld)) (aCons (eC (.str sNew)) aNil)))))))) sNo sNil [.v (tabD P), .v (tabD B), .v K.d, .no, .no, .no, .no, .no, .no, .no] = some (.nx [.v (tabD P), .v (tabD B), .v K.d, .no, .no, .no, .no, .no, .no, .no]) := by
    have v2 : eBin subD (eUn lenD (bVar 0)) (eC (.int 1)) [.v (tabD P), .v (tabD B), .v K.d, .no, .no, .no, .no, .no, .no, .no] = some (.int ((n : Int) - 1), [.v (tabD P), .v (tabD B), .v K.d, .no, .no, .no, .no, .no, .no, .no]) := eBin_of (eUn_of rfl hl) rfl rfl
    cases K with
    | year y => exact if_f (tAnd_f (tNot_of (tOf_b (eV_v (eCall_of (ar_cons rfl (ar_cons rfl (ar_cons v2 ar_nil))) (within_ok hK)))))) rfl
    | old => exact if_f (tAnd_t (tNot_of (tOf_b (eV_v (eCall_of (ar_cons rfl (ar_cons rfl (ar_cons v2 ar_nil))) within_s)))) (tNot_of (tAnd_t (tOf_b (eUn_of (d := .str sOld) rfl isi_ss)) (tOf_b (eBin_of rfl (eTup_of (ar_cons rfl (ar_cons rfl ar_nil))) in_old))))) rfl
    | new => exact if_f (tAnd_t (tNot_of (tOf_b (eV_v (eCall_of (ar_cons rfl (ar_cons rfl (ar_cons v2 ar_nil))) within_s)))) (tNot_of (tAnd_t (tOf_b (eUn_of (d := .str sNew) rfl isi_ss)) (tOf_b (eBin_of rfl (eTup_of (ar_cons rfl (ar_cons rfl ar_nil))) in_new))))) rfl
  have en1 : ∀ rest, iEnum' (aCons (eVar 0) aNil) (.v (tabD P) :: rest) = some ((List.range n).map fun i => .tuple [.int (i : Nat), rowD (ro P i)], .v (tabD P) :: rest) := fun rest => by
    rw [← enum_rows hP]
    exact enum_of (ar_cons rfl ar_nil) rfl
  have inner : ∀ (F : List D) (i : Nat), i < n → ∀ z w v, ∃ g', sFor (iEnum' (aCons (eVar 0) aNil)) (gTup (gsCons (gVar 7) (gsCons (gVar 8) gsNil)) 2) (sSeq (sSet 9 (vE (eIxV 1 (eIf (tOf (eBin eqD (eVar 2) (eC (.str sOld)))) (eVar 4) (eIf (tOf (eBin eqD (eVar 2) (eC (.str sNew)))) (eVar 7) (eVar 2))))))
    (sEx (eApp 6 (eCall m_over (aCons (eV (eCall m_dot (aCons (eVar 9) (aCons (eVar 8) aNil)))) (aCons (eV (eCall m_dot (aCons (eVar 9) (aCons (eVar 5) aNil)))) aNil)))))) [.v (tabD P), .v (tabD B), .v K.d, .own none F, .v (.int i), .v (rowD (ro P i)), .own none [], z, w, v] = some (.nx g') ∧
      ∃ z w v, g' = [.v (tabD P), .v (tabD B), .v K.d, .own none F, .v (.int i), .v (rowD (ro P i)), .own none (((List.range n).map fun j => btE P B K i j).map qD), z, w, v] := fun F i hi z w v => by
    have key := forGo_acc (t := gTup (gsCons (gVar 7) (gsCons (gVar 8) gsNil)) 2) (b := sSeq (sSet 9 (vE (eIxV 1 (eIf (tOf (eBin eqD (eVar 2) (eC (.str sOld)))) (eVar 4) (eIf (tOf (eBin eqD (eVar 2) (eC (.str sNew)))) (eVar 7) (eVar 2))))))
      (sEx (eApp 6 (eCall m_over (aCons (eV (eCall m_dot (aCons (eVar 9) (aCons (eVar 8) aNil)))) (aCons (eV (eCall m_dot (aCons (eVar 9) (aCons (eVar 5) aNil)))) aNil)))))) (fun j : Nat => .tuple [.int (j : Nat), rowD (ro P j)]) (fun j => btE P B K i j)
      (fun acc g => ∃ z w v, g = [.v (tabD P), .v (tabD B), .v K.d, .own none F, .v (.int i), .v (rowD (ro P i)), .own none (acc.map qD), z, w, v]) 12 (List.range n) [] [.v (tabD P), .v (tabD B), .v K.d, .own none F, .v (.int i), .v (rowD (ro P i)), .own none [], z, w, v] (by simpa using hn) (fun j hj acc g hacc hg => by
        obtain ⟨z, w, v, rfl⟩ := hg
        have hj := List.mem_range.mp hj
        obtain ⟨e1, _, e2, _, e3, _, _⟩ := bt_e hP hB hK hi hj
        refine ⟨[.v (tabD P), .v (tabD B), .v K.d, .own none F, .v (.int i), .v (rowD (ro P i)), .own none (acc.map qD), .v (.int j), .v (rowD (ro P j)), v], _, rfl, ?_, .v (.int j), .v (rowD (ro P j)), .v (rowD (ro B (K.f i j))), rfl⟩
        have s1 := set_v (i := 9) (vE_of (ixV_v (i := 1) (g := [.v (tabD P), .v (tabD B), .v K.d, .own none F, .v (.int i), .v (rowD (ro P i)), .own none (acc.map qD), .v (.int j), .v (rowD (ro P j)), v]) rfl (pick_ok K (i := i) (j := j) (a := 4) (b := 7) (g := [.v (tabD P), .v (tabD B), .v K.d, .own none F, .v (.int i), .v (rowD (ro P i)), .own none (acc.map qD), .v (.int j), .v (rowD (ro P j)), v]) rfl rfl rfl) rfl (hB.d1 (Kn.lt hK hi hj))))
        have c3 := eV_v (eCall_of (ar_cons (f := eVar 9) (g := [.v (tabD P), .v (tabD B), .v K.d, .own none F, .v (.int i), .v (rowD (ro P i)), .own none (acc.map qD), .v (.int j), .v (rowD (ro P j)), .v (rowD (ro B (K.f i j)))]) rfl (ar_cons (f := eVar 8) rfl ar_nil)) e1)
        have c4 := eV_v (eCall_of (ar_cons (f := eVar 9) (g := [.v (tabD P), .v (tabD B), .v K.d, .own none F, .v (.int i), .v (rowD (ro P i)), .own none (acc.map qD), .v (.int j), .v (rowD (ro P j)), .v (rowD (ro B (K.f i j)))]) rfl (ar_cons (f := eVar 5) rfl ar_nil)) e2)
        have c5 := eV_v (eCall_of (ar_cons c3 (ar_cons c4 ar_nil)) e3)
        have s2 := ex_of (app_of (i := 6) (t := none) (ds0 := acc.map qD) (ds := acc.map qD) rfl c5 rfl (by simp; omega))
        have e : acc.map qD ++ [qD (btE P B K i j)] = (acc ++ [btE P B K i j]).map qD := by simp
        rw [e] at s2
        exact seq_nx s1 s2) ⟨z, w, v, rfl⟩
    obtain ⟨g', h1, h2⟩ := key
    refine ⟨g', for_of (en1 _) h1, ?_⟩
    simpa using h2
  have key := forGo_acc (t := gTup (gsCons (gVar 4) (gsCons (gVar 5) gsNil)) 2) (b := sSeq (sSet 6 (vLst aNil))
    (sSeq (sFor (iEnum' (aCons (eVar 0) aNil)) (gTup (gsCons (gVar 7) (gsCons (gVar 8) gsNil)) 2) (sSeq (sSet 9 (vE (eIxV 1 (eIf (tOf (eBin eqD (eVar 2) (eC (.str sOld)))) (eVar 4) (eIf (tOf (eBin eqD (eVar 2) (eC (.str sNew)))) (eVar 7) (eVar 2))))))
    (sEx (eApp 6 (eCall m_over (aCons (eV (eCall m_dot (aCons (eVar 9) (aCons (eVar 8) aNil)))) (aCons (eV (eCall m_dot (aCons (eVar 9) (aCons (eVar 5) aNil)))) aNil)))))))
    (sEx (eApp 3 (vE (eUn tupD (bVar 6))))))) (fun i : Nat => .tuple [.int (i : Nat), rowD (ro P i)]) (fun i => (List.range n).map fun j => btE P B K i j)
    (fun acc g => ∃ a a2 b c d e, g = [.v (tabD P), .v (tabD B), .v K.d, .own none (acc.map rowD), a, a2, b, c, d, e]) 12 (List.range n) [] [.v (tabD P), .v (tabD B), .v K.d, .own none [], .no, .no, .no, .no, .no, .no] (by simpa using hn) (fun i hi acc g hacc hg => by
      obtain ⟨a, a2, b, c, d, e0, rfl⟩ := hg
      have hi := List.mem_range.mp hi
      obtain ⟨g', h1, z, w, v, rfl⟩ := inner (acc.map rowD) i hi c d e0
      refine ⟨[.v (tabD P), .v (tabD B), .v K.d, .own none (acc.map rowD), .v (.int i), .v (rowD (ro P i)), b, c, d, e0], _, rfl, ?_, .v (.int i), .v (rowD (ro P i)), .own none (((List.range n).map fun j => btE P B K i j).map qD), z, w, v, rfl⟩
      have s1 := set_o (i := 6) (vLst_of (g := [.v (tabD P), .v (tabD B), .v K.d, .own none (acc.map rowD), .v (.int i), .v (rowD (ro P i)), b, c, d, e0]) ar_nil)
      have s2 : sEx (eApp 3 (vE (eUn tupD (bVar 6)))) [.v (tabD P), .v (tabD B), .v K.d, .own none (acc.map rowD), .v (.int i), .v (rowD (ro P i)), .own none (((List.range n).map fun j => btE P B K i j).map qD), z, w, v] = some (.nx [.v (tabD P), .v (tabD B), .v K.d, .own none (acc.map rowD ++ [rowD ((List.range n).map fun j => btE P B K i j)]), .v (.int i), .v (rowD (ro P i)), .own none (((List.range n).map fun j => btE P B K i j).map qD), z, w, v]) :=
        ex_of (app_of (i := 3) (t := none) (ds0 := acc.map rowD) (ds := acc.map rowD) (g1 := [.v (tabD P), .v (tabD B), .v K.d, .own none (acc.map rowD), .v (.int i), .v (rowD (ro P i)), .own none (((List.range n).map fun j => btE P B K i j).map qD), z, w, v]) rfl (eV_v (vE_of (eUn_of (op := tupD) (d := .list (((List.range n).map fun j => btE P B K i j).map qD)) rfl rfl))) rfl (by simp; omega))
      have e : acc.map rowD ++ [rowD ((List.range n).map fun j => btE P B K i j)] = (acc ++ [(List.range n).map fun j => btE P B K i j]).map rowD := by simp
      rw [e] at s2
      exact seq_nx s1 (seq_nx h1 s2)) ⟨.no, .no, .no, .no, .no, .no, rfl⟩
  obtain ⟨g', h1, h2⟩ := key
  simp only [List.nil_append] at h2
  obtain ⟨a, a2, b, c, d, e, rfl⟩ := h2
  have s0 := set_o (i := 3) (vLst_of (g := [.v (tabD P), .v (tabD B), .v K.d, .no, .no, .no, .no, .no, .no, .no]) ar_nil)
  have s1 := for_of (en1 _) h1
  unfold m_basket_table b_basket_table
  exact fnP_ret _ rfl (seq_nx c0 (seq_nx c1 (seq_nx c2 (seq_nx s0 (seq_nx s1 (ret_v (vE_of (eUn_of (op := tupD) (d := .list ((bt P B K n).map rowD)) rfl rfl))))))))
end
end K85
set_option Elab.async false
set_option linter.all false
set_option maxRecDepth 100000
namespace K85
open PySem Dl

theorem pos_lc {iv v : Nat} (hne : iv ≠ v) : ∀ (ds : List D) (es : List D), Hand es → ∃ rs es', rs.length = ds.length ∧ BdL 10 rs ∧ Hand es' ∧ ∀ (g : G) (t : Option Addr), g[iv]? = some (.own t es) → g[v]? = some .no →
    lcGo (gVar v) cYes (eV (eCallI m__law_positive iv aNil)) [v] ds g = some (rs.map qD, g.set iv (.own t es'))
  | [], es, h => ⟨[], es, rfl, fun r hr => by simp at hr, h, fun g t hg _ => by
    show some ([], g) = some ([], g.set iv (.own t es))
    congr 2
    obtain ⟨hi, e⟩ := List.getElem?_eq_some_iff.mp hg
    rw [← e, List.set_getElem_self]⟩
  | d :: ds, es, h => by
    obtain ⟨r0, es1, e1, b1, H1⟩ := positive_ok h
    obtain ⟨rs, es', h1, h2, h3, h4⟩ := pos_lc hne ds es1 H1
    refine ⟨r0 :: rs, es', by simp [h1], fun r hr => ?_, h3, fun g t hg hv => ?_⟩
    · rcases List.mem_cons.mp hr with rfl | hr
      · exact b1
      · exact h2 r hr
    · obtain ⟨hi, _⟩ := List.getElem?_eq_some_iff.mp hg
      obtain ⟨hvl, ev⟩ := List.getElem?_eq_some_iff.mp hv
      have k1 : (g.set v (.v d))[iv]? = some (.own t es) := by rw [List.getElem?_set_ne (Ne.symm hne)]; exact hg
      have k2 := callI_of (m := m__law_positive) (f := aNil) (by rw [k1]; rfl) ar_nil k1 e1
      have k3 : ((g.set v (.v d)).set iv (.own t es1)).set v .no = g.set iv (.own t es1) := by
        rw [List.set_comm _ _ hne, List.set_set]
        congr 1
        rw [← ev, List.set_getElem_self]
      have k4 := h4 (g.set iv (.own t es1)) t (List.getElem?_set_self hi) (by rw [List.getElem?_set_ne hne]; exact hv)
      rw [List.set_set] at k4
      have k5 := eV_v k2
      show ((gVar v d g).bind fun g1 => (cYes g1).bind fun p => if p.1 = true then (eV (eCallI m__law_positive iv aNil) p.2).bind fun q => (lcGo (gVar v) cYes (eV (eCallI m__law_positive iv aNil)) [v] ds (wipeG q.2 [v])).map fun w => (q.1 :: w.1, w.2) else _) = _
      simp only [gVar, Option.bind_some, cYes, if_true, k5, wipeG, k3, k4, Option.map_some, List.map_cons]
structure YS where
  es : List D
  P : List (List Rat)
  B : List (List Rat)
  y : Sl
abbrev encY (n g : Nat) (t : Option Addr) (s : YS) : G := [.own t s.es, .v (.int n), .v (.int g), .own none (s.P.map rowD), .own none (s.B.map rowD), s.y, .no, .no, .no, .no, .no, .no, .no, .no, .no]
structure YI (g m : Nat) (s : YS) : Prop where
  h : Hand s.es
  pl : s.P.length = m
  bl : s.B.length = m
  pr : ∀ l ∈ s.P, l.length = g ∧ BdL 10 l
  br : ∀ l ∈ s.B, l.length = g ∧ BdL 10 l
  ml : m ≤ 100000
theorem years_ok {es : List D} {n g : Nat} (h : Hand es) (hn : n ≤ 12) (hg : g ≤ 6) : ∃ s : YS, YI g n s ∧ ∀ t,
    sFor (iRange1 (aCons (eVar 1) aNil)) (gVar 5) (sSeq (sEx (eApp 3 (vE (eUn tupD (eV (vLc (iRange1 (aCons (eVar 2) aNil)) (gVar 12) cYes (eV (eCallI m__law_positive 0 aNil)) [12]))))))
      (sEx (eApp 4 (vE (eUn tupD (eV (vLc (iRange1 (aCons (eVar 2) aNil)) (gVar 12) cYes (eV (eCallI m__law_positive 0 aNil)) [12]))))))) (encY n g t ⟨es, [], [], .no⟩) = some (.nx (encY n g t s)) := by
  have one : ∀ (es : List D) (P B : List (List Rat)), Hand es → ∃ rs es', rs.length = g ∧ BdL 10 rs ∧ Hand es' ∧ ∀ (t : Option Addr) (d : D), eUn tupD (eV (vLc (iRange1 (aCons (eVar 2) aNil)) (gVar 12) cYes (eV (eCallI m__law_positive 0 aNil)) [12])) (encY n g t ⟨es, P, B, .v d⟩) = some (rowD rs, encY n g t ⟨es', P, B, .v d⟩) := fun es P B h => by
    obtain ⟨rs, es', h1, h2, h3, h4⟩ := pos_lc (iv := 0) (v := 12) (by decide) ((List.range g).map fun (i : Nat) => .int (i : Int)) es h
    refine ⟨rs, es', by simpa using h1, h2, h3, fun t d => ?_⟩
    have k := vLc_of (fi := iRange1 (aCons (eVar 2) aNil)) (g := encY n g t ⟨es, P, B, .v d⟩) (rng_of (n := g) (ar_cons rfl ar_nil) (by omega)) rfl (h4 (encY n g t ⟨es, P, B, .v d⟩) t rfl rfl) (by simp at h1; simp [h1]; omega)
    exact eUn_of (eV_o k) rfl
  obtain ⟨s', h1, h2⟩ := forGo_uni (tg := gVar 5) (b := sSeq (sEx (eApp 3 (vE (eUn tupD (eV (vLc (iRange1 (aCons (eVar 2) aNil)) (gVar 12) cYes (eV (eCallI m__law_positive 0 aNil)) [12]))))))
      (sEx (eApp 4 (vE (eUn tupD (eV (vLc (iRange1 (aCons (eVar 2) aNil)) (gVar 12) cYes (eV (eCallI m__law_positive 0 aNil)) [12]))))))) (encY n g) (YI g) 12 ((List.range n).map fun (i : Nat) => .int (i : Int)) 0 ⟨es, [], [], .no⟩ (by simpa using hn) ⟨h, rfl, rfl, by simp, by simp, by decide⟩ (fun d _ m s hm hs => by
        · obtain ⟨rs, es1, a1, a2, a3, a4⟩ := one s.es s.P s.B hs.h
          obtain ⟨rs2, es2, b1, b2, b3, b4⟩ := one es1 (s.P ++ [rs]) s.B a3
          refine ⟨⟨es2, s.P ++ [rs], s.B ++ [rs2], .v d⟩, ⟨b3, by simp [hs.pl], by simp [hs.bl], fun l hl => ?_, fun l hl => ?_, by omega⟩, fun t => ⟨_, rfl, ?_⟩⟩
          · rcases List.mem_append.mp hl with hl | hl
            · exact hs.pr l hl
            · rw [List.mem_singleton] at hl; subst hl; exact ⟨a1, a2⟩
          · rcases List.mem_append.mp hl with hl | hl
            · exact hs.br l hl
            · rw [List.mem_singleton] at hl; subst hl; exact ⟨b1, b2⟩
          · have s1 := ex_of (app_of (i := 3) (t := none) (ds0 := s.P.map rowD) (ds := s.P.map rowD) (g := encY n g t ⟨s.es, s.P, s.B, .v d⟩) rfl (eV_v (vE_of (a4 t d))) rfl (by have := hs.pl; have := hs.ml; simp; omega))
            have e1 : s.P.map rowD ++ [rowD rs] = (s.P ++ [rs]).map rowD := by simp
            rw [e1] at s1
            have s2 := ex_of (app_of (i := 4) (t := none) (ds0 := s.B.map rowD) (ds := s.B.map rowD) (g := encY n g t ⟨es1, s.P ++ [rs], s.B, .v d⟩) rfl (eV_v (vE_of (b4 t d))) rfl (by have := hs.bl; have := hs.ml; simp; omega))
            have e2 : s.B.map rowD ++ [rowD rs2] = (s.B ++ [rs2]).map rowD := by simp
            rw [e2] at s2
            exact seq_nx s1 s2)
  refine ⟨s', ?_, fun t => for_of (rng_of (n := n) (ar_cons rfl ar_nil) (by omega)) (h2 t)⟩
  simpa using h1
end K85
set_option Elab.async false
set_option linter.all false
set_option maxRecDepth 100000
namespace K85
open PySem Dl

theorem noturn {T : List (List Rat)} {n : Nat} (u : Nat → Rat) (hu : ∀ i, i < n → u i ≠ 0) (h : ∀ i j, i < n → j < n → en T i j = u j / u i) : tu T n = none := by
  unfold tu
  rw [List.findSome?_eq_none_iff]
  intro i hi
  unfold tuI
  rw [List.findSome?_eq_none_iff]
  intro j hj
  unfold tuJ
  rw [List.findSome?_eq_none_iff]
  intro k hk
  have hi := List.mem_range.mp hi
  have hj := List.mem_range.mp hj
  have hk := List.mem_range.mp hk
  unfold tuK
  rw [h i j hi hj, h j k hj hk, h i k hi hk]
  rw [if_pos]
  have h1 := hu j hj
  have h2 := hu i hi
  rw [Rat.div_def, Rat.div_def, Rat.div_def, Rat.mul_comm (u j), Rat.mul_assoc, ← Rat.mul_assoc (u j), Rat.mul_comm (u j) (u k), Rat.mul_assoc (u k), Rat.mul_inv_cancel _ h1, Rat.mul_one, Rat.mul_comm]
theorem map_ro {k n g : Nat} {P : List (List Rat)} (h : Yr k n g P) {β : Type} (f : List Rat → β) : ((List.range n).map fun j => f (ro P j)) = P.map f := by
  apply List.ext_getElem?
  intro i
  rw [List.getElem?_map, List.getElem?_map]
  by_cases hi : i < n
  · rw [(h.at1 hi).1]
    simp [hi]
  · rw [List.getElem?_eq_none (by simp; omega), List.getElem?_eq_none (by rw [h.len]; omega)]
    rfl
theorem dot1 {l m : List Rat} (hl : l.length = 1) (hm : m.length = 1) : dotR l m = l.getD 0 0 * m.getD 0 0 := by
  match l, hl with
  | [a], _ =>
    match m, hm with
    | [b], _ =>
      show 0 + a * b = a * b
      rw [Rat.zero_add]
theorem repr_tab {k n : Nat} {T : List (List Rat)} (h : Tab k n T) (hk : k ≤ 1900) : ∃ x, reprD (tabD T) = some (.str x) := by
  have hhi := h.hi
  refine ⟨_, reprD_of ?_ ?_ rfl ?_⟩
  · unfold tabD
    rw [rpD]
    exact rpAll_of fun d hd => by
      obtain ⟨r, hr, rfl⟩ := List.mem_map.mp hd
      exact rp_row (h.row r hr).2 hk
  · have := dep_tab T
    omega
  · unfold tabD
    rw [lnD]
    have := lnAll_of (xs := T.map rowD) (n := 20000) fun d hd => by
      obtain ⟨r, hr, rfl⟩ := List.mem_map.mp hd
      exact ln_row (by have := (h.row r hr).1; omega)
    simp only [List.length_map] at this
    have := h.len
    omega
section
variable {n g : Nat} {P B : List (List Rat)} (hP : Yr 10 n g P) (hB : Yr 10 n g B)
include hP hB
theorem dot_pos {i j : Nat} (hi : i < n) (hj : j < n) : Bd 127 (dotR (ro B i) (ro P j)) := by
  obtain ⟨_, b2, b3⟩ := hB.at1 hi
  obtain ⟨_, j2, j3⟩ := hP.at1 hj
  have hg := hP.ghi
  have hg1 := hP.glo
  have hne : ro B i ≠ [] := fun z => by rw [z] at b2; simp at b2; omega
  exact dot_bd b3 j3 (by omega) hne (by omega)
theorem year_told {y : Nat} (hy : y < n) : tu (bt P B (.year y) n) n = none := by
  refine noturn (fun j => dotR (ro B y) (ro P j)) (fun i hi => Rat.ne_of_gt (dot_pos hP hB hy hi).rpos) fun i j hi hj => ?_
  rw [bt_en hi hj]
  rfl
theorem one_told (hg : g = 1) (K : Kn) (hK : K = .old ∨ K = .new) : tu (bt P B K n) n = none := by
  have gp : ∀ i, i < n → 0 < (ro P i).getD 0 0 ∧ (ro P i).length = 1 := fun i hi => by
    obtain ⟨_, i2, i3⟩ := hP.at1 hi
    rw [hg] at i2
    refine ⟨?_, i2⟩
    have : (ro P i)[0]? = some ((ro P i).getD 0 0) := by
      rw [List.getD_eq_getElem?_getD, List.getElem?_eq_getElem (by omega)]
      rfl
    exact (i3 _ (List.mem_of_getElem? this)).rpos
  have gb : ∀ i, i < n → 0 < (ro B i).getD 0 0 ∧ (ro B i).length = 1 := fun i hi => by
    obtain ⟨_, i2, i3⟩ := hB.at1 hi
    rw [hg] at i2
    refine ⟨?_, i2⟩
    have : (ro B i)[0]? = some ((ro B i).getD 0 0) := by
      rw [List.getD_eq_getElem?_getD, List.getElem?_eq_getElem (by omega)]
      rfl
    exact (i3 _ (List.mem_of_getElem? this)).rpos
  refine noturn (fun j => (ro P j).getD 0 0) (fun i hi => Rat.ne_of_gt (gp i hi).1) fun i j hi hj => ?_
  rw [bt_en hi hj]
  have hf : K.f i j < n := by rcases hK with rfl | rfl <;> assumption
  unfold btE
  rw [dot1 (gb _ hf).2 (gp j hj).2, dot1 (gb _ hf).2 (gp i hi).2]
  have h1 := Rat.ne_of_gt (gb _ hf).1
  have h2 := Rat.ne_of_gt (gp i hi).1
  generalize (ro B (K.f i j)).getD 0 0 = b at h1 ⊢
  generalize (ro P j).getD 0 0 = p
  generalize (ro P i).getD 0 0 = q at h2 ⊢
  rw [Rat.div_def, Rat.inv_mul_rev, Rat.mul_comm b p, Rat.mul_assoc, Rat.mul_comm q⁻¹, ← Rat.mul_assoc b, Rat.mul_inv_cancel _ h1, Rat.one_mul, Rat.div_def]
theorem back_ok : bt P B .new n = (List.range n).map fun i => (List.range n).map fun j => 1 / en (bt P B .old n) j i := by
  unfold bt
  apply List.map_congr_left
  intro i hi
  apply List.map_congr_left
  intro j hj
  have hi := List.mem_range.mp hi
  have hj := List.mem_range.mp hj
  have e := bt_en (P := P) (B := B) (K := .old) hj hi
  unfold bt at e
  rw [e]
  show dotR (ro B j) (ro P j) / dotR (ro B j) (ro P i) = 1 / (dotR (ro B j) (ro P i) / dotR (ro B j) (ro P j))
  rw [Rat.div_def, Rat.div_def, Rat.div_def, Rat.inv_mul_rev, Rat.inv_inv, Rat.one_mul]
end
theorem eqvAll_self2 {a b : D} (h1 : PyData.eqv a a = true) (h2 : PyData.eqv b b = true) : PyData.eqvAll [a, b] [a, b] = true := by
  simp [PyData.eqvAll, h1, h2]
theorem ne_told (l : List Rat) : neD (.tuple [.str (Str.ofString "levels"), rowD l]) (.tuple [.str (Str.ofString "levels"), rowD l]) = some (.bool false) := by
  have hs : SeqAt.shaped (.tuple [.str (Str.ofString "levels"), rowD l]) = true := by
    have h0 : (PyData.str (Str.ofString "levels")).canLay0 = true := by decide +kernel
    refine shaped_of ?_ ?_
    · simp only [PyData.canLay0, PyData.canLayAll0, Bool.and_true, Bool.and_eq_true] at h0 ⊢
      exact ⟨h0, lay_row l⟩
    · have := dep_row l
      simp only [PyData.depth, PyData.depthAll]
      omega
  exact neD_sh hs hs (eqvAll_self2 (by rw [eqv_str]; simp) (by rw [eqv_row]; simp)) rfl
theorem ne_levels2 : neD (.list [.str (Str.ofString "levels"), .str (Str.ofString "levels")]) (.list [.str (Str.ofString "levels"), .str (Str.ofString "levels")]) = some (.bool false) := by
  have hs : SeqAt.shaped (.list [.str (Str.ofString "levels"), .str (Str.ofString "levels")]) = true := by decide +kernel
  have he : PyData.eqv (.list [.str (Str.ofString "levels"), .str (Str.ofString "levels")]) (.list [.str (Str.ofString "levels"), .str (Str.ofString "levels")]) = true := by
    rw [eqv_lst]
    exact eqvAll_self2 (by rw [eqv_str]; simp) (by rw [eqv_str]; simp)
  exact neD_sh hs hs he rfl
end K85
set_option Elab.async false
set_option linter.all false
set_option maxRecDepth 100000
namespace K85
open PySem Dl

section
variable {n g y : Nat} {P B : List (List Rat)} (hP : Yr 10 n g P) (hB : Yr 10 n g B) (hy : y < n)
include hP hB hy
theorem kinds_ok (es : List D) (t : Option Addr) :
    ∃ z, sFor (iSeq (eTup (aCons (eC (.str sOld)) (aCons (eC (.str sNew)) (aCons (eVar 5) aNil))))) (gVar 7) (sSeq (sEx (eApp 6 (eCall m_basket_table (aCons (eVar 3) (aCons (eVar 4) (aCons (eVar 7) aNil))))))
      (sIf (Dl.tOrT (tOf (eBin neD (eUn reprD (eIxV 6 (eUn negD (eC (.int 1))))) (eUn reprD (eV (eCall m__law_table (aCons (eVar 3) (aCons (eVar 4) (aCons (eVar 7) aNil)))))))) (Dl.tNotT (tOf (eV (eCall m__law_is_told (aCons (eIxV 6 (eUn negD (eC (.int 1)))) aNil)))))) (sRet (vE (eC (.bool false)))) sNil))
      [.own t es, .v (.int n), .v (.int g), .v (tabD P), .v (tabD B), .v (.int y), .own none [], .no, .no, .no, .no, .no, .no, .no, .no] =
      some (.nx [.own t es, .v (.int n), .v (.int g), .v (tabD P), .v (tabD B), .v (.int y), .own none ([bt P B .old n, bt P B .new n, bt P B (.year y) n].map tabD), z, .no, .no, .no, .no, .no, .no, .no]) := by
  have key := forGo_acc (t := gVar 7) (b := sSeq (sEx (eApp 6 (eCall m_basket_table (aCons (eVar 3) (aCons (eVar 4) (aCons (eVar 7) aNil))))))
      (sIf (Dl.tOrT (tOf (eBin neD (eUn reprD (eIxV 6 (eUn negD (eC (.int 1))))) (eUn reprD (eV (eCall m__law_table (aCons (eVar 3) (aCons (eVar 4) (aCons (eVar 7) aNil)))))))) (Dl.tNotT (tOf (eV (eCall m__law_is_told (aCons (eIxV 6 (eUn negD (eC (.int 1)))) aNil)))))) (sRet (vE (eC (.bool false)))) sNil))
    Kn.d (fun K => bt P B K n) (fun acc g' => ∃ z, g' = [.own t es, .v (.int n), .v (.int g), .v (tabD P), .v (tabD B), .v (.int y), .own none (acc.map tabD), z, .no, .no, .no, .no, .no, .no, .no]) 3 [.old, .new, .year y] []
    [.own t es, .v (.int n), .v (.int g), .v (tabD P), .v (tabD B), .v (.int y), .own none [], .no, .no, .no, .no, .no, .no, .no, .no] (by simp) (fun K hKm acc g' hacc hg => by
      obtain ⟨z, rfl⟩ := hg
      have hK : K.ok n := by
        simp only [List.mem_cons, List.not_mem_nil, or_false] at hKm
        rcases hKm with rfl | rfl | rfl
        · trivial
        · trivial
        · exact hy
      have q1 := basket_table_ok hP hB hK
      have q2 := law_table_ok hP hB hK
      have q3 := is_told_ok (bt_tab hP hB hK) (by decide)
      obtain ⟨x, hx⟩ := repr_tab (bt_tab hP hB hK) (by decide)
      have hne : neD (.str x) (.str x) = some (.bool false) := by rw [neD_ss]; simp
      refine ⟨[.own t es, .v (.int n), .v (.int g), .v (tabD P), .v (tabD B), .v (.int y), .own none (acc.map tabD), .v K.d, .no, .no, .no, .no, .no, .no, .no], _, rfl, ?_, .v K.d, rfl⟩
      have s1 := ex_of (app_of (i := 6) (t := none) (ds0 := acc.map tabD) (ds := acc.map tabD) (g := [.own t es, .v (.int n), .v (.int g), .v (tabD P), .v (tabD B), .v (.int y), .own none (acc.map tabD), .v K.d, .no, .no, .no, .no, .no, .no, .no]) rfl (eV_v (eCall_of (f := aCons (eVar 3) (aCons (eVar 4) (aCons (eVar 7) aNil))) (ar_cons rfl (ar_cons rfl (ar_cons rfl ar_nil))) q1)) rfl (by simp; omega))
      have e : acc.map tabD ++ [tabD (bt P B K n)] = (acc ++ [bt P B K n]).map tabD := by simp
      rw [e] at s1
      have la : atD (.list ((acc ++ [bt P B K n]).map tabD)) (.int (-1)) = some (tabD (bt P B K n)) := by
        rw [List.map_append]
        exact atI_last
      have v1 : eIxV 6 (eUn negD (eC (.int 1))) [.own t es, .v (.int n), .v (.int g), .v (tabD P), .v (tabD B), .v (.int y), .own none ((acc ++ [bt P B K n]).map tabD), .v K.d, .no, .no, .no, .no, .no, .no, .no] = some (tabD (bt P B K n), [.own t es, .v (.int n), .v (.int g), .v (tabD P), .v (tabD B), .v (.int y), .own none ((acc ++ [bt P B K n]).map tabD), .v K.d, .no, .no, .no, .no, .no, .no, .no]) := ixV_v rfl rfl rfl la
      have v2 := eV_v (eCall_of (f := aCons (eVar 3) (aCons (eVar 4) (aCons (eVar 7) aNil))) (g := [.own t es, .v (.int n), .v (.int g), .v (tabD P), .v (tabD B), .v (.int y), .own none ((acc ++ [bt P B K n]).map tabD), .v K.d, .no, .no, .no, .no, .no, .no, .no]) (ar_cons rfl (ar_cons rfl (ar_cons rfl ar_nil))) q2)
      have v3 := eV_v (eCall_of (ar_cons v1 ar_nil) q3)
      exact seq_nx s1 (if_f (tOr_f (tOf_b (eBin_of (eUn_of v1 hx) (eUn_of v2 hx) hne)) (tNot_of (tOf_b v3))) rfl)) ⟨.no, rfl⟩
  obtain ⟨g', h1, z, h2⟩ := key
  refine ⟨z, for_of (iSeq_of (d := .tuple [.str sOld, .str sNew, .int y]) (eTup_of (ar_cons rfl (ar_cons rfl (ar_cons rfl ar_nil)))) rfl) ?_⟩
  rw [h2] at h1
  exact h1
end
theorem basket_ok {es : List D} (h : Hand es) : ∃ es', m__law_is_basket_right es [] = some (.v (.bool true), es') ∧ Hand es' := by
  -- draws
  obtain ⟨d1, es1, e1, hd1, H1⟩ := any_ok (ds := [.int 3, .int 5, .int 12]) h (by simp) (by simp)
  have hb : ∃ b : Int, d1 = .int b ∧ 0 < b ∧ b ≤ 12 := by
    simp only [List.mem_cons, List.not_mem_nil, or_false] at hd1
    rcases hd1 with rfl | rfl | rfl
    · exact ⟨3, rfl, by decide, by decide⟩
    · exact ⟨5, rfl, by decide, by decide⟩
    · exact ⟨12, rfl, by decide, by decide⟩
  obtain ⟨b, rfl, hb0, hb1⟩ := hb
  obtain ⟨x2, es2, e2, h20, h21, H2⟩ := draw_ok H1 (m := b) hb0 (by omega)
  obtain ⟨x3, es3, e3, h30, h31, H3⟩ := draw_ok H2 (m := 6) (by decide) (by decide)
  obtain ⟨n, hn⟩ : ∃ n : Nat, (n : Int) = 1 + x2 := ⟨(1 + x2).toNat, by omega⟩
  obtain ⟨g, hg⟩ : ∃ g : Nat, (g : Int) = 1 + x3 := ⟨(1 + x3).toNat, by omega⟩
  obtain ⟨⟨es4, P, B, yz⟩, I4, F4⟩ := years_ok (n := n) (g := g) H3 (by omega) (by omega)
  have hP : Yr 10 n g P := ⟨I4.pl, I4.pr, by omega, by omega, by omega, by omega⟩
  have hB : Yr 10 n g B := ⟨I4.bl, I4.br, by omega, by omega, by omega, by omega⟩
  obtain ⟨x5, es5, e5, h50, h51, H5⟩ := draw_ok I4.h (m := (n : Int)) (by omega) (by omega)
  obtain ⟨y, rfl⟩ := Int.eq_ofNat_of_zero_le h50
  have hy : y < n := by omega
  have hno : 1 ≤ n ∧ n ≤ 12 := by omega
  -- tables
  have hT0 := bt_tab hP hB (K := .old) trivial
  have hT1 := bt_tab hP hB (K := .new) trivial
  have hT2 := bt_tab hP hB (K := .year y) hy
  have l2 := levels_ok hT2 (by decide)
  have a2 : ansD (bt P B (.year y) n) n = toldD (bt P B (.year y) n) := by unfold ansD; rw [year_told hP hB hy]
  rw [a2] at l2
  obtain ⟨cs, hcs⟩ : ∃ cs, cs = P.map fun row => dotR (ro B y) row := ⟨_, rfl⟩
  have hcl : cs.length = n := by rw [hcs]; simp [hP.len]
  have hc0 : cs[0]? = some (dotR (ro B y) (ro P 0)) := by rw [hcs, List.getElem?_map, (hP.at1 (i := 0) (by omega)).1]; rfl
  have hcb : ∀ c ∈ cs, Bd 127 c := fun c hc => by
    rw [hcs, ← map_ro hP] at hc
    obtain ⟨j, hj, rfl⟩ := List.mem_map.mp hc
    exact dot_pos hP hB hy (List.mem_range.mp hj)
  have hrow : ro (bt P B (.year y) n) 0 = cs.map fun c => c / dotR (ro B y) (ro P 0) := by
    rw [bt_row (by omega), hcs, List.map_map]
    exact map_ro hP fun row => dotR (ro B y) row / dotR (ro B y) (ro P 0)
  obtain ⟨bk, hbk⟩ : ∃ bk, bk = (List.range n).map fun i => (List.range n).map fun j => 1 / en (bt P B .old n) j i := ⟨_, rfl⟩
  refine ⟨es5, ?_, H5⟩
  unfold m__law_is_basket_right
  refine fnI_ret fun a => ?_
  obtain ⟨z, F6⟩ := kinds_ok hP hB hy es5 (some a)
  -- many, goods
  have v1 := vLst_of (f := aCons (eC (.int 3)) (aCons (eC (.int 5)) (aCons (eC (.int 12)) aNil))) (g := [.own (some a) es, .no, .no, .no, .no, .no, .no, .no, .no, .no, .no, .no, .no, .no, .no]) (ar_cons rfl (ar_cons rfl (ar_cons rfl ar_nil)))
  have v2 := callI_of (m := m__law_any) (i := 0) (g := [.own (some a) es, .no, .no, .no, .no, .no, .no, .no, .no, .no, .no, .no, .no, .no, .no]) (t := some a) rfl (ar_cons (eV_o v1) ar_nil) rfl e1
  have v3 := callI_of (m := m__law_draw) (i := 0) (g := [.own (some a) es, .no, .no, .no, .no, .no, .no, .no, .no, .no, .no, .no, .no, .no, .no]) (t := some a) rfl (ar_cons (eV_v v2) ar_nil) rfl e2
  have v4 := vE_of (eBin_of (f := eC (.int 1)) rfl (eV_v v3) (addA_int 1 x2))
  have v5 := callI_of (m := m__law_draw) (i := 0) (f := aCons (eC (.int 6)) aNil) (g := [.own (some a) es2, .no, .no, .no, .no, .no, .no, .no, .no, .no, .no, .no, .no, .no, .no]) (t := some a) rfl (ar_cons rfl ar_nil) rfl e3
  have v6 := vE_of (eBin_of (f := eC (.int 1)) rfl (eV_v v5) (addA_int 1 x3))
  have s1 := par_of (i := 1) (j := 2) v4 v6
  rw [← hn, ← hg] at s1
  have s2 := parO_of (i := 3) (j := 4) (f := vLst aNil) (h := vLst aNil) (g := [.own (some a) es3, .v (.int n), .v (.int g), .no, .no, .no, .no, .no, .no, .no, .no, .no, .no, .no, .no]) (vLst_of ar_nil) (vLst_of ar_nil)
  have s3 := F4 (some a)
  -- tuples, the year
  have v7 := callI_of (m := m__law_draw) (i := 0) (f := aCons (eVar 1) aNil) (g := [.own (some a) es4, .v (.int n), .v (.int g), .own none (P.map rowD), .own none (B.map rowD), yz, .no, .no, .no, .no, .no, .no, .no, .no, .no]) (t := some a) rfl (ar_cons rfl ar_nil) rfl e5
  have v8 : eUn tupD (bVar 3) [.own (some a) es4, .v (.int n), .v (.int g), .own none (P.map rowD), .own none (B.map rowD), yz, .no, .no, .no, .no, .no, .no, .no, .no, .no] = some (tabD P, [.own (some a) es4, .v (.int n), .v (.int g), .own none (P.map rowD), .own none (B.map rowD), yz, .no, .no, .no, .no, .no, .no, .no, .no, .no]) := eUn_of rfl rfl
  have v9 : eUn tupD (bVar 4) [.own (some a) es4, .v (.int n), .v (.int g), .own none (P.map rowD), .own none (B.map rowD), yz, .no, .no, .no, .no, .no, .no, .no, .no, .no] = some (tabD B, [.own (some a) es4, .v (.int n), .v (.int g), .own none (P.map rowD), .own none (B.map rowD), yz, .no, .no, .no, .no, .no, .no, .no, .no, .no]) := eUn_of rfl rfl
  have s4 := asg_of (tg := gTup (gsCons (gVar 3) (gsCons (gVar 4) (gsCons (gVar 5) gsNil))) 3) (g2 := [.own (some a) es5, .v (.int n), .v (.int g), .v (tabD P), .v (tabD B), .v (.int y), .no, .no, .no, .no, .no, .no, .no, .no, .no]) (eTup_of (ar_cons v8 (ar_cons v9 (ar_cons (eV_v v7) ar_nil)))) rfl
  have s5 := set_o (i := 6) (f := vLst aNil) (g := [.own (some a) es5, .v (.int n), .v (.int g), .v (tabD P), .v (tabD B), .v (.int y), .no, .no, .no, .no, .no, .no, .no, .no, .no]) (vLst_of ar_nil)
  -- costs
  obtain ⟨TT, hTT⟩ : ∃ TT, TT = ([bt P B .old n, bt P B .new n, bt P B (.year y) n].map tabD) := ⟨_, rfl⟩
  rw [← hTT] at F6
  have w1 := vLc_map (fi := iSeq (eVar 3)) (t := gVar 10) (c := cYes) (f := eV (eCall m__law_dot (aCons (eIxV 4 (eVar 5)) (aCons (eVar 10) aNil)))) (vs := [10]) (g := [.own (some a) es5, .v (.int n), .v (.int g), .v (tabD P), .v (tabD B), .v (.int y), .own none TT, z, .no, .no, .no, .no, .no, .no, .no]) (g0 := [.own (some a) es5, .v (.int n), .v (.int g), .v (tabD P), .v (tabD B), .v (.int y), .own none TT, z, .no, .no, .no, .no, .no, .no, .no])
    (xs := P) rowD (fun row => qD (dotR (ro B y) row)) (iSeq_of rfl rfl) rfl (by have := hP.len; omega) (fun row hr => by
      obtain ⟨_, b2, b3⟩ := hB.at1 hy
      have d := (dots b3 (hP.row row hr).2 (by decide) (by have := hP.ghi; omega)).1
      exact ⟨[.own (some a) es5, .v (.int n), .v (.int g), .v (tabD P), .v (tabD B), .v (.int y), .own none TT, z, .no, .no, .v (rowD row), .no, .no, .no, .no], [.own (some a) es5, .v (.int n), .v (.int g), .v (tabD P), .v (tabD B), .v (.int y), .own none TT, z, .no, .no, .v (rowD row), .no, .no, .no, .no], rfl, rfl,
        eV_v (eCall_of (ar_cons (ixV_v rfl rfl rfl (hB.d1 hy)) (ar_cons rfl ar_nil)) d), rfl⟩)
  have ec : (P.map fun row => qD (dotR (ro B y) row)) = cs.map qD := by rw [hcs]; simp
  rw [ec] at w1
  have s7 := set_o (i := 8) w1
  -- the levels of the year's table
  have t2 : atD (.list TT) (.int 2) = some (tabD (bt P B (.year y) n)) := by rw [hTT]; rfl
  have t1 : atD (.list TT) (.int 1) = some (tabD (bt P B .new n)) := by rw [hTT]; rfl
  have t0 : atD (.list TT) (.int 0) = some (tabD (bt P B .old n)) := by rw [hTT]; rfl
  have c0 : atD (.list (cs.map qD)) (.int 0) = some (qD (dotR (ro B y) (ro P 0))) := atD_mapL (f := qD) (i := 0) hc0
  have w2 : eV (eCall m_levels (aCons (eIxV 6 (eC (.int 2))) aNil)) [.own (some a) es5, .v (.int n), .v (.int g), .v (tabD P), .v (tabD B), .v (.int y), .own none TT, z, .own none (cs.map qD), .no, .no, .no, .no, .no, .no] = some (toldD (bt P B (.year y) n), [.own (some a) es5, .v (.int n), .v (.int g), .v (tabD P), .v (tabD B), .v (.int y), .own none TT, z, .own none (cs.map qD), .no, .no, .no, .no, .no, .no]) :=
    eV_v (eCall_of (ar_cons (ixV_v rfl rfl rfl t2) ar_nil) l2)
  have w3 := vLc_map (fi := iSeq (eVar 8)) (t := gVar 13) (c := cYes) (f := eV (eCall m__law_over (aCons (eVar 13) (aCons (eIxV 8 (eC (.int 0))) aNil)))) (vs := [13]) (g := [.own (some a) es5, .v (.int n), .v (.int g), .v (tabD P), .v (tabD B), .v (.int y), .own none TT, z, .own none (cs.map qD), .no, .no, .no, .no, .no, .no]) (g0 := [.own (some a) es5, .v (.int n), .v (.int g), .v (tabD P), .v (tabD B), .v (.int y), .own none TT, z, .v (.list (cs.map qD)), .no, .no, .no, .no, .no, .no])
    (xs := cs) qD (fun c => qD (c / dotR (ro B y) (ro P 0))) (iSeq_of rfl rfl) rfl (by omega) (fun c hc => by
      have d := law_over_ok ((hcb c hc).mono (k := 4000) (by decide)) ((dot_pos hP hB hy (j := 0) (by omega)).mono (k := 4000) (by decide))
      exact ⟨[.own (some a) es5, .v (.int n), .v (.int g), .v (tabD P), .v (tabD B), .v (.int y), .own none TT, z, .v (.list (cs.map qD)), .no, .no, .no, .no, .v (qD c), .no], [.own (some a) es5, .v (.int n), .v (.int g), .v (tabD P), .v (tabD B), .v (.int y), .own none TT, z, .v (.list (cs.map qD)), .no, .no, .no, .no, .v (qD c), .no], rfl, rfl,
        eV_v (eCall_of (ar_cons rfl (ar_cons (ixV_v rfl rfl rfl c0) ar_nil)) d), rfl⟩)
  have w4 : eUn tupD (eV (vLc (iSeq (eVar 8)) (gVar 13) cYes (eV (eCall m__law_over (aCons (eVar 13) (aCons (eIxV 8 (eC (.int 0))) aNil)))) [13])) [.own (some a) es5, .v (.int n), .v (.int g), .v (tabD P), .v (tabD B), .v (.int y), .own none TT, z, .own none (cs.map qD), .no, .no, .no, .no, .no, .no] = some (rowD (ro (bt P B (.year y) n) 0), [.own (some a) es5, .v (.int n), .v (.int g), .v (tabD P), .v (tabD B), .v (.int y), .own none TT, z, .v (.list (cs.map qD)), .no, .no, .no, .no, .no, .no]) := by
    rw [hrow]
    have e : (rowD (cs.map fun c => c / dotR (ro B y) (ro P 0))) = .tuple (cs.map fun c => qD (c / dotR (ro B y) (ro P 0))) := by simp [rowD]
    rw [e]
    exact eUn_of (eV_o w3) rfl
  have w5 := tOf_b (eBin_of w2 (eTup_of (ar_cons (f := eC (.str (Str.ofString "levels"))) rfl (ar_cons w4 ar_nil))) (ne_told (ro (bt P B (.year y) n) 0)))
  have s8 := if_f (f := sRet (vE (eC (.bool false)))) (h := sNil) w5 rfl
  -- one good
  have s9 : sIf (Dl.tAndT (tOf (eBin eqD (eVar 2) (eC (.int 1)))) (tOf (eBin neD (eV (vLst (aCons (eBin atD (eV (eCall m_levels (aCons (eIxV 6 (eC (.int 0))) aNil))) (eC (.int 0))) (aCons (eBin atD (eV (eCall m_levels (aCons (eIxV 6 (eC (.int 1))) aNil))) (eC (.int 0))) aNil)))) (eV (vLst (aCons (eC (.str (Str.ofString "levels"))) (aCons (eC (.str (Str.ofString "levels"))) aNil))))))) (sRet (vE (eC (.bool false)))) sNil
      [.own (some a) es5, .v (.int n), .v (.int g), .v (tabD P), .v (tabD B), .v (.int y), .own none TT, z, .v (.list (cs.map qD)), .no, .no, .no, .no, .no, .no] = some (.nx [.own (some a) es5, .v (.int n), .v (.int g), .v (tabD P), .v (tabD B), .v (.int y), .own none TT, z, .v (.list (cs.map qD)), .no, .no, .no, .no, .no, .no]) := by
    by_cases hg1 : g = 1
    · have l0 := levels_ok hT0 (by decide)
      have l1 := levels_ok hT1 (by decide)
      have a0 : ansD (bt P B .old n) n = toldD (bt P B .old n) := by unfold ansD; rw [one_told hP hB hg1 .old (.inl rfl)]
      have a1 : ansD (bt P B .new n) n = toldD (bt P B .new n) := by unfold ansD; rw [one_told hP hB hg1 .new (.inr rfl)]
      rw [a0] at l0
      rw [a1] at l1
      have k1 : eBin atD (eV (eCall m_levels (aCons (eIxV 6 (eC (.int 0))) aNil))) (eC (.int 0)) [.own (some a) es5, .v (.int n), .v (.int g), .v (tabD P), .v (tabD B), .v (.int y), .own none TT, z, .v (.list (cs.map qD)), .no, .no, .no, .no, .no, .no] = some (.str (Str.ofString "levels"), [.own (some a) es5, .v (.int n), .v (.int g), .v (tabD P), .v (tabD B), .v (.int y), .own none TT, z, .v (.list (cs.map qD)), .no, .no, .no, .no, .no, .no]) := eBin_of (eV_v (eCall_of (ar_cons (ixV_v rfl rfl rfl t0) ar_nil) l0)) rfl rfl
      have k2 : eBin atD (eV (eCall m_levels (aCons (eIxV 6 (eC (.int 1))) aNil))) (eC (.int 0)) [.own (some a) es5, .v (.int n), .v (.int g), .v (tabD P), .v (tabD B), .v (.int y), .own none TT, z, .v (.list (cs.map qD)), .no, .no, .no, .no, .no, .no] = some (.str (Str.ofString "levels"), [.own (some a) es5, .v (.int n), .v (.int g), .v (tabD P), .v (tabD B), .v (.int y), .own none TT, z, .v (.list (cs.map qD)), .no, .no, .no, .no, .no, .no]) := eBin_of (eV_v (eCall_of (ar_cons (ixV_v rfl rfl rfl t1) ar_nil) l1)) rfl rfl
      have k3 := eV_o (vLst_of (ar_cons k1 (ar_cons k2 ar_nil)))
      have k4 := eV_o (vLst_of (f := aCons (eC (.str (Str.ofString "levels"))) (aCons (eC (.str (Str.ofString "levels"))) aNil)) (g := [.own (some a) es5, .v (.int n), .v (.int g), .v (tabD P), .v (tabD B), .v (.int y), .own none TT, z, .v (.list (cs.map qD)), .no, .no, .no, .no, .no, .no]) (ar_cons rfl (ar_cons rfl ar_nil)))
      exact if_f (tAnd_t (g1 := [.own (some a) es5, .v (.int n), .v (.int g), .v (tabD P), .v (tabD B), .v (.int y), .own none TT, z, .v (.list (cs.map qD)), .no, .no, .no, .no, .no, .no]) (tOf_b (eBin_of rfl rfl (eqD_t (i := (g : Int)) (by omega)))) (tOf_b (eBin_of k3 k4 ne_levels2))) rfl
    · exact if_f (g1 := [.own (some a) es5, .v (.int n), .v (.int g), .v (tabD P), .v (tabD B), .v (.int y), .own none TT, z, .v (.list (cs.map qD)), .no, .no, .no, .no, .no, .no]) (tAnd_f (tOf_b (eBin_of rfl rfl (eqD_f (i := (g : Int)) (by omega))))) rfl
  -- the way back
  have m1 : ∀ i, i < n → vLc (iRange1 (aCons (eVar 1) aNil)) (gVar 14) cYes (eV (eCall m__law_over (aCons (eTup (aCons (eC (.int 1)) (aCons (eC (.int 1)) aNil))) (aCons (eBin atD (eBin atD (eIxV 6 (eC (.int 0))) (eVar 14)) (eVar 11)) aNil)))) [14] [.own (some a) es5, .v (.int n), .v (.int g), .v (tabD P), .v (tabD B), .v (.int y), .own none TT, z, .v (.list (cs.map qD)), .no, .no, .v (.int i), .no, .no, .no] =
      some (.own none ((List.range n).map fun j => qD (1 / en (bt P B .old n) j i)), [.own (some a) es5, .v (.int n), .v (.int g), .v (tabD P), .v (tabD B), .v (.int y), .own none TT, z, .v (.list (cs.map qD)), .no, .no, .v (.int i), .no, .no, .no]) := fun i hi =>
    vLc_map (g0 := [.own (some a) es5, .v (.int n), .v (.int g), .v (tabD P), .v (tabD B), .v (.int y), .own none TT, z, .v (.list (cs.map qD)), .no, .no, .v (.int i), .no, .no, .no]) (xs := List.range n) (fun (j : Nat) => .int (j : Int)) (fun j => qD (1 / en (bt P B .old n) j i)) (rng_of (n := n) (ar_cons rfl ar_nil) (by omega)) rfl (by simp; omega) (fun j hj => by
      have hj := List.mem_range.mp hj
      have d := law_over_ok (bd_one.mono (k := 4000) (by decide)) ((hT0.at2 hj hi).2.mono (k := 4000) (by decide))
      have q1 : eBin atD (eBin atD (eIxV 6 (eC (.int 0))) (eVar 14)) (eVar 11) [.own (some a) es5, .v (.int n), .v (.int g), .v (tabD P), .v (tabD B), .v (.int y), .own none TT, z, .v (.list (cs.map qD)), .no, .no, .v (.int i), .no, .no, .v (.int j)] = some (qD (en (bt P B .old n) j i), [.own (some a) es5, .v (.int n), .v (.int g), .v (tabD P), .v (tabD B), .v (.int y), .own none TT, z, .v (.list (cs.map qD)), .no, .no, .v (.int i), .no, .no, .v (.int j)]) :=
        eBin_of (eBin_of (ixV_v rfl rfl rfl t0) rfl (hT0.d1 hj)) rfl (hT0.d2 hj hi)
      have q0 : eTup (aCons (eC (.int 1)) (aCons (eC (.int 1)) aNil)) [.own (some a) es5, .v (.int n), .v (.int g), .v (tabD P), .v (tabD B), .v (.int y), .own none TT, z, .v (.list (cs.map qD)), .no, .no, .v (.int i), .no, .no, .v (.int j)] = some (qD 1, [.own (some a) es5, .v (.int n), .v (.int g), .v (tabD P), .v (tabD B), .v (.int y), .own none TT, z, .v (.list (cs.map qD)), .no, .no, .v (.int i), .no, .no, .v (.int j)]) := eTup_of (ar_cons rfl (ar_cons rfl ar_nil))
      exact ⟨[.own (some a) es5, .v (.int n), .v (.int g), .v (tabD P), .v (tabD B), .v (.int y), .own none TT, z, .v (.list (cs.map qD)), .no, .no, .v (.int i), .no, .no, .v (.int j)], [.own (some a) es5, .v (.int n), .v (.int g), .v (tabD P), .v (tabD B), .v (.int y), .own none TT, z, .v (.list (cs.map qD)), .no, .no, .v (.int i), .no, .no, .v (.int j)], rfl, rfl,
        eV_v (eCall_of (ar_cons q0 (ar_cons q1 ar_nil)) d), rfl⟩)
  have m2 := vLc_map (fi := iRange1 (aCons (eVar 1) aNil)) (t := gVar 11) (c := cYes) (f := eUn tupD (eV (vLc (iRange1 (aCons (eVar 1) aNil)) (gVar 14) cYes (eV (eCall m__law_over (aCons (eTup (aCons (eC (.int 1)) (aCons (eC (.int 1)) aNil))) (aCons (eBin atD (eBin atD (eIxV 6 (eC (.int 0))) (eVar 14)) (eVar 11)) aNil)))) [14]))) (vs := [11])
    (g := [.own (some a) es5, .v (.int n), .v (.int g), .v (tabD P), .v (tabD B), .v (.int y), .own none TT, z, .v (.list (cs.map qD)), .no, .no, .no, .no, .no, .no]) (g0 := [.own (some a) es5, .v (.int n), .v (.int g), .v (tabD P), .v (tabD B), .v (.int y), .own none TT, z, .v (.list (cs.map qD)), .no, .no, .no, .no, .no, .no]) (xs := List.range n) (fun (i : Nat) => .int (i : Int)) (fun i => .tuple ((List.range n).map fun j => qD (1 / en (bt P B .old n) j i))) (rng_of (n := n) (ar_cons rfl ar_nil) (by omega)) rfl (by simp; omega) (fun i hi =>
      ⟨[.own (some a) es5, .v (.int n), .v (.int g), .v (tabD P), .v (tabD B), .v (.int y), .own none TT, z, .v (.list (cs.map qD)), .no, .no, .v (.int i), .no, .no, .no], [.own (some a) es5, .v (.int n), .v (.int g), .v (tabD P), .v (tabD B), .v (.int y), .own none TT, z, .v (.list (cs.map qD)), .no, .no, .v (.int i), .no, .no, .no], rfl, rfl, eUn_of (eV_o (m1 i (List.mem_range.mp hi))) rfl, rfl⟩)
  have m3 : (.tuple ((List.range n).map fun i => .tuple ((List.range n).map fun j => qD (1 / en (bt P B .old n) j i))) : D) = tabD bk := by rw [hbk]; simp [tabD, rowD]
  have m4 := eUn_of (op := tupD) (eV_o m2) rfl
  rw [m3] at m4
  have s10 := set_v (i := 9) (vE_of m4)
  have m5 := eqD_tab (bt P B .new n) bk
  rw [decide_eq_true (by rw [hbk]; exact back_ok hP hB)] at m5
  have s11 : sRet (vE (eBin eqD (eIxV 6 (eC (.int 1))) (eVar 9))) [.own (some a) es5, .v (.int n), .v (.int g), .v (tabD P), .v (tabD B), .v (.int y), .own none TT, z, .v (.list (cs.map qD)), .v (tabD bk), .no, .no, .no, .no, .no] = some (.ret (.v (.bool true)) [.own (some a) es5, .v (.int n), .v (.int g), .v (tabD P), .v (tabD B), .v (.int y), .own none TT, z, .v (.list (cs.map qD)), .v (tabD bk), .no, .no, .no, .no, .no]) :=
    ret_v (vE_of (eBin_of (ixV_v rfl rfl rfl t1) rfl m5))
  have E : b__law_is_basket_right [.own (some a) es, .no, .no, .no, .no, .no, .no, .no, .no, .no, .no, .no, .no, .no, .no] = some (.ret (.v (.bool true)) [.own (some a) es5, .v (.int n), .v (.int g), .v (tabD P), .v (tabD B), .v (.int y), .own none TT, z, .v (.list (cs.map qD)), .v (tabD bk), .no, .no, .no, .no, .no]) := by
    unfold b__law_is_basket_right
    exact seq_nx s1 (seq_nx s2 (seq_nx s3 (seq_nx s4 (seq_nx s5 (seq_nx F6 (seq_nx s7 (seq_nx s8 (seq_nx s9 (seq_nx s10 s11)))))))))
  exact ⟨_, E, rfl⟩
end K85
set_option Elab.async false
set_option linter.all false
set_option maxRecDepth 100000
namespace K85
open PySem Dl

theorem hand_ok (ns : List Int) (hl : ns.length ≤ 1000) : ∃ es, m__law_hand [.list (ns.map .int)] = some (.own none es) ∧ Hand es := by
  have hcl : (cutL ns none (some 63)).length ≤ 1000 := by
    unfold cutL
    simp only [List.length_take, List.length_drop]
    omega
  have v0 : eSlU (eVar 0) oNone (oSome (eC (.int 63))) [.v (.list (ns.map .int)), .no, .no] = some (.list ((cutL ns none (some 63)).map .int), [.v (.list (ns.map .int)), .no, .no]) := by
    have := eSlU_ofL (fa := eVar 0) (fl := oNone) (fh := oSome (eC (.int 63))) (g := [.v (.list (ns.map .int)), .no, .no]) (ds := ns.map .int) rfl rfl (oSome_of rfl)
    rw [cutL_map] at this
    exact this
  have v1 := vLc_map (fi := iSeq (eSlU (eVar 0) oNone (oSome (eC (.int 63))))) (t := gVar 2) (c := cYes) (f := eUn absD (eUn Dl.intD (bVar 2))) (vs := [2]) (g := [.v (.list (ns.map .int)), .no, .no]) (g0 := [.v (.list (ns.map .int)), .no, .no]) (xs := cutL ns none (some 63)) PyData.int (fun i => .int (if i < 0 then -i else i))
    (iSeq_of v0 rfl) rfl (by omega) (fun x hx => ⟨[.v (.list (ns.map .int)), .no, .v (.int x)], [.v (.list (ns.map .int)), .no, .v (.int x)], rfl, rfl, eUn_of (eUn_of rfl rfl) rfl, rfl⟩)
  obtain ⟨cs, hcs⟩ : ∃ cs : List Int, cs = (cutL ns none (some 63)).map fun i => if i < 0 then -i else i := ⟨_, rfl⟩
  have e : ((cutL ns none (some 63)).map fun i => PyData.int (if i < 0 then -i else i)) = cs.map PyData.int := by rw [hcs]; simp
  rw [e] at v1
  have s1 := set_o (i := 1) v1
  have l0 : lenD (.list (cs.map PyData.int)) = some (.int (cs.length : Nat)) := by simp [lenD]
  have w1 : eBin addA (eC (.int 83)) (eBin mulD (eC (.int 5)) (eUn lenD (bVar 1))) [.v (.list (ns.map .int)), .v (.list (cs.map .int)), .no] = some (.int (83 + 5 * (cs.length : Nat)), [.v (.list (ns.map .int)), .v (.list (cs.map .int)), .no]) := eBin_of rfl (eBin_of rfl (eUn_of rfl l0) (mulD_of (mulOk_l (by decide)))) (addA_int _ _)
  have w2 := vLst_of (f := aCons (eVar 1) (aCons (eC (.int 0)) (aCons (eC (.int 0)) (aCons (eBin addA (eC (.int 83)) (eBin mulD (eC (.int 5)) (eUn lenD (bVar 1)))) (aCons (eC (.int 0)) aNil))))) (g := [.v (.list (ns.map .int)), .own none (cs.map .int), .no])
    (ar_cons (d := .list (cs.map .int)) rfl (ar_cons rfl (ar_cons rfl (ar_cons w1 (ar_cons rfl ar_nil)))))
  refine ⟨handL cs 0 0 (83 + 5 * (cs.length : Nat)) 0, ?_, cs, 0, 0, _, 0, rfl, Int.le_refl _, Int.le_refl _⟩
  unfold m__law_hand b__law_hand
  exact fnP_ret _ rfl (seq_nx s1 (ret_o w2))
theorem of_tab {H : List Rat} {n : Nat} (h : BdL 10 H) (hl : H.length = n) (h1 : 1 ≤ n) (h2 : n ≤ 12) : Tab 20 n (ofR H) := by
  refine ⟨by simp [ofR, hl], fun l hl2 => ?_, h1, h2⟩
  obtain ⟨a, ha, rfl⟩ := List.mem_map.mp hl2
  refine ⟨by simp [hl], fun r hr => ?_⟩
  obtain ⟨b, hb, rfl⟩ := List.mem_map.mp hr
  exact (h b hb).div (h a ha)
theorem of_ro {H : List Rat} {i : Nat} {a : Rat} (h : H[i]? = some a) : ro (ofR H) i = H.map fun o => o / a := by
  unfold ro ofR
  simp [List.getD_eq_getElem?_getD, h]
theorem of_en {H : List Rat} {i j : Nat} (hi : i < H.length) (hj : j < H.length) : en (ofR H) i j = H.getD j 0 / H.getD i 0 := by
  have e : H[i]? = some (H.getD i 0) := by rw [List.getD_eq_getElem?_getD, List.getElem?_eq_getElem hi]; rfl
  unfold en
  rw [of_ro e]
  simp [List.getD_eq_getElem?_getD, hj]
theorem of_told {H : List Rat} {n : Nat} (h : BdL 10 H) (hl : H.length = n) : tu (ofR H) n = none := by
  refine noturn (fun i => H.getD i 0) (fun i hi => ?_) fun i j hi hj => of_en (by omega) (by omega)
  have e : H[i]? = some (H.getD i 0) := by rw [List.getD_eq_getElem?_getD, List.getElem?_eq_getElem (by omega)]; rfl
  exact Rat.ne_of_gt (h _ (List.mem_of_getElem? e)).rpos
theorem div_one (r : Rat) : r / 1 = r := by
  have := Rat.mul_div_cancel (a := r) (b := 1) (by decide)
  rw [Rat.mul_one] at this
  exact this
theorem turn_ok (S : D) {es : List D} (h : Hand es) (a2 a3 a4 a5 a6 a7 : Sl) : ∃ es' b2 b3 b4 b5 b6 b7, Hand es' ∧ (sSeq (sSet 3 (vE (eBin addA (eC (.int 1)) (eV (eCallI m__law_draw 1 (aCons (eV (eCallI m__law_any 1 (aCons (eV (vLst (aCons (eC (.int 3)) (aCons (eC (.int 5)) (aCons (eC (.int 12)) aNil))))) aNil))) aNil))))))
    (sSeq (sSet 4 (vE (eBin addA (eTup (aCons (eTup (aCons (eC (.int 1)) (aCons (eC (.int 1)) aNil))) aNil)) (eUn tupD (eV (vLc (iRange1 (aCons (eBin subD (eVar 3) (eC (.int 1))) aNil)) (gVar 9) cYes (eV (eCallI m__law_positive 1 aNil)) [9]))))))
    (sSeq (sSet 5 (eCall m__law_of (aCons (eVar 4) aNil)))
    (sSeq (sIf (Dl.tOrT (tOf (eBin neD (eV (eCall m_levels (aCons (eVar 5) aNil))) (eTup (aCons (eC (.str (Str.ofString "levels"))) (aCons (eVar 4) aNil))))) (Dl.tNotT (tOf (eV (eCall m__law_is_told (aCons (eVar 5) aNil)))))) (sRet (vE (eC (.bool false)))) sNil)
    (sSeq (sFor (iRange1 (aCons (eC (.int 3)) aNil)) (gVar 6) (sIf (Dl.tNotT (tOf (eV (eCall m__law_is_told (aCons (eV (eCallI m__law_spoiled 1 (aCons (eVar 5) aNil))) aNil))))) (sRet (vE (eC (.bool false)))) sNil))
    (sSeq (sSet 7 (vE (eUn tupD (eV (vLc (iRange1 (aCons (eVar 3) aNil)) (gVar 8) cYes (eUn tupD (eV (vLc (iRange1 (aCons (eVar 3) aNil)) (gVar 10) cYes (eV (eCallI m__law_positive 1 aNil)) [10]))) [8])))))
    (sIf (Dl.tOrT (Dl.tNotT (tOf (eV (eCall m__law_is_told (aCons (eVar 7) aNil))))) (Dl.tNotT (tOf (eV (eCallI m__law_is_basket_right 1 aNil))))) (sRet (vE (eC (.bool false)))) sNil)))))))
    [.v S, .own none es, a2, a3, a4, a5, a6, a7, .no, .no, .no] = some (.nx [.v S, .own none es', b2, b3, b4, b5, b6, b7, .no, .no, .no]) := by
  obtain ⟨d1, es1, e1, hd1, H1⟩ := any_ok (ds := [.int 3, .int 5, .int 12]) h (by simp) (by simp)
  have hb : ∃ b : Int, d1 = .int b ∧ 0 < b ∧ b ≤ 12 := by
    simp only [List.mem_cons, List.not_mem_nil, or_false] at hd1
    rcases hd1 with rfl | rfl | rfl
    · exact ⟨3, rfl, by decide, by decide⟩
    · exact ⟨5, rfl, by decide, by decide⟩
    · exact ⟨12, rfl, by decide, by decide⟩
  obtain ⟨b, rfl, hb0, hb1⟩ := hb
  obtain ⟨x2, es2, e2, h20, h21, H2⟩ := draw_ok H1 (m := b) hb0 (by omega)
  obtain ⟨n, hn⟩ : ∃ n : Nat, (n : Int) = 1 + x2 := ⟨(1 + x2).toNat, by omega⟩
  obtain ⟨m, rfl⟩ : ∃ m : Nat, n = m + 1 := ⟨n - 1, by omega⟩
  have hm : m + 1 ≤ 12 := by omega
  -- heights
  obtain ⟨rs, es3, r1, r2, H3, r4⟩ := pos_lc (iv := 1) (v := 9) (by decide) ((List.range m).map fun (i : Nat) => .int (i : Int)) es2 H2
  have r1 : rs.length = m := by simpa using r1
  obtain ⟨hs, hhs⟩ : ∃ hs, hs = (1 : Rat) :: rs := ⟨_, rfl⟩
  have hsl : hs.length = m + 1 := by rw [hhs]; simp [r1]
  have hsb : BdL 10 hs := fun r hr => by
    rw [hhs] at hr
    rcases List.mem_cons.mp hr with rfl | hr
    · exact bd_one.mono (by decide)
    · exact r2 r hr
  have hs0 : hs[0]? = some 1 := by rw [hhs]; rfl
  have v1 := vLst_of (f := aCons (eC (.int 3)) (aCons (eC (.int 5)) (aCons (eC (.int 12)) aNil))) (g := [.v S, .own none es, a2, a3, a4, a5, a6, a7, .no, .no, .no]) (ar_cons rfl (ar_cons rfl (ar_cons rfl ar_nil)))
  have v2 := callI_of (m := m__law_any) (i := 1) (g := [.v S, .own none es, a2, a3, a4, a5, a6, a7, .no, .no, .no]) (t := none) rfl (ar_cons (eV_o v1) ar_nil) rfl e1
  have v3 := callI_of (m := m__law_draw) (i := 1) (g := [.v S, .own none es, a2, a3, a4, a5, a6, a7, .no, .no, .no]) (t := none) rfl (ar_cons (eV_v v2) ar_nil) rfl e2
  have s1 := set_v (i := 3) (vE_of (eBin_of (f := eC (.int 1)) rfl (eV_v v3) (addA_int 1 x2)))
  rw [← hn] at s1
  have v4 : eBin subD (eVar 3) (eC (.int 1)) [.v S, .own none es2, a2, .v (.int ((m + 1 : Nat) : Int)), a4, a5, a6, a7, .no, .no, .no] = some (.int (m : Int), [.v S, .own none es2, a2, .v (.int ((m + 1 : Nat) : Int)), a4, a5, a6, a7, .no, .no, .no]) := eBin_of rfl rfl (by
    show some (PyData.int (((m + 1 : Nat) : Int) - 1)) = _
    congr 2
    omega)
  have v5 := vLc_of (fi := iRange1 (aCons (eBin subD (eVar 3) (eC (.int 1))) aNil)) (g := [.v S, .own none es2, a2, .v (.int ((m + 1 : Nat) : Int)), a4, a5, a6, a7, .no, .no, .no]) (rng_of (n := m) (ar_cons v4 ar_nil) (by omega)) rfl (r4 [.v S, .own none es2, a2, .v (.int ((m + 1 : Nat) : Int)), a4, a5, a6, a7, .no, .no, .no] none rfl rfl) (by simp [r1]; omega)
  have v6 : eTup (aCons (eTup (aCons (eC (.int 1)) (aCons (eC (.int 1)) aNil))) aNil) [.v S, .own none es2, a2, .v (.int ((m + 1 : Nat) : Int)), a4, a5, a6, a7, .no, .no, .no] = some (.tuple [qD 1], [.v S, .own none es2, a2, .v (.int ((m + 1 : Nat) : Int)), a4, a5, a6, a7, .no, .no, .no]) := eTup_of (ar_cons (eTup_of (ar_cons rfl (ar_cons rfl ar_nil))) ar_nil)
  have v7 := eBin_of v6 (eUn_of (op := tupD) (eV_o v5) rfl) (addA_cat (by simp [r1]; omega))
  have eh : (.tuple ([qD 1] ++ rs.map qD) : D) = rowD hs := by rw [hhs]; simp [rowD]
  rw [eh] at v7
  have s2 := set_v (i := 4) (vE_of v7)
  -- the table
  have hT := of_tab hsb hsl (by omega) hm
  have q1 := law_of_ok hsb (by decide) (by omega)
  have s3 := set_v (i := 5) (eCall_of (m := m__law_of) (f := aCons (eVar 4) aNil) (g := [.v S, .own none es3, a2, .v (.int ((m + 1 : Nat) : Int)), .v (rowD hs), a5, a6, a7, .no, .no, .no]) (ar_cons rfl ar_nil) q1)
  have q2 := levels_ok hT (by decide)
  have q3 : ansD (ofR hs) (m + 1) = .tuple [.str (Str.ofString "levels"), rowD hs] := by
    unfold ansD
    rw [of_told hsb hsl]
    show toldD (ofR hs) = _
    unfold toldD
    rw [of_ro hs0]
    have e : (hs.map fun o => o / (1 : Rat)) = hs := by
      have : (fun o : Rat => o / 1) = id := by funext o; exact div_one o
      rw [this, List.map_id]
    rw [e]
  rw [q3] at q2
  have q4 := is_told_ok hT (by decide)
  have s4 : sIf (Dl.tOrT (tOf (eBin neD (eV (eCall m_levels (aCons (eVar 5) aNil))) (eTup (aCons (eC (.str (Str.ofString "levels"))) (aCons (eVar 4) aNil))))) (Dl.tNotT (tOf (eV (eCall m__law_is_told (aCons (eVar 5) aNil)))))) (sRet (vE (eC (.bool false)))) sNil [.v S, .own none es3, a2, .v (.int ((m + 1 : Nat) : Int)), .v (rowD hs), .v (tabD (ofR hs)), a6, a7, .no, .no, .no] = some (.nx [.v S, .own none es3, a2, .v (.int ((m + 1 : Nat) : Int)), .v (rowD hs), .v (tabD (ofR hs)), a6, a7, .no, .no, .no]) :=
    if_f (tOr_f (tOf_b (eBin_of (eV_v (eCall_of (g1 := [.v S, .own none es3, a2, .v (.int ((m + 1 : Nat) : Int)), .v (rowD hs), .v (tabD (ofR hs)), a6, a7, .no, .no, .no]) (ar_cons rfl ar_nil) q2)) (eTup_of (ar_cons rfl (ar_cons rfl ar_nil))) (ne_told hs))) (tNot_of (tOf_b (eV_v (eCall_of (g1 := [.v S, .own none es3, a2, .v (.int ((m + 1 : Nat) : Int)), .v (rowD hs), .v (tabD (ofR hs)), a6, a7, .no, .no, .no]) (ar_cons rfl ar_nil) q4))))) rfl
  -- spoiled
  obtain ⟨g5, F5, es5, c6, rfl, H5⟩ := forGo_inv (t := gVar 6) (b := sIf (Dl.tNotT (tOf (eV (eCall m__law_is_told (aCons (eV (eCallI m__law_spoiled 1 (aCons (eVar 5) aNil))) aNil))))) (sRet (vE (eC (.bool false)))) sNil)
    (fun g => ∃ es c6, g = [.v S, .own none es, a2, .v (.int ((m + 1 : Nat) : Int)), .v (rowD hs), .v (tabD (ofR hs)), c6, a7, .no, .no, .no] ∧ Hand es) ((List.range 3).map fun (i : Nat) => .int (i : Int)) (fun d _ g hg => by
      obtain ⟨es, c6, rfl, hh⟩ := hg
      obtain ⟨T', es', k1, k2, k3⟩ := spoiled_ok hh hT (by decide) (by decide)
      have k4 := is_told_ok k2 (by decide)
      have k5 := callI_of (m := m__law_spoiled) (i := 1) (f := aCons (eVar 5) aNil) (g := [.v S, .own none es, a2, .v (.int ((m + 1 : Nat) : Int)), .v (rowD hs), .v (tabD (ofR hs)), .v d, a7, .no, .no, .no]) (t := none) rfl (ar_cons rfl ar_nil) rfl k1
      exact ⟨[.v S, .own none es, a2, .v (.int ((m + 1 : Nat) : Int)), .v (rowD hs), .v (tabD (ofR hs)), .v d, a7, .no, .no, .no], _, rfl, if_f (tNot_of (tOf_b (eV_v (eCall_of (ar_cons (eV_v k5) ar_nil) k4)))) rfl, es', .v d, rfl, k3⟩)
    [.v S, .own none es3, a2, .v (.int ((m + 1 : Nat) : Int)), .v (rowD hs), .v (tabD (ofR hs)), a6, a7, .no, .no, .no] ⟨es3, a6, rfl, H3⟩
  have s5 := for_of (f := iRange1 (aCons (eC (.int 3)) aNil)) (g := [.v S, .own none es3, a2, .v (.int ((m + 1 : Nat) : Int)), .v (rowD hs), .v (tabD (ofR hs)), a6, a7, .no, .no, .no]) (rng_of (n := 3) (ar_cons rfl ar_nil) (by decide)) F5
  -- drawn
  obtain ⟨ds, g6, F6, l6, p6, es6, rfl, H6⟩ := vLc_rel (fi := iRange1 (aCons (eVar 3) aNil)) (t := gVar 8) (f := eUn tupD (eV (vLc (iRange1 (aCons (eVar 3) aNil)) (gVar 10) cYes (eV (eCallI m__law_positive 1 aNil)) [10]))) (vs := [8]) (g := [.v S, .own none es5, a2, .v (.int ((m + 1 : Nat) : Int)), .v (rowD hs), .v (tabD (ofR hs)), c6, a7, .no, .no, .no])
    (fun g => ∃ es, g = [.v S, .own none es, a2, .v (.int ((m + 1 : Nat) : Int)), .v (rowD hs), .v (tabD (ofR hs)), c6, a7, .no, .no, .no] ∧ Hand es) (fun d => ∃ rs, d = rowD rs ∧ (rs.length = m + 1 ∧ BdL 10 rs)) (rng_of (n := m + 1) (ar_cons rfl ar_nil) (by omega)) rfl (by simp; omega) ⟨es5, rfl, H5⟩ (fun d _ g hg => by
      obtain ⟨es, rfl, hh⟩ := hg
      obtain ⟨rs, es', k1, k2, k3, k4⟩ := pos_lc (iv := 1) (v := 10) (by decide) ((List.range (m + 1)).map fun (i : Nat) => .int (i : Int)) es hh
      have k1 : rs.length = m + 1 := by simpa using k1
      have k5 := vLc_of (fi := iRange1 (aCons (eVar 3) aNil)) (g := [.v S, .own none es, a2, .v (.int ((m + 1 : Nat) : Int)), .v (rowD hs), .v (tabD (ofR hs)), c6, a7, .v d, .no, .no]) (rng_of (n := m + 1) (ar_cons rfl ar_nil) (by omega)) rfl (k4 [.v S, .own none es, a2, .v (.int ((m + 1 : Nat) : Int)), .v (rowD hs), .v (tabD (ofR hs)), c6, a7, .v d, .no, .no] none rfl rfl) (by simp [k1]; omega)
      exact ⟨_, rowD rs, _, rfl, eUn_of (eV_o k5) rfl, ⟨rs, rfl, k1, k2⟩, es', rfl, k3⟩)
  obtain ⟨T, rfl, hTr⟩ := mapOf p6
  have hT6 : Tab 10 (m + 1) T := ⟨by simpa using l6, hTr, by omega, hm⟩
  have s6 := set_v (i := 7) (vE_of (eUn_of (op := tupD) (eV_o F6) rfl))
  have q6 := is_told_ok hT6 (by decide)
  obtain ⟨es7, q7, H7⟩ := basket_ok H6
  have w1 := callI_of (m := m__law_is_basket_right) (i := 1) (f := aNil) (g := [.v S, .own none es6, a2, .v (.int ((m + 1 : Nat) : Int)), .v (rowD hs), .v (tabD (ofR hs)), c6, .v (tabD T), .no, .no, .no]) (t := none) rfl ar_nil rfl q7
  have s7 : sIf (Dl.tOrT (Dl.tNotT (tOf (eV (eCall m__law_is_told (aCons (eVar 7) aNil))))) (Dl.tNotT (tOf (eV (eCallI m__law_is_basket_right 1 aNil))))) (sRet (vE (eC (.bool false)))) sNil [.v S, .own none es6, a2, .v (.int ((m + 1 : Nat) : Int)), .v (rowD hs), .v (tabD (ofR hs)), c6, .v (tabD T), .no, .no, .no] = some (.nx [.v S, .own none es7, a2, .v (.int ((m + 1 : Nat) : Int)), .v (rowD hs), .v (tabD (ofR hs)), c6, .v (tabD T), .no, .no, .no]) :=
    if_f (tOr_f (tNot_of (tOf_b (eV_v (eCall_of (g1 := [.v S, .own none es6, a2, .v (.int ((m + 1 : Nat) : Int)), .v (rowD hs), .v (tabD (ofR hs)), c6, .v (tabD T), .no, .no, .no]) (ar_cons rfl ar_nil) q6)))) (tNot_of (tOf_b (eV_v w1)))) rfl
  exact ⟨es7, _, _, _, _, _, _, H7, seq_nx s1 (seq_nx s2 (seq_nx s3 (seq_nx s4 (seq_nx s5 (seq_nx s6 s7)))))⟩
theorem law_good : ∀ ns : List Int, ns.length ≤ 63 → m_law [.list (ns.map .int)] = some (.v (.bool true)) := by
  intro ns hl
  obtain ⟨es, e1, H1⟩ := hand_ok ns (by omega)
  have s1 := set_o (i := 1) (eCall_of (m := m__law_hand) (f := aCons (eVar 0) aNil) (g := [.v (.list (ns.map .int)), .no, .no, .no, .no, .no, .no, .no, .no, .no, .no]) (ar_cons rfl ar_nil) e1)
  obtain ⟨g', F, es', b2, b3, b4, b5, b6, b7, H2, rfl⟩ := forGo_inv (t := gVar 2) (b := (sSeq (sSet 3 (vE (eBin addA (eC (.int 1)) (eV (eCallI m__law_draw 1 (aCons (eV (eCallI m__law_any 1 (aCons (eV (vLst (aCons (eC (.int 3)) (aCons (eC (.int 5)) (aCons (eC (.int 12)) aNil))))) aNil))) aNil))))))
    (sSeq (sSet 4 (vE (eBin addA (eTup (aCons (eTup (aCons (eC (.int 1)) (aCons (eC (.int 1)) aNil))) aNil)) (eUn tupD (eV (vLc (iRange1 (aCons (eBin subD (eVar 3) (eC (.int 1))) aNil)) (gVar 9) cYes (eV (eCallI m__law_positive 1 aNil)) [9]))))))
    (sSeq (sSet 5 (eCall m__law_of (aCons (eVar 4) aNil)))
    (sSeq (sIf (Dl.tOrT (tOf (eBin neD (eV (eCall m_levels (aCons (eVar 5) aNil))) (eTup (aCons (eC (.str (Str.ofString "levels"))) (aCons (eVar 4) aNil))))) (Dl.tNotT (tOf (eV (eCall m__law_is_told (aCons (eVar 5) aNil)))))) (sRet (vE (eC (.bool false)))) sNil)
    (sSeq (sFor (iRange1 (aCons (eC (.int 3)) aNil)) (gVar 6) (sIf (Dl.tNotT (tOf (eV (eCall m__law_is_told (aCons (eV (eCallI m__law_spoiled 1 (aCons (eVar 5) aNil))) aNil))))) (sRet (vE (eC (.bool false)))) sNil))
    (sSeq (sSet 7 (vE (eUn tupD (eV (vLc (iRange1 (aCons (eVar 3) aNil)) (gVar 8) cYes (eUn tupD (eV (vLc (iRange1 (aCons (eVar 3) aNil)) (gVar 10) cYes (eV (eCallI m__law_positive 1 aNil)) [10]))) [8])))))
    (sIf (Dl.tOrT (Dl.tNotT (tOf (eV (eCall m__law_is_told (aCons (eVar 7) aNil))))) (Dl.tNotT (tOf (eV (eCallI m__law_is_basket_right 1 aNil))))) (sRet (vE (eC (.bool false)))) sNil))))))))
    (fun g => ∃ es a2 a3 a4 a5 a6 a7, Hand es ∧ g = [.v (.list (ns.map .int)), .own none es, a2, a3, a4, a5, a6, a7, .no, .no, .no]) ((List.range 4).map fun (i : Nat) => .int (i : Int)) (fun d _ g hg => by
      obtain ⟨es, a2, a3, a4, a5, a6, a7, hh, rfl⟩ := hg
      obtain ⟨es', b2, b3, b4, b5, b6, b7, h1, h2⟩ := turn_ok (.list (ns.map .int)) hh (.v d) a3 a4 a5 a6 a7
      exact ⟨[.v (.list (ns.map .int)), .own none es, .v d, a3, a4, a5, a6, a7, .no, .no, .no], _, rfl, h2, es', b2, b3, b4, b5, b6, b7, h1, rfl⟩)
    [.v (.list (ns.map .int)), .own none es, .no, .no, .no, .no, .no, .no, .no, .no, .no] ⟨es, .no, .no, .no, .no, .no, .no, H1, rfl⟩
  have s2 := for_of (f := iRange1 (aCons (eC (.int 4)) aNil)) (g := [.v (.list (ns.map .int)), .own none es, .no, .no, .no, .no, .no, .no, .no, .no, .no]) (rng_of (n := 4) (ar_cons rfl ar_nil) (by decide)) F
  unfold m_law b_law
  exact fnP_ret _ rfl (seq_nx s1 (seq_nx s2 (ret_v rfl)))
end K85
set_option Elab.async false
set_option linter.all false
set_option maxRecDepth 100000
set_option maxHeartbeats 0
namespace K85
open PySem PySem.Spec PyProof.Rows L2 Dl
def dd_is_integer : He.DefD := ⟨("is_integer", none), "is_integer", "is_integer", defArgs s_is_integer, defBody s_is_integer, defScope s_is_integer, [], []⟩
def dd_is_sized : He.DefD := ⟨("is_sized", none), "is_sized", "is_sized", defArgs s_is_sized, defBody s_is_sized, defScope s_is_sized, [], []⟩
def dd_common : He.DefD := ⟨("common", none), "common", "common", defArgs s_common, defBody s_common, defScope s_common, [], []⟩
def dd__law_hand : He.DefD := ⟨("_law_hand", none), "_law_hand", "_law_hand", defArgs s__law_hand, defBody s__law_hand, defScope s__law_hand, [], []⟩
def dd__law_draw : He.DefD := ⟨("_law_draw", none), "_law_draw", "_law_draw", defArgs s__law_draw, defBody s__law_draw, defScope s__law_draw, [], []⟩
def dd__law_low : He.DefD := ⟨("_law_low", none), "_law_low", "_law_low", defArgs s__law_low, defBody s__law_low, defScope s__law_low, [], []⟩
def dd_is_within : He.DefD := ⟨("is_within", none), "is_within", "is_within", defArgs s_is_within, defBody s_is_within, defScope s_is_within, [], []⟩
def dd_share : He.DefD := ⟨("share", none), "share", "share", defArgs s_share, defBody s_share, defScope s_share, [], []⟩
def dd_is_share : He.DefD := ⟨("is_share", none), "is_share", "is_share", defArgs s_is_share, defBody s_is_share, defScope s_is_share, [], []⟩
def dd__law_any : He.DefD := ⟨("_law_any", none), "_law_any", "_law_any", defArgs s__law_any, defBody s__law_any, defScope s__law_any, [], []⟩
def dd__law_add : He.DefD := ⟨("_law_add", none), "_law_add", "_law_add", defArgs s__law_add, defBody s__law_add, defScope s__law_add, [], []⟩
def dd__law_mul : He.DefD := ⟨("_law_mul", none), "_law_mul", "_law_mul", defArgs s__law_mul, defBody s__law_mul, defScope s__law_mul, [], []⟩
def dd__law_over : He.DefD := ⟨("_law_over", none), "_law_over", "_law_over", defArgs s__law_over, defBody s__law_over, defScope s__law_over, [], []⟩
def dd_plus : He.DefD := ⟨("plus", none), "plus", "plus", defArgs s_plus, defBody s_plus, defScope s_plus, [], []⟩
def dd_times : He.DefD := ⟨("times", none), "times", "times", defArgs s_times, defBody s_times, defScope s_times, [], []⟩
def dd_over : He.DefD := ⟨("over", none), "over", "over", defArgs s_over, defBody s_over, defScope s_over, [], []⟩
def dd_is_positive : He.DefD := ⟨("is_positive", none), "is_positive", "is_positive", defArgs s_is_positive, defBody s_is_positive, defScope s_is_positive, [], []⟩
def dd__law_sum : He.DefD := ⟨("_law_sum", none), "_law_sum", "_law_sum", defArgs s__law_sum, defBody s__law_sum, defScope s__law_sum, [], []⟩
def dd__law_positive : He.DefD := ⟨("_law_positive", none), "_law_positive", "_law_positive", defArgs s__law_positive, defBody s__law_positive, defScope s__law_positive, [], []⟩
def dd__law_due : He.DefD := ⟨("_law_due", none), "_law_due", "_law_due", defArgs s__law_due, defBody s__law_due, defScope s__law_due, [], []⟩
def dd__law_of : He.DefD := ⟨("_law_of", none), "_law_of", "_law_of", defArgs s__law_of, defBody s__law_of, defScope s__law_of, [], []⟩
def dd_summed : He.DefD := ⟨("summed", none), "summed", "summed", defArgs s_summed, defBody s_summed, defScope s_summed, [], []⟩
def dd_is_grid : He.DefD := ⟨("is_grid", none), "is_grid", "is_grid", defArgs s_is_grid, defBody s_is_grid, defScope s_is_grid, [], []⟩
def dd__law_dot : He.DefD := ⟨("_law_dot", none), "_law_dot", "_law_dot", defArgs s__law_dot, defBody s__law_dot, defScope s__law_dot, [], []⟩
def dd__law_spoiled : He.DefD := ⟨("_law_spoiled", none), "_law_spoiled", "_law_spoiled", defArgs s__law_spoiled, defBody s__law_spoiled, defScope s__law_spoiled, [], []⟩
def dd_dot : He.DefD := ⟨("dot", none), "dot", "dot", defArgs s_dot, defBody s_dot, defScope s_dot, [], []⟩
def dd_levels : He.DefD := ⟨("levels", none), "levels", "levels", defArgs s_levels, defBody s_levels, defScope s_levels, [], []⟩
def dd_is_rows : He.DefD := ⟨("is_rows", none), "is_rows", "is_rows", defArgs s_is_rows, defBody s_is_rows, defScope s_is_rows, [], []⟩
def dd__law_table : He.DefD := ⟨("_law_table", none), "_law_table", "_law_table", defArgs s__law_table, defBody s__law_table, defScope s__law_table, [], []⟩
def dd_basket_table : He.DefD := ⟨("basket_table", none), "basket_table", "basket_table", defArgs s_basket_table, defBody s_basket_table, defScope s_basket_table, [], []⟩
def dd__law_is_told : He.DefD := ⟨("_law_is_told", none), "_law_is_told", "_law_is_told", defArgs s__law_is_told, defBody s__law_is_told, defScope s__law_is_told, [], []⟩
def dd__law_is_basket_right : He.DefD := ⟨("_law_is_basket_right", none), "_law_is_basket_right", "_law_is_basket_right", defArgs s__law_is_basket_right, defBody s__law_is_basket_right, defScope s__law_is_basket_right, [], []⟩
def dd_law : He.DefD := ⟨("law", none), "law", "law", defArgs s_law, defBody s_law, defScope s_law, [], []⟩
def hfn : List He.DefD := [dd_is_integer, dd_is_sized, dd_common, dd__law_hand, dd__law_draw, dd__law_low, dd_is_within, dd_share, dd_is_share, dd__law_any, dd__law_add, dd__law_mul, dd__law_over, dd_plus, dd_times, dd_over, dd_is_positive, dd__law_sum, dd__law_positive, dd__law_due, dd__law_of, dd_summed, dd_is_grid, dd__law_dot, dd__law_spoiled, dd_dot, dd_levels, dd_is_rows, dd__law_table, dd_basket_table, dd__law_is_told, dd__law_is_basket_right, dd_law]
def hfa : List He.Fa := [.glo "is_integer", .glo "is_sized", .glo "common", .glo "_law_hand", .glo "_law_draw", .glo "_law_low", .glo "is_within", .glo "share", .glo "is_share", .glo "_law_any", .glo "_law_add", .glo "_law_mul", .glo "_law_over", .glo "plus", .glo "times", .glo "over", .glo "is_positive", .glo "_law_sum", .glo "_law_positive", .glo "_law_due", .glo "_law_of", .glo "summed", .glo "is_grid", .glo "_law_dot", .glo "_law_spoiled", .glo "dot", .glo "levels", .glo "is_rows", .glo "_law_table", .glo "basket_table", .glo "_law_is_told", .glo "_law_is_basket_right", .glo "law", .free "abs", .free "all", .free "bool", .free "enumerate", .free "int", .free "isinstance", .free "len", .free "range", .free "repr", .free "str", .free "tuple", .free "zip", .str "LEVELS" (Str.ofString "levels"), .int "MOST_GOODS" 6, .int "MOST_TABLE" 12, .str "NEW" (Str.ofString "new"), .str "OLD" (Str.ofString "old"), .str "TURN" (Str.ofString "turn"), .glo "ZERO"]
def hex (K : PySem.W.Frag) : Bool := He.tupB K "ZERO" [.int 0, .int 1]
theorem txt_of {w : World} {K : PySem.W.Frag} {h : Heap} {mg : Str → Option Value} (X : K.In h) (G : h.Ns mainGlobals mg) (c : He.SaysX hfa hfn [] [] hex w h K) : Nonempty (Txt K mg) := by
  have cd := c.t.d
  obtain ⟨d0, F0⟩ := cd.def_ 0 (d := dd_is_integer) rfl
  obtain ⟨d1, F1⟩ := cd.def_ 1 (d := dd_is_sized) rfl
  obtain ⟨d2, F2⟩ := cd.def_ 2 (d := dd_common) rfl
  obtain ⟨d3, F3⟩ := cd.def_ 3 (d := dd__law_hand) rfl
  obtain ⟨d4, F4⟩ := cd.def_ 4 (d := dd__law_draw) rfl
  obtain ⟨d5, F5⟩ := cd.def_ 5 (d := dd__law_low) rfl
  obtain ⟨d6, F6⟩ := cd.def_ 6 (d := dd_is_within) rfl
  obtain ⟨d7, F7⟩ := cd.def_ 7 (d := dd_share) rfl
  obtain ⟨d8, F8⟩ := cd.def_ 8 (d := dd_is_share) rfl
  obtain ⟨d9, F9⟩ := cd.def_ 9 (d := dd__law_any) rfl
  obtain ⟨d10, F10⟩ := cd.def_ 10 (d := dd__law_add) rfl
  obtain ⟨d11, F11⟩ := cd.def_ 11 (d := dd__law_mul) rfl
  obtain ⟨d12, F12⟩ := cd.def_ 12 (d := dd__law_over) rfl
  obtain ⟨d13, F13⟩ := cd.def_ 13 (d := dd_plus) rfl
  obtain ⟨d14, F14⟩ := cd.def_ 14 (d := dd_times) rfl
  obtain ⟨d15, F15⟩ := cd.def_ 15 (d := dd_over) rfl
  obtain ⟨d16, F16⟩ := cd.def_ 16 (d := dd_is_positive) rfl
  obtain ⟨d17, F17⟩ := cd.def_ 17 (d := dd__law_sum) rfl
  obtain ⟨d18, F18⟩ := cd.def_ 18 (d := dd__law_positive) rfl
  obtain ⟨d19, F19⟩ := cd.def_ 19 (d := dd__law_due) rfl
  obtain ⟨d20, F20⟩ := cd.def_ 20 (d := dd__law_of) rfl
  obtain ⟨d21, F21⟩ := cd.def_ 21 (d := dd_summed) rfl
  obtain ⟨d22, F22⟩ := cd.def_ 22 (d := dd_is_grid) rfl
  obtain ⟨d23, F23⟩ := cd.def_ 23 (d := dd__law_dot) rfl
  obtain ⟨d24, F24⟩ := cd.def_ 24 (d := dd__law_spoiled) rfl
  obtain ⟨d25, F25⟩ := cd.def_ 25 (d := dd_dot) rfl
  obtain ⟨d26, F26⟩ := cd.def_ 26 (d := dd_levels) rfl
  obtain ⟨d27, F27⟩ := cd.def_ 27 (d := dd_is_rows) rfl
  obtain ⟨d28, F28⟩ := cd.def_ 28 (d := dd__law_table) rfl
  obtain ⟨d29, F29⟩ := cd.def_ 29 (d := dd_basket_table) rfl
  obtain ⟨d30, F30⟩ := cd.def_ 30 (d := dd__law_is_told) rfl
  obtain ⟨d31, F31⟩ := cd.def_ 31 (d := dd__law_is_basket_right) rfl
  obtain ⟨d32, F32⟩ := cd.def_ 32 (d := dd_law) rfl
  obtain ⟨t0, e0⟩ := He.str_ok X G (cd.fact 45 (f := .str "LEVELS" (Str.ofString "levels")) rfl)
  obtain ⟨t1, e1⟩ := He.int_ok X G (cd.fact 46 (f := .int "MOST_GOODS" 6) rfl)
  obtain ⟨t2, e2⟩ := He.int_ok X G (cd.fact 47 (f := .int "MOST_TABLE" 12) rfl)
  obtain ⟨t3, e3⟩ := He.str_ok X G (cd.fact 48 (f := .str "NEW" (Str.ofString "new")) rfl)
  obtain ⟨t4, e4⟩ := He.str_ok X G (cd.fact 49 (f := .str "OLD" (Str.ofString "old")) rfl)
  obtain ⟨t5, e5⟩ := He.str_ok X G (cd.fact 50 (f := .str "TURN" (Str.ofString "turn")) rfl)
  have ex : hex K = true := c.more
  unfold hex at ex
  exact ⟨{
    f_is_integer := Df.mk' ⟨d0, F0⟩ (He.glo_ok X G (cd.fact 0 (f := .glo "is_integer") rfl)) fun _ _ _ _ _ _ us hl => match us, hl with | [_], _ => rfl
    f_is_sized := Df.mk' ⟨d1, F1⟩ (He.glo_ok X G (cd.fact 1 (f := .glo "is_sized") rfl)) fun _ _ _ _ _ _ us hl => match us, hl with | [_, _, _], _ => rfl
    f_common := Df.mk' ⟨d2, F2⟩ (He.glo_ok X G (cd.fact 2 (f := .glo "common") rfl)) fun _ _ _ _ _ _ us hl => match us, hl with | [_, _], _ => rfl
    f__law_hand := Df.mk' ⟨d3, F3⟩ (He.glo_ok X G (cd.fact 3 (f := .glo "_law_hand") rfl)) fun _ _ _ _ _ _ us hl => match us, hl with | [_], _ => rfl
    f__law_draw := Df.mk' ⟨d4, F4⟩ (He.glo_ok X G (cd.fact 4 (f := .glo "_law_draw") rfl)) fun _ _ _ _ _ _ us hl => match us, hl with | [_, _], _ => rfl
    f__law_low := Df.mk' ⟨d5, F5⟩ (He.glo_ok X G (cd.fact 5 (f := .glo "_law_low") rfl)) fun _ _ _ _ _ _ us hl => match us, hl with | [_, _], _ => rfl
    f_is_within := Df.mk' ⟨d6, F6⟩ (He.glo_ok X G (cd.fact 6 (f := .glo "is_within") rfl)) fun _ _ _ _ _ _ us hl => match us, hl with | [_, _, _], _ => rfl
    f_share := Df.mk' ⟨d7, F7⟩ (He.glo_ok X G (cd.fact 7 (f := .glo "share") rfl)) fun _ _ _ _ _ _ us hl => match us, hl with | [_, _], _ => rfl
    f_is_share := Df.mk' ⟨d8, F8⟩ (He.glo_ok X G (cd.fact 8 (f := .glo "is_share") rfl)) fun _ _ _ _ _ _ us hl => match us, hl with | [_], _ => rfl
    f__law_any := Df.mk' ⟨d9, F9⟩ (He.glo_ok X G (cd.fact 9 (f := .glo "_law_any") rfl)) fun _ _ _ _ _ _ us hl => match us, hl with | [_, _], _ => rfl
    f__law_add := Df.mk' ⟨d10, F10⟩ (He.glo_ok X G (cd.fact 10 (f := .glo "_law_add") rfl)) fun _ _ _ _ _ _ us hl => match us, hl with | [_, _], _ => rfl
    f__law_mul := Df.mk' ⟨d11, F11⟩ (He.glo_ok X G (cd.fact 11 (f := .glo "_law_mul") rfl)) fun _ _ _ _ _ _ us hl => match us, hl with | [_, _], _ => rfl
    f__law_over := Df.mk' ⟨d12, F12⟩ (He.glo_ok X G (cd.fact 12 (f := .glo "_law_over") rfl)) fun _ _ _ _ _ _ us hl => match us, hl with | [_, _], _ => rfl
    f_plus := Df.mk' ⟨d13, F13⟩ (He.glo_ok X G (cd.fact 13 (f := .glo "plus") rfl)) fun _ _ _ _ _ _ us hl => match us, hl with | [_, _], _ => rfl
    f_times := Df.mk' ⟨d14, F14⟩ (He.glo_ok X G (cd.fact 14 (f := .glo "times") rfl)) fun _ _ _ _ _ _ us hl => match us, hl with | [_, _], _ => rfl
    f_over := Df.mk' ⟨d15, F15⟩ (He.glo_ok X G (cd.fact 15 (f := .glo "over") rfl)) fun _ _ _ _ _ _ us hl => match us, hl with | [_, _], _ => rfl
    f_is_positive := Df.mk' ⟨d16, F16⟩ (He.glo_ok X G (cd.fact 16 (f := .glo "is_positive") rfl)) fun _ _ _ _ _ _ us hl => match us, hl with | [_], _ => rfl
    f__law_sum := Df.mk' ⟨d17, F17⟩ (He.glo_ok X G (cd.fact 17 (f := .glo "_law_sum") rfl)) fun _ _ _ _ _ _ us hl => match us, hl with | [_], _ => rfl
    f__law_positive := Df.mk' ⟨d18, F18⟩ (He.glo_ok X G (cd.fact 18 (f := .glo "_law_positive") rfl)) fun _ _ _ _ _ _ us hl => match us, hl with | [_], _ => rfl
    f__law_due := Df.mk' ⟨d19, F19⟩ (He.glo_ok X G (cd.fact 19 (f := .glo "_law_due") rfl)) fun _ _ _ _ _ _ us hl => match us, hl with | [_], _ => rfl
    f__law_of := Df.mk' ⟨d20, F20⟩ (He.glo_ok X G (cd.fact 20 (f := .glo "_law_of") rfl)) fun _ _ _ _ _ _ us hl => match us, hl with | [_], _ => rfl
    f_summed := Df.mk' ⟨d21, F21⟩ (He.glo_ok X G (cd.fact 21 (f := .glo "summed") rfl)) fun _ _ _ _ _ _ us hl => match us, hl with | [_], _ => rfl
    f_is_grid := Df.mk' ⟨d22, F22⟩ (He.glo_ok X G (cd.fact 22 (f := .glo "is_grid") rfl)) fun _ _ _ _ _ _ us hl => match us, hl with | [_, _], _ => rfl
    f__law_dot := Df.mk' ⟨d23, F23⟩ (He.glo_ok X G (cd.fact 23 (f := .glo "_law_dot") rfl)) fun _ _ _ _ _ _ us hl => match us, hl with | [_, _], _ => rfl
    f__law_spoiled := Df.mk' ⟨d24, F24⟩ (He.glo_ok X G (cd.fact 24 (f := .glo "_law_spoiled") rfl)) fun _ _ _ _ _ _ us hl => match us, hl with | [_, _], _ => rfl
    f_dot := Df.mk' ⟨d25, F25⟩ (He.glo_ok X G (cd.fact 25 (f := .glo "dot") rfl)) fun _ _ _ _ _ _ us hl => match us, hl with | [_, _], _ => rfl
    f_levels := Df.mk' ⟨d26, F26⟩ (He.glo_ok X G (cd.fact 26 (f := .glo "levels") rfl)) fun _ _ _ _ _ _ us hl => match us, hl with | [_], _ => rfl
    f_is_rows := Df.mk' ⟨d27, F27⟩ (He.glo_ok X G (cd.fact 27 (f := .glo "is_rows") rfl)) fun _ _ _ _ _ _ us hl => match us, hl with | [_], _ => rfl
    f__law_table := Df.mk' ⟨d28, F28⟩ (He.glo_ok X G (cd.fact 28 (f := .glo "_law_table") rfl)) fun _ _ _ _ _ _ us hl => match us, hl with | [_, _, _], _ => rfl
    f_basket_table := Df.mk' ⟨d29, F29⟩ (He.glo_ok X G (cd.fact 29 (f := .glo "basket_table") rfl)) fun _ _ _ _ _ _ us hl => match us, hl with | [_, _, _], _ => rfl
    f__law_is_told := Df.mk' ⟨d30, F30⟩ (He.glo_ok X G (cd.fact 30 (f := .glo "_law_is_told") rfl)) fun _ _ _ _ _ _ us hl => match us, hl with | [_], _ => rfl
    f__law_is_basket_right := Df.mk' ⟨d31, F31⟩ (He.glo_ok X G (cd.fact 31 (f := .glo "_law_is_basket_right") rfl)) fun _ _ _ _ _ _ us hl => match us, hl with | [_], _ => rfl
    f_law := Df.mk' ⟨d32, F32⟩ (He.glo_ok X G (cd.fact 32 (f := .glo "law") rfl)) fun _ _ _ _ _ _ us hl => match us, hl with | [_], _ => rfl
    n_abs := He.free_ok X G (cd.fact 33 (f := .free "abs") rfl)
    n_all := He.free_ok X G (cd.fact 34 (f := .free "all") rfl)
    n_bool := He.free_ok X G (cd.fact 35 (f := .free "bool") rfl)
    n_enumerate := He.free_ok X G (cd.fact 36 (f := .free "enumerate") rfl)
    n_int := He.free_ok X G (cd.fact 37 (f := .free "int") rfl)
    n_isinstance := He.free_ok X G (cd.fact 38 (f := .free "isinstance") rfl)
    n_len := He.free_ok X G (cd.fact 39 (f := .free "len") rfl)
    n_range := He.free_ok X G (cd.fact 40 (f := .free "range") rfl)
    n_repr := He.free_ok X G (cd.fact 41 (f := .free "repr") rfl)
    n_str := He.free_ok X G (cd.fact 42 (f := .free "str") rfl)
    n_tuple := He.free_ok X G (cd.fact 43 (f := .free "tuple") rfl)
    n_zip := He.free_ok X G (cd.fact 44 (f := .free "zip") rfl)
    u_LEVELS := .str (Str.ofString "levels") t0
    v_LEVELS := .str (Str.ofString "levels")
    c_LEVELS := ⟨e0, ⟨_, rfl⟩, fun _ => .str _⟩
    u_MOST_GOODS := .int 6 t1
    v_MOST_GOODS := .int 6
    c_MOST_GOODS := ⟨e1, ⟨_, rfl⟩, fun _ => .int _⟩
    u_MOST_TABLE := .int 12 t2
    v_MOST_TABLE := .int 12
    c_MOST_TABLE := ⟨e2, ⟨_, rfl⟩, fun _ => .int _⟩
    u_NEW := .str (Str.ofString "new") t3
    v_NEW := .str (Str.ofString "new")
    c_NEW := ⟨e3, ⟨_, rfl⟩, fun _ => .str _⟩
    u_OLD := .str (Str.ofString "old") t4
    v_OLD := .str (Str.ofString "old")
    c_OLD := ⟨e4, ⟨_, rfl⟩, fun _ => .str _⟩
    u_TURN := .str (Str.ofString "turn") t5
    v_TURN := .str (Str.ofString "turn")
    c_TURN := ⟨e5, ⟨_, rfl⟩, fun _ => .str _⟩
    u_ZERO := .ref (He.ga K "ZERO")
    v_ZERO := .ref (He.ga K "ZERO")
    c_ZERO := ⟨He.glo_ok X G (cd.fact 51 (f := .glo "ZERO") rfl), rfl, fun F => .tup (He.tupB_ok ex F) (.cons (.int _) (.cons (.int _) .nil))⟩
  }⟩
def hl0 : List PySem.Str := ["GoodsError", "NoKind", "NoTable", "NoYear", "ZERO", "is_integer", "is_within", "is_sized", "common", "share", "is_share", "plus", "times", "over", "summed", "dot", "MOST_TABLE", "MOST_GOODS", "LEVELS", "TURN", "OLD", "NEW", "is_positive", "is_grid", "levels", "is_rows", "basket_table", "_law_hand", "_law_draw", "_law_any"]
def hl1 : List PySem.Str := ["_law_low", "_law_add", "_law_mul", "_law_over", "_law_sum", "_law_dot", "_law_positive", "_law_due", "_law_of", "_law_is_told", "_law_spoiled", "_law_table", "_law_is_basket_right"]
def hloose : List PySem.Str := hl0 ++ hl1
abbrev hR : PySem.W.OpenRow := PySem.W.OpenLaw.row PySem.Challenge.rw_makeprice_k85_whole_levels_or_years_that
abbrev hk : PySem.W.Hook := He.hookX 4 hfa hfn [] [] hex
def hob (s : PySem.W.SharedT) : He.AlX := He.obsX 4 hfa hfn [] [] hex (HandSHeadRun.getT s)
theorem hob_eq (s : PySem.W.SharedT) : hob s = hk.obs s.abs := He.obsX_eq (HandSHeadRun.getT_eq s)
theorem hrun (w : World) : HandSHeadRun.RunEq hR (PySem.W.view hR.prog [48]) hk hob 4000 hloose w := by
  intro os
  kernel_rfl
end K85
open PySem PySem.W PySem.Calls PyProof.Rows
set_option maxHeartbeats 0 in
theorem PySem.Challenge.cw_makeprice_k85_whole_levels_or_years_that_holds : PySem.Challenge.rw_makeprice_k85_whole_levels_or_years_that.Holds := by
  w_on; o_law
  refine HandSHeadRun.head_any (r := OpenLaw.row PySem.Challenge.rw_makeprice_k85_whole_levels_or_years_that) (q := view (OpenLaw.row PySem.Challenge.rw_makeprice_k85_whole_levels_or_years_that).prog [48]) (H := K85.hk) (ob := K85.hob) (M := 4000) (loose := K85.hloose) (d := HandSHeadRun.topDef (OpenLaw.row PySem.Challenge.rw_makeprice_k85_whole_levels_or_years_that).prog 48) (kwd := []) K85.hob_eq
    (by kernel_rfl) (fun s => by kernel_rfl) K85.hrun (by kernel_rfl) (by kernel_rfl) (by kernel_rfl) (by rfl) (by first | assumption | decide +kernel) (by decide +kernel) ⟨rfl, rfl, rfl, rfl, rfl, by decide +kernel⟩ ?hw ?hc
  case hw => w_witness2
  case hc =>
    refine Dl.walkK (l := PySem.Challenge.rw_makeprice_k85_whole_levels_or_years_that) (n := 63) (k := 8) (x := "script") (m := K85.m_law) rfl (by decide) (by kernel_rfl) ⟨rfl, by decide, by decide⟩ ?G K85.law_good
    intro w mg fa h Y G hmg0
    obtain ⟨K, KX, c⟩ := Y
    have hmg : mg ("law" : PySem.Str) = some (.ref fa) := by
      have e : (HandSHeadRun.topDef (OpenLaw.row PySem.Challenge.rw_makeprice_k85_whole_levels_or_years_that).prog 48).name = ("law" : PySem.Str) := by kernel_rfl
      rw [← e]
      exact hmg0
    obtain ⟨T⟩ := K85.txt_of KX G c
    have e := hmg.symm.trans T.f_law.g
    cases e
    exact ⟨K, T.f_law.fd, KX, fun s u => T.f_law.bA s [u] rfl, fun base _ _ => K85.ok_law T⟩
