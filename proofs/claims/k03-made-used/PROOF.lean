import PyProof.Rows.All
import Wide.All
import OpenK.AllK
import Wide.FinOn
import HandS.ForMost
import HandS.Wide
import HandS.Walk
import HandS.IsInst
import HandS.Zip
import HandS.Flow
import HandS.TupAny
import KE.GoesMore
import KE.GoesEnum
import HandS.Defaults
import HandS.More
import HandS.Words
import HandS.Style
import HandS.Rev
import HandS.Deep
import HandS.Head0
import HandS.Head1
import HandS.Head2
import HandS.HeadEnd
import HandS.HeadHook1
import HandS.HeadHook2
import HandS.HeadHook3
import HandS.HeadHook4
import KE.KStateDown
import Lean
import HandS.SortInts
import HandS.Remove
import KE.GoesZip
import HandS.IterVal
import HandS.Conv
import KE.KDictZip
import KE.KDictList
import PyProof.ReprLen
import PySem.Challenge.RW_makeprice_k03_whole_made_used_and_left
set_option Elab.async false
set_option linter.all false
set_option maxRecDepth 100000
/-! Dl: plain data over the hand layer. A def is told by a plain function of data. -/
namespace Dl
open PySem PySem.Spec PyProof.Rows L2

abbrev D := PyData
abbrev Sg := L2.St

/-! ### data stands while the heap grows -/
theorem Same.tupS {K : PySem.W.Frag} {H H' : Hp} {a : Addr} {xs : List V} (e : Same H H') (h : SqT K H a xs) : SqT K H' a xs := by
  rcases h with (h | ⟨o, h⟩) | h
  · exact .inl (.inl (e _ _ h))
  · exact .inl (.inr ⟨o, e _ _ h⟩)
  · exact .inr h

mutual
theorem dpMono {K : PySem.W.Frag} {H H' : Hp} (e : Same H H') : ∀ (d : D) (v : V), Dp K H v d → Dp K H' v d
  | .none, _, h => by cases h; exact .non
  | .bool b, _, h => by cases h; exact .bl b
  | .int i, _, h => by cases h; exact .int i
  | .str x, _, h => by cases h; exact .str x
  | .list ds, _, h => by
    cases h with
    | lst hs ha => exact .lst (e.seq hs) (dpMonos e ds _ ha)
  | .tuple ds, _, h => by
    cases h with
    | tup hs ha => exact .tup (Same.tupS e hs) (dpMonos e ds _ ha)
  | .dict _, _, h => by cases h
theorem dpMonos {K : PySem.W.Frag} {H H' : Hp} (e : Same H H') : ∀ (ds : List D) (vs : List V), DpAll K H vs ds → DpAll K H' vs ds
  | [], _, h => by cases h; exact .nil
  | d :: ds, _, h => by
    cases h with
    | cons h1 h2 => exact .cons (dpMono e d _ h1) (dpMonos e ds _ h2)
end

theorem dpLen {K : PySem.W.Frag} {H : Hp} : ∀ {vs : List V} {ds : List D}, DpAll K H vs ds → vs.length = ds.length
  | _, [], h => by cases h; rfl
  | _, d :: ds, h => by
    cases h with
    | cons _ h2 => simp [dpLen h2]
theorem dpAt {K : PySem.W.Frag} {H : Hp} : ∀ {vs : List V} {ds : List D} {i : Nat} {d : D}, DpAll K H vs ds → ds[i]? = some d → ∃ v, vs[i]? = some v ∧ Dp K H v d
  | _, [], _, _, _, e => by simp at e
  | _, d :: ds, 0, d', h, e => by
    cases h with
    | cons h1 h2 => simp at e; subst e; exact ⟨_, rfl, h1⟩
  | _, d :: ds, i + 1, d', h, e => by
    cases h with
    | cons h1 h2 =>
      obtain ⟨v, q, r⟩ := dpAt h2 (i := i) (by simpa using e)
      exact ⟨v, by simpa using q, r⟩
theorem dpAtV {K : PySem.W.Frag} {H : Hp} : ∀ {vs : List V} {ds : List D} {i : Nat} {v : V}, DpAll K H vs ds → vs[i]? = some v → ∃ d, ds[i]? = some d ∧ Dp K H v d
  | _, [], _, _, h, e => by cases h; simp at e
  | _, d :: ds, 0, d', h, e => by
    cases h with
    | cons h1 h2 => simp at e; subst e; exact ⟨_, rfl, h1⟩
  | _, d :: ds, i + 1, d', h, e => by
    cases h with
    | cons h1 h2 =>
      obtain ⟨v, q, r⟩ := dpAtV h2 (i := i) (by simpa using e)
      exact ⟨v, by simpa using q, r⟩
theorem dpApp {K : PySem.W.Frag} {H : Hp} : ∀ {vs ws : List V} {ds es : List D}, DpAll K H vs ds → DpAll K H ws es → DpAll K H (vs ++ ws) (ds ++ es)
  | _, _, [], _, h, g => by cases h; exact g
  | _, _, d :: ds, _, h, g => by
    cases h with
    | cons h1 h2 => exact .cons h1 (dpApp h2 g)
theorem dpTake {K : PySem.W.Frag} {H : Hp} : ∀ (n : Nat) {vs : List V} {ds : List D}, DpAll K H vs ds → DpAll K H (vs.take n) (ds.take n)
  | 0, _, _, _ => .nil
  | n + 1, _, [], h => by cases h; exact .nil
  | n + 1, _, d :: ds, h => by
    cases h with
    | cons h1 h2 => exact .cons h1 (dpTake n h2)
theorem dpDrop {K : PySem.W.Frag} {H : Hp} : ∀ (n : Nat) {vs : List V} {ds : List D}, DpAll K H vs ds → DpAll K H (vs.drop n) (ds.drop n)
  | 0, _, _, h => h
  | n + 1, _, [], h => by cases h; exact .nil
  | n + 1, _, d :: ds, h => by
    cases h with
    | cons h1 h2 => exact dpDrop n h2
theorem dpSet {K : PySem.W.Frag} {H : Hp} {v : V} {d : D} (hd : Dp K H v d) : ∀ (n : Nat) {vs : List V} {ds : List D}, DpAll K H vs ds → DpAll K H (vs.set n v) (ds.set n d)
  | _, _, [], h => by cases h; exact .nil
  | 0, _, d :: ds, h => by
    cases h with
    | cons h1 h2 => exact .cons hd h2
  | n + 1, _, d :: ds, h => by
    cases h with
    | cons h1 h2 => exact .cons h1 (dpSet hd n h2)

/-! ### slots -/
/-- what a slot holds: nothing, data that stays, a list that this frame alone may change -/
inductive Sl where
  | no | v (d : D) | own (t : Option Addr) (ds : List D)
abbrev G := List Sl

def RepS (K : PySem.W.Frag) (F H : Hp) : Sl → Option V → Prop
  | .no, _ => True
  | .v d, o => ∃ x, o = some x ∧ Dp K F x d
  | .own t ds, o => ∃ a xs, o = some (.ref a) ∧ F a = none ∧ H a = some (.lst xs) ∧ DpAll K F xs ds ∧ ∀ b, t = some b → b = a

/-- the address of a list of the frame's own -/
def OwnAt (g : G) (s : Sg) (a : Addr) : Prop := ∃ (i : Nat) (t : Option Addr) (ds : List D), g[i]? = some (.own t ds) ∧ s[i]? = some (some (.ref a))

structure Rep (K : PySem.W.Frag) (F : Hp) (g : G) (s : Sg) (H : Hp) : Prop where
  fh : Same F H
  len : g.length = s.length
  sl : ∀ (i : Nat) (x : Sl) (o : Option V), g[i]? = some x → s[i]? = some o → RepS K F H x o
  uq : ∀ (i j : Nat) (a : Addr) (t u : Option Addr) (ds es : List D), g[i]? = some (.own t ds) → g[j]? = some (.own u es) → s[i]? = some (some (.ref a)) → s[j]? = some (some (.ref a)) → i = j

/-- from one heap to a later one: what is frozen stays, all but the addresses O stays -/
structure Stp (O : Addr → Prop) (F H F' H' : Hp) : Prop where
  fs : Same F F'
  keep : ∀ b o, H b = some o → ¬ O b → H' b = some o
  fresh : ∀ b, F b = none → F' b ≠ none → H b = none ∨ O b
  dom : ∀ b, H b ≠ none → H' b ≠ none

abbrev Non : Addr → Prop := fun _ => False

theorem Stp.refl {O : Addr → Prop} {F H : Hp} : Stp O F H F H := ⟨.refl _, fun _ _ h _ => h, fun _ h h' => absurd h h', fun _ h => h⟩
theorem Stp.weak {O O' : Addr → Prop} {F H F' H' : Hp} (s : Stp O F H F' H') (h : ∀ b, O b → O' b) : Stp O' F H F' H' :=
  ⟨s.fs, fun b o e n => s.keep b o e fun z => n (h b z), fun b e e' => (s.fresh b e e').imp id (h b), s.dom⟩
theorem Stp.trans {O O1 : Addr → Prop} {F H F1 H1 F2 H2 : Hp} (s : Stp O F H F1 H1) (t : Stp O1 F1 H1 F2 H2) (h : ∀ b, O1 b → O b ∨ H b = none) : Stp O F H F2 H2 where
  fs := s.fs.trans t.fs
  keep := fun b o e n => t.keep b o (s.keep b o e n) fun z => by
    rcases h b z with q | q
    · exact n q
    · rw [q] at e; cases e
  fresh := fun b e e' => by
    by_cases q : F1 b = none
    · rcases t.fresh b q e' with z | z
      · left
        cases hb : H b with
        | none => rfl
        | some o => exact absurd z (s.dom b (by rw [hb]; simp))
      · exact (h b z).symm.imp id id
    · exact s.fresh b e q
  dom := fun b e => t.dom b (s.dom b e)

/-- a new object, frozen at once -/
theorem Stp.laid {O : Addr → Prop} {F H : Hp} {p : Addr} {o : HO} (np : H p = none) (fh : Same F H) : Stp O F H (upd F p o) (upd H p o) := by
  have fp : F p = none := by
    cases e : F p with
    | none => rfl
    | some u => rw [fh _ _ e] at np; cases np
  refine ⟨fun b u e => ?_, fun b u e _ => ?_, fun b e e' => ?_, fun b e => ?_⟩
  · rw [upd_ne (ne_of_none e fp)]; exact e
  · rw [upd_ne (ne_of_none e np)]; exact e
  · by_cases z : b = p
    · left; rw [z]; exact np
    · rw [upd_ne z] at e'; exact absurd e e'
  · by_cases z : b = p
    · rw [z] at e; exact absurd np e
    · rw [upd_ne z]; exact e
/-- a new object, not frozen -/
theorem Stp.made {O : Addr → Prop} {F H : Hp} {p : Addr} {o : HO} (np : H p = none) : Stp O F H F (upd H p o) := by
  refine ⟨.refl _, fun b u e _ => ?_, fun b e e' => absurd e e', fun b e => ?_⟩
  · rw [upd_ne (ne_of_none e np)]; exact e
  · by_cases z : b = p
    · rw [z] at e; exact absurd np e
    · rw [upd_ne z]; exact e
theorem sameLaid {F H : Hp} {p : Addr} {o : HO} (fh : Same F H) (np : H p = none) : Same (upd F p o) (upd H p o) := fun b u e => by
  by_cases z : b = p
  · subst z; rw [upd_same] at e ⊢; exact e
  · rw [upd_ne z] at e ⊢; exact fh b u e
theorem sameMade {F H : Hp} {p : Addr} {o : HO} (fh : Same F H) (np : H p = none) : Same F (upd H p o) := fun b u e => by
  have h := fh b u e
  rw [upd_ne (ne_of_none h np)]; exact h

/-- slots behind a step that touches none of the frame's lists -/
theorem Rep.step {K : PySem.W.Frag} {F F' H H' : Hp} {g : G} {s : Sg} {O : Addr → Prop} (r : Rep K F g s H) (t : Stp O F H F' H') (hO : ∀ b, OwnAt g s b → ¬ O b) (fh : Same F' H') : Rep K F' g s H' := by
  refine ⟨fh, r.len, fun i x o hx ho => ?_, r.uq⟩
  have q := r.sl i x o hx ho
  cases x with
  | no => trivial
  | v d =>
    obtain ⟨y, e, h⟩ := q
    exact ⟨y, e, dpMono t.fs _ _ h⟩
  | own tg ds =>
    obtain ⟨a, xs, e, fa, ha, h, ht⟩ := q
    have ow : OwnAt g s a := ⟨i, tg, ds, hx, by rw [ho, e]⟩
    refine ⟨a, xs, e, ?_, t.keep a _ ha (hO a ow), dpMonos t.fs _ _ h, ht⟩
    cases z : F' a with
    | none => rfl
    | some u =>
      rcases t.fresh a fa (by rw [z]; simp) with q | q
      · rw [q] at ha; cases ha
      · exact absurd q (hO a ow)
theorem Rep.stepN {K : PySem.W.Frag} {F F' H H' : Hp} {g : G} {s : Sg} (r : Rep K F g s H) (t : Stp Non F H F' H') (fh : Same F' H') : Rep K F' g s H' := r.step t (fun _ _ z => z) fh

/-- the frame's lists grow no more -/
def Mo (g g' : G) : Prop := ∀ (i : Nat) (t : Option Addr) (ds : List D), g'[i]? = some (.own t ds) → ∃ es, g[i]? = some (.own t es)
theorem Mo.refl {g : G} : Mo g g := fun _ _ ds h => ⟨ds, h⟩
theorem Mo.trans {a b c : G} (x : Mo a b) (y : Mo b c) : Mo a c := fun i t ds h => let ⟨es, e⟩ := y i t ds h; x i t es e
theorem Mo.own {g g' : G} {s : Sg} {a : Addr} (m : Mo g g') (h : OwnAt g' s a) : OwnAt g s a := by
  obtain ⟨i, t, ds, e, q⟩ := h
  obtain ⟨es, z⟩ := m i t ds e
  exact ⟨i, t, es, z, q⟩

theorem Rep.get {K : PySem.W.Frag} {F H : Hp} {g : G} {s : Sg} (r : Rep K F g s H) {i : Nat} {x : Sl} (h : g[i]? = some x) : ∃ o, s[i]? = some o ∧ RepS K F H x o := by
  have hi : i < s.length := by rw [← r.len]; exact (List.getElem?_eq_some_iff.mp h).1
  exact ⟨s[i], List.getElem?_eq_getElem hi, r.sl i x _ h (List.getElem?_eq_getElem hi)⟩

theorem ownIn {g : G} {s : Sg} {a : Addr} {i : Nat} {x : Sl} {o : Option V} (h : OwnAt (g.set i x) (s.set i o) a) (hl : g.length = s.length) : OwnAt g s a ∨ (∃ t ds, x = .own t ds ∧ o = some (.ref a)) := by
  obtain ⟨j, t, ds, e, q⟩ := h
  by_cases z : i = j
  · subst z
    have hi : i < g.length := by
      have := (List.getElem?_eq_some_iff.mp e).1
      simpa using this
    rw [List.getElem?_set_self hi] at e
    rw [List.getElem?_set_self (by omega)] at q
    right
    cases e; cases q
    exact ⟨t, ds, rfl, rfl⟩
  · rw [List.getElem?_set_ne z] at e q
    exact .inl ⟨j, t, ds, e, q⟩
/-- a slot is written -/
theorem Rep.put {K : PySem.W.Frag} {F H : Hp} {g : G} {s : Sg} (r : Rep K F g s H) (i : Nat) (x : Sl) (o : Option V) (h : RepS K F H x o) (hn : ∀ t ds a, x = .own t ds → o = some (.ref a) → ¬ OwnAt g s a) : Rep K F (g.set i x) (s.set i o) H := by
  refine ⟨r.fh, by simp [r.len], fun j y o' hy ho => ?_, fun j k a t u ds es h1 h2 h3 h4 => ?_⟩
  · by_cases z : i = j
    · subst z
      have hi : i < g.length := by
        have := (List.getElem?_eq_some_iff.mp hy).1
        simpa using this
      rw [List.getElem?_set_self hi] at hy
      rw [List.getElem?_set_self (by rw [← r.len]; exact hi)] at ho
      cases hy; cases ho; exact h
    · rw [List.getElem?_set_ne z] at hy ho
      exact r.sl j y o' hy ho
  · by_cases z1 : i = j
    · by_cases z2 : i = k
      · exact z1.symm.trans z2
      · subst z1
        have hi : i < g.length := by
          have := (List.getElem?_eq_some_iff.mp h1).1
          simpa using this
        rw [List.getElem?_set_self hi] at h1
        rw [List.getElem?_set_self (by rw [← r.len]; exact hi)] at h3
        rw [List.getElem?_set_ne z2] at h2 h4
        cases h1; cases h3
        exact absurd ⟨k, u, es, h2, h4⟩ (hn t ds a rfl rfl)
    · by_cases z2 : i = k
      · subst z2
        have hi : i < g.length := by
          have := (List.getElem?_eq_some_iff.mp h2).1
          simpa using this
        rw [List.getElem?_set_self hi] at h2
        rw [List.getElem?_set_self (by rw [← r.len]; exact hi)] at h4
        rw [List.getElem?_set_ne z1] at h1 h3
        cases h2; cases h4
        exact absurd ⟨j, t, ds, h1, h3⟩ (hn u es a rfl rfl)
      · rw [List.getElem?_set_ne z1] at h1 h3
        rw [List.getElem?_set_ne z2] at h2 h4
        exact r.uq j k a t u ds es h1 h2 h3 h4
end Dl
set_option Elab.async false
set_option linter.all false
set_option maxRecDepth 100000
namespace Dl
open PySem PySem.Spec PyProof.Rows L2

theorem Stp.two {F H F1 H1 F2 H2 : Hp} {g g1 : G} {s : Sg} (t1 : Stp (OwnAt g s) F H F1 H1) (m : Mo g g1) (t2 : Stp (OwnAt g1 s) F1 H1 F2 H2) : Stp (OwnAt g s) F H F2 H2 := t1.trans t2 fun _ h => .inl (m.own h)
theorem Stp.andN {O : Addr → Prop} {F H F1 H1 F2 H2 : Hp} (t1 : Stp O F H F1 H1) (t2 : Stp Non F1 H1 F2 H2) : Stp O F H F2 H2 := t1.trans t2 fun _ h => h.elim

theorem peMono {X : Cx} {e : Expr} {t t' : TE} (h : PE X e t) (m : ∀ s H Q, t' s H Q → t s H Q) : PE X e t' := ⟨fun pins st s H Q I w => h.run pins st s H Q I (m s H Q w)⟩
theorem ptMono {X : Cx} {e : Expr} {t t' : TT} (h : PT X e t) (m : ∀ s H Q, t' s H Q → t s H Q) : PT X e t' := ⟨fun pins st s H Q I w => h.run pins st s H Q I (m s H Q w)⟩
theorem paMono {X : Cx} {e : List Expr} {t t' : TA} (h : PA X e t) (m : ∀ s H Q, t' s H Q → t s H Q) : PA X e t' := ⟨fun pos pins st s H Q I w => h.run pos pins st s H Q I (m s H Q w)⟩
theorem psMono {X : Cx} {e : Stmt} {t t' : TS} (h : PS X e t) (m : ∀ D s H, t' D s H → t D s H) : PS X e t' := ⟨fun pins st s H D I w => h.run pins st s H D I (m D s H w)⟩
theorem pssMono {X : Cx} {e : List Stmt} {t t' : TS} (h : PSs X e t) (m : ∀ D s H, t' D s H → t D s H) : PSs X e t' := ⟨fun pins st s H D I w => h.run pins st s H D I (m D s H w)⟩
theorem pwMono {X : Cx} {e : Expr} {t t' : TT} (h : PW X e t) (m : ∀ s H Q, t' s H Q → t s H Q) : PW X e t' := ⟨fun wh pins st s H Q I w => h.run wh pins st s H Q I (m s H Q w)⟩

/-! ### the judgements by data -/
abbrev Fe := G → Option (D × G)
abbrev Fv := G → Option (Sl × G)
abbrev Ft := G → Option (Bool × G)
abbrev Fa := G → Option (List D × G)

def tD (K : PySem.W.Frag) (f : Fe) : TE := fun s H Q => ∃ F g d g', Rep K F g s H ∧ f g = some (d, g') ∧
  ∀ v F' H', Dp K F' v d → Rep K F' g' s H' → Stp (OwnAt g s) F H F' H' → Mo g g' → Q v H'
/-- data to be read at once: frozen, or a list of the frame's own -/
def BD (K : PySem.W.Frag) (F H : Hp) (v : V) (d : D) : Prop := Dp K F v d ∨ ∃ ds a xs, d = .list ds ∧ v = .ref a ∧ H a = some (.lst xs) ∧ DpAll K F xs ds
theorem BD.dp {K : PySem.W.Frag} {F H : Hp} {v : V} {d : D} (h : BD K F H v d) (fh : Same F H) : Dp K H v d := by
  rcases h with h | ⟨ds, a, xs, rfl, rfl, ha, hp⟩
  · exact dpMono fh _ _ h
  · exact .lst (SqL.of ha) (dpMonos fh _ _ hp)
def tB (K : PySem.W.Frag) (f : Fe) : TE := fun s H Q => ∃ F g d g', Rep K F g s H ∧ f g = some (d, g') ∧
  ∀ v F' H', BD K F' H' v d → Rep K F' g' s H' → Stp (OwnAt g s) F H F' H' → Mo g g' → Q v H'
def tV (K : PySem.W.Frag) (f : Fv) : TE := fun s H Q => ∃ F g x g', Rep K F g s H ∧ f g = some (x, g') ∧
  ∀ v F' H', RepS K F' H' x (some v) → (∀ t ds, x = .own t ds → t = none ∧ ∃ a, v = .ref a ∧ H a = none) → Rep K F' g' s H' → Stp (OwnAt g s) F H F' H' → Mo g g' → Q v H'
def tT (K : PySem.W.Frag) (f : Ft) : TT := fun s H Q => ∃ F g b g', Rep K F g s H ∧ f g = some (b, g') ∧
  ∀ F' H', Rep K F' g' s H' → Stp (OwnAt g s) F H F' H' → Mo g g' → Q b H'
def tA (K : PySem.W.Frag) (f : Fa) : TA := fun s H Q => ∃ F g ds g', Rep K F g s H ∧ f g = some (ds, g') ∧
  ∀ vs F' H', DpAll K F' vs ds → Rep K F' g' s H' → Stp (OwnAt g s) F H F' H' → Mo g g' → Q vs H'
def DE (X : Cx) (e : Expr) (f : Fe) : Prop := PE X e (tD X.K f)
def DB (X : Cx) (e : Expr) (f : Fe) : Prop := PE X e (tB X.K f)
def DV (X : Cx) (e : Expr) (f : Fv) : Prop := PE X e (tV X.K f)
def DT (X : Cx) (e : Expr) (f : Ft) : Prop := PT X e (tT X.K f)
def DW (X : Cx) (e : Expr) (f : Ft) : Prop := PW X e (tT X.K f)
def DA (X : Cx) (es : List Expr) (f : Fa) : Prop := PA X es (tA X.K f)

variable {X : Cx}

/-! ### constants, names -/
def eC (d : D) : Fe := fun g => some (d, g)
theorem de_const {e : Expr} {v : V} {d : D} (h : PE X e (tC v)) (hd : ∀ F, Dp X.K F v d) : DE X e (eC d) := peMono h fun s H Q ⟨F, g, d', g', r, e1, k⟩ => by
  cases e1
  exact k v F H (hd F) r Stp.refl Mo.refl
theorem de_int {i j pos} : DE X (.Constant (.int i) j pos) (eC (.int i)) := de_const pe_int fun _ => .int i
theorem de_str {i j pos} : DE X (.Constant (.str i) j pos) (eC (.str i)) := de_const pe_str fun _ => .str i
theorem de_bl {i j pos} : DE X (.Constant (.bool i) j pos) (eC (.bool i)) := de_const pe_bl fun _ => .bl i
theorem de_non {j pos} : DE X (.Constant .none j pos) (eC .none) := de_const pe_non fun _ => .non
/-- a constant of the module -/
theorem de_glob {x : Str} {v : V} {u : Value} {d : D} {pos : Pos} (hg : Gl X x) (hm : X.mg x = some u) (r : RelV v u) (hd : ∀ F, Dp X.K F v d) (hdb : (x == ("__debug__" : Str)) = false := by decide) : DE X (.Name x pos) (eC d) := de_const (pe_glob hg hm r hdb) hd

def eVar (i : Nat) : Fe := fun g => match g[i]? with
  | some (.v d) => some (d, g)
  | some (.own none ds) => some (.list ds, g.set i (.v (.list ds)))
  | _ => none
/-- read without being frozen -/
def bVar (i : Nat) : Fe := fun g => match g[i]? with
  | some (.v d) => some (d, g)
  | some (.own _ ds) => some (.list ds, g)
  | _ => none

theorem setSelf {s : Sg} {i : Nat} {o : Option V} (h : s[i]? = some o) : s.set i o = s := by
  apply List.ext_getElem?
  intro j
  by_cases z : i = j
  · subst z
    rw [List.getElem?_set_self (List.getElem?_eq_some_iff.mp h).1, h]
  · rw [List.getElem?_set_ne z]

/-- a list of the frame's own is frozen where it stands -/
theorem Rep.freeze {K : PySem.W.Frag} {F H : Hp} {g : G} {s : Sg} (r : Rep K F g s H) {i : Nat} {t : Option Addr} {ds : List D} (h : g[i]? = some (.own t ds)) :
    ∃ a F', s[i]? = some (some (.ref a)) ∧ Dp K F' (.ref a) (.list ds) ∧ Rep K F' (g.set i (.v (.list ds))) s H ∧ Stp (OwnAt g s) F H F' H ∧ Mo g (g.set i (.v (.list ds))) := by
  obtain ⟨o, ho, a, xs, eo, fa, ha, hp, ht⟩ := r.get h
  subst eo
  have hi : i < g.length := (List.getElem?_eq_some_iff.mp h).1
  have sf : Same F (upd F a (.lst xs)) := fun b u e => by rw [upd_ne (ne_of_none e fa)]; exact e
  have fh : Same (upd F a (.lst xs)) H := fun b u e => by
    by_cases z : b = a
    · subst z; rw [upd_same] at e; cases e; exact ha
    · rw [upd_ne z] at e; exact r.fh b u e
  have t1 : Stp (fun b => b = a) F H (upd F a (.lst xs)) H := ⟨sf, fun b o e _ => e, fun b e e' => by
    by_cases z : b = a
    · exact .inr z
    · rw [upd_ne z] at e'; exact absurd e e', fun b e => e⟩
  have r0 : Rep K F (g.set i .no) s H := by
    have := r.put i .no (some (.ref a)) trivial (fun _ _ _ e => nomatch e)
    rwa [setSelf ho] at this
  have r1 : Rep K (upd F a (.lst xs)) (g.set i .no) s H := by
    refine r0.step t1 (fun b hb z => ?_) fh
    subst z
    obtain ⟨j, tg, es, e1, e2⟩ := hb
    by_cases z : i = j
    · subst z; rw [List.getElem?_set_self hi] at e1; cases e1
    · rw [List.getElem?_set_ne z] at e1
      exact z (r.uq i j b t tg ds es h e1 ho e2)
  have dp : Dp K (upd F a (.lst xs)) (.ref a) (.list ds) := .lst (SqL.of upd_same) (dpMonos sf _ _ hp)
  have r2 : Rep K (upd F a (.lst xs)) (g.set i (.v (.list ds))) s H := by
    have := r1.put i (.v (.list ds)) (some (.ref a)) ⟨_, rfl, dp⟩ (fun _ _ _ e => nomatch e)
    rwa [setSelf ho, List.set_set] at this
  refine ⟨a, _, ho, dp, r2, t1.weak fun b z => by subst z; exact ⟨i, t, ds, h, ho⟩, fun j tg es e => ?_⟩
  by_cases z : i = j
  · subst z; rw [List.getElem?_set_self hi] at e; cases e
  · rw [List.getElem?_set_ne z] at e; exact ⟨es, e⟩

theorem de_var (i : Nat) {x : Str} {pos : Pos} (hN : X.N[i]? = some x := by rfl) (hv : Vis X.env.scope x := by first | exact Or.inl rfl | exact Or.inr (Or.inl rfl) | exact Or.inr (Or.inr rfl)) (hd : (x == ("__debug__" : Str)) = false := by decide)
    (hcd : (x == ("__classdict__" : Str)) = false := by decide) : DE X (.Name x pos) (eVar i) := peMono (pe_var hN hv hd hcd) fun s H Q ⟨F, g, d, g', r, e, k⟩ => by
  unfold eVar at e
  split at e
  · rename_i d0 hg
    cases e
    obtain ⟨o, ho, v, rfl, hp⟩ := r.get hg
    exact ⟨v, ho, k v F H hp r Stp.refl Mo.refl⟩
  · rename_i ds hg
    cases e
    obtain ⟨a, F', ho, dp, r2, st, mo⟩ := r.freeze hg
    exact ⟨_, ho, k _ F' H dp r2 st mo⟩
  · cases e
theorem db_var (i : Nat) {x : Str} {pos : Pos} (hN : X.N[i]? = some x := by rfl) (hv : Vis X.env.scope x := by first | exact Or.inl rfl | exact Or.inr (Or.inl rfl) | exact Or.inr (Or.inr rfl)) (hd : (x == ("__debug__" : Str)) = false := by decide)
    (hcd : (x == ("__classdict__" : Str)) = false := by decide) : DB X (.Name x pos) (bVar i) := peMono (pe_var hN hv hd hcd) fun s H Q ⟨F, g, d, g', r, e, k⟩ => by
  unfold bVar at e
  split at e
  · rename_i d0 hg
    cases e
    obtain ⟨o, ho, v, rfl, hp⟩ := r.get hg
    exact ⟨v, ho, k v F H (.inl hp) r Stp.refl Mo.refl⟩
  · rename_i t ds hg
    cases e
    obtain ⟨o, ho, a, xs, rfl, fa, ha, hp, ht⟩ := r.get hg
    exact ⟨_, ho, k _ F H (.inr ⟨ds, a, xs, rfl, rfl, ha, hp⟩) r Stp.refl Mo.refl⟩
  · cases e
theorem db_de {e : Expr} {f : Fe} (h : DE X e f) : DB X e f := peMono h fun s H Q ⟨F, g, d, g', r, e1, k⟩ =>
  ⟨F, g, d, g', r, e1, fun v F' H' p r' t m => k v F' H' (.inl p) r' t m⟩
/-- a value that is no list of the frame's own -/
def vE (f : Fe) : Fv := fun g => (f g).map fun p => (.v p.1, p.2)
theorem dv_de {e : Expr} {f : Fe} (h : DE X e f) : DV X e (vE f) := peMono h fun s H Q ⟨F, g, x, g', r, e1, k⟩ => by
  unfold vE at e1
  cases q : f g with
  | none => rw [q] at e1; cases e1
  | some p =>
    rw [q] at e1; cases e1
    exact ⟨F, g, p.1, p.2, r, q, fun v F' H' hp r' t m => k v F' H' ⟨v, rfl, hp⟩ (fun _ _ z => nomatch z) r' t m⟩
/-- frozen -/
def dat : Sl → Option D
  | .v d => some d
  | .own _ ds => some (.list ds)
  | .no => none
def eV (f : Fv) : Fe := fun g => (f g).bind fun p => (dat p.1).map fun d => (d, p.2)
theorem freezeNew {K : PySem.W.Frag} {F H F' H' : Hp} {g g' : G} {s : Sg} {a : Addr} {xs : List V} {ds : List D} (r0 : Rep K F g s H) (r : Rep K F' g' s H') (fa : F' a = none) (ha : H' a = some (.lst xs)) (hp : DpAll K F' xs ds) (na : H a = none) (t : Stp (OwnAt g s) F H F' H') (m : Mo g g') :
    ∃ F2, Dp K F2 (.ref a) (.list ds) ∧ Rep K F2 g' s H' ∧ Stp (OwnAt g s) F H F2 H' := by
  have sf : Same F' (upd F' a (.lst xs)) := fun b u e => by rw [upd_ne (ne_of_none e fa)]; exact e
  have fh : Same (upd F' a (.lst xs)) H' := fun b u e => by
    by_cases z : b = a
    · subst z; rw [upd_same] at e; cases e; exact ha
    · rw [upd_ne z] at e; exact r.fh b u e
  have t1 : Stp (fun b => b = a) F' H' (upd F' a (.lst xs)) H' := ⟨sf, fun b o e _ => e, fun b e e' => by
    by_cases z : b = a
    · exact .inr z
    · rw [upd_ne z] at e'; exact absurd e e', fun b e => e⟩
  refine ⟨_, .lst (SqL.of upd_same) (dpMonos sf _ _ hp), r.step t1 (fun b hb z => ?_) fh, t.trans t1 fun b z => .inr (by rw [z]; exact na)⟩
  subst z
  obtain ⟨i, tg, es, e1, e2⟩ := m.own hb
  obtain ⟨o, ho, a2, ys, eo, _, ha2, _⟩ := r0.get e1
  rw [e2] at ho; cases ho; cases eo
  rw [na] at ha2; cases ha2
theorem de_dv {e : Expr} {f : Fv} (h : DV X e f) : DE X e (eV f) := peMono h fun s H Q ⟨F, g, d, g', r, e1, k⟩ => by
  unfold eV at e1
  cases q : f g with
  | none => rw [q] at e1; cases e1
  | some p =>
    obtain ⟨x, g1⟩ := p
    rw [q] at e1
    cases x with
    | no => cases e1
    | v d0 =>
      cases e1
      exact ⟨F, g, _, g1, r, q, fun v F' H' hp _ r' t m => by
        obtain ⟨y, e2, hp⟩ := hp
        cases e2
        exact k v F' H' hp r' t m⟩
    | own tg ds =>
      cases e1
      refine ⟨F, g, _, g1, r, q, fun v F' H' hp hn r' t m => ?_⟩
      obtain ⟨a, xs, e2, fa, ha, hp, _⟩ := hp
      cases e2
      obtain ⟨_, a', e3, na⟩ := hn tg ds rfl
      cases e3
      obtain ⟨F2, dp, r2, t2⟩ := freezeNew r r' fa ha hp na t m
      exact k _ F2 H' dp r2 t2 m
/-- read at once, not frozen -/
theorem db_dv {e : Expr} {f : Fv} (h : DV X e f) : DB X e (eV f) := peMono h fun s H Q ⟨F, g, d, g', r, e1, k⟩ => by
  unfold eV at e1
  cases q : f g with
  | none => rw [q] at e1; cases e1
  | some p =>
    obtain ⟨x, g1⟩ := p
    rw [q] at e1
    cases x with
    | no => cases e1
    | v d0 =>
      cases e1
      exact ⟨F, g, _, g1, r, q, fun v F' H' hp _ r' t m => by
        obtain ⟨y, e2, hp⟩ := hp
        cases e2
        exact k v F' H' (.inl hp) r' t m⟩
    | own tg ds =>
      cases e1
      refine ⟨F, g, _, g1, r, q, fun v F' H' hp hn r' t m => ?_⟩
      obtain ⟨a, xs, e2, fa, ha, hp, _⟩ := hp
      cases e2
      exact k _ F' H' (.inr ⟨ds, a, xs, rfl, rfl, ha, hp⟩) r' t m

/-! ### two operands -/
def BinOk (K : PySem.W.Frag) (r : R2) (op : D → D → Option D) : Prop := ∀ (x y : V) (d1 d2 d : D) (F H : Hp) (Q : VK), Same F H → Dp K F x d1 → Dp K F y d2 → op d1 d2 = some d →
  (∀ v F' H', Dp K F' v d → Same F' H' → Stp Non F H F' H' → Q v H') → r x y H Q
def eBin (op : D → D → Option D) (fa fb : Fe) : Fe := fun g => (fa g).bind fun p => (fb p.2).bind fun q => (op p.1 q.1).map fun d => (d, q.2)
theorem eBin_inv {op : D → D → Option D} {fa fb : Fe} {g g' : G} {d : D} (h : eBin op fa fb g = some (d, g')) : ∃ d1 g1 d2, fa g = some (d1, g1) ∧ fb g1 = some (d2, g') ∧ op d1 d2 = some d := by
  unfold eBin at h
  cases q : fa g with
  | none => rw [q] at h; cases h
  | some p =>
    rw [q] at h
    cases q2 : fb p.2 with
    | none =>
      have h : (fb p.2).bind _ = some (d, g') := h
      rw [q2] at h; cases h
    | some p2 =>
      have h : (fb p.2).bind _ = some (d, g') := h
      rw [q2] at h
      have h : (op p.1 p2.1).map _ = some (d, g') := h
      cases q3 : op p.1 p2.1 with
      | none => rw [q3] at h; cases h
      | some d3 =>
        rw [q3] at h; cases h
        exact ⟨p.1, p.2, p2.1, rfl, q2, q3⟩
theorem tD_bin {K : PySem.W.Frag} {op : D → D → Option D} {fa fb : Fe} {r : R2} (hr : BinOk K r op) {s : Sg} {H : Hp} {Q : VK} (h : tD K (eBin op fa fb) s H Q) : tOp r (tD K fa) (tD K fb) s H Q := by
  obtain ⟨F, g, d, g', rp, e, k⟩ := h
  obtain ⟨d1, g1, d2, e1, e2, e3⟩ := eBin_inv e
  refine ⟨F, g, d1, g1, rp, e1, fun v1 F1 H1 p1 r1 t1 m1 => ⟨F1, g1, d2, g', r1, e2, fun v2 F2 H2 p2 r2 t2 m2 => ?_⟩⟩
  exact hr v1 v2 d1 d2 d F2 H2 Q r2.fh (dpMono t2.fs _ _ p1) p2 e3 fun v F3 H3 p3 fh t3 => k v F3 H3 p3 (r2.stepN t3 fh) ((t1.two m1 t2).andN t3) (m1.trans m2)
theorem de_op {a b : Expr} {pos : Pos} {o : Operator} {r : R2} {op : D → D → Option D} {fa fb : Fe} (ho : OpR X (binaryOp o) r) (hr : BinOk X.K r op) (ha : DE X a fa) (hb : DE X b fb) : DE X (.BinOp a o b pos) (eBin op fa fb) :=
  peMono (pe_op ho ha hb) fun _ _ _ h => tD_bin hr h
theorem de_cmp {a b : Expr} {pos : Pos} {o : CmpOp} {r : R2} {op : D → D → Option D} {fa fb : Fe} (ho : OpR X (compareOp o) r) (hr : BinOk X.K r op) (hm : behindInMarks o b = false) (ha : DE X a fa) (hb : DE X b fb) : DE X (.Compare a [o] [b] pos) (eBin op fa fb) :=
  peMono (pe_cmpR ho ha hb hm) fun _ _ _ h => tD_bin hr h
theorem BinOk.or {K : PySem.W.Frag} {r r' : R2} {op op' : D → D → Option D} (h : BinOk K r op) (h' : BinOk K r' op') : BinOk K (fun x y H Q => r x y H Q ∨ r' x y H Q) (fun a b => (op a b).or (op' a b)) := by
  intro x y d1 d2 d F H Q fh p1 p2 e k
  cases q : op d1 d2 with
  | none =>
    have e : (op d1 d2).or _ = _ := e
    rw [q] at e
    exact .inr (h' x y d1 d2 d F H Q fh p1 p2 e k)
  | some d' =>
    have e : (op d1 d2).or _ = _ := e
    rw [q] at e; cases e
    exact .inl (h x y d1 d2 _ F H Q fh p1 p2 q k)

/-- the answer is no new object -/
theorem fin0 {K : PySem.W.Frag} {F H : Hp} {v : V} {d : D} {Q : VK} (fh : Same F H) (hd : Dp K F v d) (k : ∀ v F' H', Dp K F' v d → Same F' H' → Stp Non F H F' H' → Q v H') : Q v H := k v F H hd fh Stp.refl

end Dl
set_option Elab.async false
set_option linter.all false
set_option maxRecDepth 100000
namespace Dl
open PySem PySem.Spec PyProof.Rows L2
variable {X : Cx}

/-! ### arithmetic -/
def addD : D → D → Option D
  | .int i, .int j => some (.int (i + j))
  | _, _ => none
def subD : D → D → Option D
  | .int i, .int j => some (.int (i - j))
  | _, _ => none
/-- the sizes that a product and a quotient are served for -/
def MulOk (i j : Int) : Bool := decide (i.natAbs.log2 + j.natAbs.log2 < 1000000) || decide (i.natAbs < 2 ^ 64) || decide (j.natAbs < 2 ^ 64)
def mulD : D → D → Option D
  | .int i, .int j => if MulOk i j = true then some (.int (i * j)) else none
  | _, _ => none
def DivOk (j : Int) : Bool := decide (j ≠ 0) && decide (j.natAbs.log2 < 9000)
def fdivD : D → D → Option D
  | .int i, .int j => if DivOk j = true then some (.int (i.fdiv j)) else none
  | _, _ => none
def modD : D → D → Option D
  | .int i, .int j => if j = 0 then none else some (.int (i.fmod j))
  | _, _ => none
theorem intOf {K : PySem.W.Frag} {F : Hp} {v : V} {i : Int} (h : Dp K F v (.int i)) : v = .int i := by cases h; rfl
theorem ok_add : BinOk X.K (rI0 fun i j => .int (i + j)) addD := fun x y d1 d2 d F H Q fh p1 p2 e k => by
  unfold addD at e
  split at e
  · cases e
    rename_i i j
    exact ⟨i, j, intOf p1, intOf p2, fin0 fh (.int _) k⟩
  · cases e
theorem ok_sub : BinOk X.K (rI0 fun i j => .int (i - j)) subD := fun x y d1 d2 d F H Q fh p1 p2 e k => by
  unfold subD at e
  split at e
  · cases e
    rename_i i j
    exact ⟨i, j, intOf p1, intOf p2, fin0 fh (.int _) k⟩
  · cases e
theorem op_mulX : OpR X (binaryOp .Mult) (rI (fun i j => CMulW i j ∨ CMul i j) fun i j => .int (i * j)) := by
  intro pins s σ H x y v u Q I rx ry h
  obtain ⟨i, j, e1, e2, c, q⟩ := h
  rcases c with c | c
  · exact op_mulW pins s σ H x y v u Q I rx ry ⟨i, j, e1, e2, c, q⟩
  · exact op_mul pins s σ H x y v u Q I rx ry ⟨i, j, e1, e2, c, q⟩
theorem ok_mul : BinOk X.K (rI (fun i j => CMulW i j ∨ CMul i j) fun i j => .int (i * j)) mulD := fun x y d1 d2 d F H Q fh p1 p2 e k => by
  unfold mulD at e
  split at e
  · rename_i i j
    split at e
    · rename_i hc
      cases e
      refine ⟨i, j, intOf p1, intOf p2, ?_, fin0 fh (.int _) k⟩
      unfold MulOk at hc
      simp only [Bool.or_eq_true, decide_eq_true_eq] at hc
      rcases hc with (hc | hc) | hc
      · exact .inl hc
      · exact .inr (.inl ⟨by omega, by omega⟩)
      · exact .inr (.inr ⟨by omega, by omega⟩)
    · cases e
  · cases e
theorem op_fdivX : OpR X (binaryOp .FloorDiv) (rI (fun _ j => j ≠ 0 ∧ j.natAbs.log2 < 9000) fun i j => .int (i.fdiv j)) := opI fun i j _ _ _ _ _ hc q => floordiv_int hc.1 q (.inl (PyProof.noPylong_of_log2 hc.2))
theorem ok_fdiv : BinOk X.K (rI (fun _ j => j ≠ 0 ∧ j.natAbs.log2 < 9000) fun i j => .int (i.fdiv j)) fdivD := fun x y d1 d2 d F H Q fh p1 p2 e k => by
  unfold fdivD at e
  split at e
  · rename_i i j
    split at e
    · rename_i hc
      cases e
      unfold DivOk at hc
      simp only [Bool.and_eq_true, decide_eq_true_eq] at hc
      exact ⟨i, j, intOf p1, intOf p2, hc, fin0 fh (.int _) k⟩
    · cases e
  · cases e
theorem ok_mod : BinOk X.K (rI (fun _ j => j ≠ 0) fun i j => .int (i.fmod j)) modD := fun x y d1 d2 d F H Q fh p1 p2 e k => by
  unfold modD at e
  split at e
  · rename_i i j
    split at e
    · cases e
    · rename_i hc
      cases e
      exact ⟨i, j, intOf p1, intOf p2, hc, fin0 fh (.int _) k⟩
  · cases e
def powD : D → D → Option D
  | .int i, .int j => if 0 ≤ j ∧ j ≤ 1000000 ∧ i.natAbs < 2 ^ 64 then some (.int (i ^ j.toNat)) else none
  | _, _ => none
theorem ok_pow : BinOk X.K (rI CPow fun i j => .int (i ^ j.toNat)) powD := fun x y d1 d2 d F H Q fh p1 p2 e k => by
  unfold powD at e
  split at e
  · rename_i i j
    split at e
    · rename_i hc
      cases e
      exact ⟨i, j, intOf p1, intOf p2, hc, fin0 fh (.int _) k⟩
    · cases e
  · cases e
section
variable {a b : Expr} {pos : Pos} {fa fb : Fe}
theorem de_add (ha : DE X a fa) (hb : DE X b fb) : DE X (.BinOp a .Add b pos) (eBin addD fa fb) := de_op op_add ok_add ha hb
theorem de_sub (ha : DE X a fa) (hb : DE X b fb) : DE X (.BinOp a .Sub b pos) (eBin subD fa fb) := de_op op_sub ok_sub ha hb
theorem de_mul (ha : DE X a fa) (hb : DE X b fb) : DE X (.BinOp a .Mult b pos) (eBin mulD fa fb) := de_op op_mulX ok_mul ha hb
theorem de_fdiv (ha : DE X a fa) (hb : DE X b fb) : DE X (.BinOp a .FloorDiv b pos) (eBin fdivD fa fb) := de_op op_fdivX ok_fdiv ha hb
theorem de_mod (ha : DE X a fa) (hb : DE X b fb) : DE X (.BinOp a .Mod b pos) (eBin modD fa fb) := de_op op_modN ok_mod ha hb
theorem de_pow (ha : DE X a fa) (hb : DE X b fb) : DE X (.BinOp a .Pow b pos) (eBin powD fa fb) := de_op op_pow ok_pow ha hb
end
def eUn (op : D → Option D) (fa : Fe) : Fe := fun g => (fa g).bind fun p => (op p.1).map fun d => (d, p.2)
theorem eUn_inv {op : D → Option D} {fa : Fe} {g g' : G} {d : D} (h : eUn op fa g = some (d, g')) : ∃ d1, fa g = some (d1, g') ∧ op d1 = some d := by
  unfold eUn at h
  cases q : fa g with
  | none => rw [q] at h; cases h
  | some p =>
    rw [q] at h
    have h : (op p.1).map _ = some (d, g') := h
    cases q2 : op p.1 with
    | none => rw [q2] at h; cases h
    | some d2 =>
      rw [q2] at h; cases h
      exact ⟨p.1, rfl, q2⟩
def negD : D → Option D
  | .int i => some (.int (-i))
  | _ => none
theorem de_neg {a : Expr} {pos : Pos} {fa : Fe} (ha : DE X a fa) : DE X (.UnaryOp .USub a pos) (eUn negD fa) := peMono (pe_un un_neg ha) fun s H Q h => by
  obtain ⟨F, g, d, g', rp, e, k⟩ := h
  obtain ⟨d1, e1, e2⟩ := eUn_inv e
  refine ⟨F, g, d1, g', rp, e1, fun v1 F1 H1 p1 r1 t1 m1 => ?_⟩
  unfold negD at e2
  split at e2
  · cases e2
    rename_i i
    exact ⟨i, intOf p1, k _ F1 H1 (.int _) r1 t1 m1⟩
  · cases e2

/-! ### comparisons -/
def cmpD (p : Int → Int → Bool) : D → D → Option D
  | .int i, .int j => some (.bool (p i j))
  | _, _ => none
theorem ok_cmp {p : Int → Int → Bool} : BinOk X.K (rI0 fun i j => .bl (p i j)) (cmpD p) := fun x y d1 d2 d F H Q fh p1 p2 e k => by
  unfold cmpD at e
  split at e
  · cases e
    rename_i i j
    exact ⟨i, j, intOf p1, intOf p2, fin0 fh (.bl _) k⟩
  · cases e
abbrev ltD := cmpD fun i j => decide (i < j)
abbrev leD := cmpD fun i j => decide (i ≤ j)
abbrev gtD := cmpD fun i j => decide (j < i)
abbrev geD := cmpD fun i j => decide (j ≤ i)
def eqD : D → D → Option D := fun d e => match d, e with
  | .str x, .str y => some (.bool (decide (x = y)))
  | d, e => if SeqAt.shaped d = true ∧ SeqAt.shaped e = true then some (.bool (PyData.eqv d e)) else none
def neD : D → D → Option D := fun d e => match d, e with
  | .str x, .str y => some (.bool (!decide (x = y)))
  | d, e => if SeqAt.shaped d = true ∧ SeqAt.shaped e = true then some (.bool (!PyData.eqv d e)) else none
def rEqX (K : PySem.W.Frag) : R2 := fun x y H Q => rEq x y H Q ∨ rEqD K x y H Q
def rNeX (K : PySem.W.Frag) : R2 := fun x y H Q => rNe x y H Q ∨ rNeD K x y H Q
theorem op_eqX (hu : X.A.units + 64 < cLine) : OpR X (compareOp .Eq) (rEqX X.K) := op_eq.or (op_eqD hu)
theorem op_neX (hu : X.A.units + 64 < cLine) : OpR X (compareOp .NotEq) (rNeX X.K) := op_ne.or (op_neD hu)
theorem decStr {x y : Str} : decide (V.str x = V.str y) = decide (x = y) := by
  by_cases h : x = y
  · subst h; simp
  · simp [h]
theorem ok_eq : BinOk X.K (rEqX X.K) eqD := fun x y d1 d2 d F H Q fh p1 p2 e k => by
  unfold eqD at e
  split at e
  · cases e
    cases p1; cases p2
    refine .inl ⟨rfl, ?_⟩
    rw [decStr]
    exact fin0 fh (.bl _) k
  · split at e
    · rename_i h
      cases e
      exact .inr ⟨d1, d2, dpMono fh _ _ p1, dpMono fh _ _ p2, h.1, h.2, fin0 fh (.bl _) k⟩
    · cases e
theorem ok_ne : BinOk X.K (rNeX X.K) neD := fun x y d1 d2 d F H Q fh p1 p2 e k => by
  unfold neD at e
  split at e
  · cases e
    cases p1; cases p2
    refine .inl ⟨rfl, ?_⟩
    rw [decStr]
    exact fin0 fh (.bl _) k
  · split at e
    · rename_i h
      cases e
      exact .inr ⟨d1, d2, dpMono fh _ _ p1, dpMono fh _ _ p2, h.1, h.2, fin0 fh (.bl _) k⟩
    · cases e
def isND : D → D → Option D
  | .none, .none => some (.bool true)
  | _, .none => some (.bool false)
  | _, _ => none
def notND : D → D → Option D
  | .none, .none => some (.bool false)
  | _, .none => some (.bool true)
  | _, _ => none
theorem dpNone {K : PySem.W.Frag} {F : Hp} {v : V} {d : D} (h : Dp K F v d) (hd : d ≠ .none) : decide (v = .non) = false := by
  cases h <;> first | rfl | exact absurd rfl hd
theorem ok_isN : BinOk X.K (fun x y H Q => y = .non ∧ Q (.bl (decide (x = .non))) H) isND := fun x y d1 d2 d F H Q fh p1 p2 e k => by
  unfold isND at e
  split at e
  · cases e
    cases p1; cases p2
    exact ⟨rfl, fin0 fh (.bl _) k⟩
  · rename_i hn
    cases e
    cases p2
    rw [dpNone p1 hn]
    exact ⟨rfl, fin0 fh (.bl _) k⟩
  · cases e
theorem ok_notN : BinOk X.K (fun x y H Q => y = .non ∧ Q (.bl (!decide (x = .non))) H) notND := fun x y d1 d2 d F H Q fh p1 p2 e k => by
  unfold notND at e
  split at e
  · cases e
    cases p1; cases p2
    exact ⟨rfl, fin0 fh (.bl _) k⟩
  · rename_i hn
    cases e
    cases p2
    rw [dpNone p1 hn]
    exact ⟨rfl, fin0 fh (.bl _) k⟩
  · cases e
section
variable {a b c : Expr} {pos : Pos} {fa fb fc : Fe}
theorem de_lt (ha : DE X a fa) (hb : DE X b fb) : DE X (.Compare a [.Lt] [b] pos) (eBin ltD fa fb) := de_cmp op_lt ok_cmp (nomark _) ha hb
theorem de_le (ha : DE X a fa) (hb : DE X b fb) : DE X (.Compare a [.LtE] [b] pos) (eBin leD fa fb) := de_cmp op_le ok_cmp (nomark _) ha hb
theorem de_gt (ha : DE X a fa) (hb : DE X b fb) : DE X (.Compare a [.Gt] [b] pos) (eBin gtD fa fb) := de_cmp op_gt ok_cmp (nomark _) ha hb
theorem de_ge (ha : DE X a fa) (hb : DE X b fb) : DE X (.Compare a [.GtE] [b] pos) (eBin geD fa fb) := de_cmp op_ge ok_cmp (nomark _) ha hb
theorem de_eq (hu : X.A.units + 64 < cLine) (ha : DE X a fa) (hb : DE X b fb) : DE X (.Compare a [.Eq] [b] pos) (eBin eqD fa fb) := de_cmp (op_eqX hu) ok_eq (nomark _) ha hb
theorem de_ne (hu : X.A.units + 64 < cLine) (ha : DE X a fa) (hb : DE X b fb) : DE X (.Compare a [.NotEq] [b] pos) (eBin neD fa fb) := de_cmp (op_neX hu) ok_ne (nomark _) ha hb
theorem de_isN (ha : DE X a fa) (hb : DE X b fb) : DE X (.Compare a [.Is] [b] pos) (eBin isND fa fb) := de_cmp op_isN ok_isN (nomark _) ha hb
theorem de_notN (ha : DE X a fa) (hb : DE X b fb) : DE X (.Compare a [.IsNot] [b] pos) (eBin notND fa fb) := de_cmp op_notN ok_notN (nomark _) ha hb

/-- a <= b <= c -/
def eChain (op op' : D → D → Option D) (fa fb fc : Fe) : Fe := fun g => (fa g).bind fun p => (fb p.2).bind fun q => match op p.1 q.1 with
  | some (.bool true) => (fc q.2).bind fun w => (op' q.1 w.1).map fun d => (d, w.2)
  | some (.bool false) => some (.bool false, q.2)
  | _ => none
theorem tD_chain {K : PySem.W.Frag} {r r' : R2} {o o' : D → D → Option D} (hr : BinOk K r o) (hr' : BinOk K r' o') {s : Sg} {H : Hp} {Q : VK} (h : tD K (eChain o o' fa fb fc) s H Q) : tChain r r' (tD K fa) (tD K fb) (tD K fc) s H Q := by
  obtain ⟨F, g, d, g', rp, e, k⟩ := h
  unfold eChain at e
  cases q1 : fa g with
  | none => rw [q1] at e; cases e
  | some p =>
    rw [q1] at e
    have e : (fb p.2).bind _ = some (d, g') := e
    cases q2 : fb p.2 with
    | none => rw [q2] at e; cases e
    | some p2 =>
      rw [q2] at e
      refine ⟨F, g, p.1, p.2, rp, q1, fun v1 F1 H1 h1 r1 t1 m1 => ⟨F1, p.2, p2.1, p2.2, r1, q2, fun v2 F2 H2 h2 r2 t2 m2 => ?_⟩⟩
      simp only [Option.bind_some] at e
      split at e
      · rename_i q3
        refine hr v1 v2 p.1 p2.1 _ F2 H2 _ r2.fh (dpMono t2.fs _ _ h1) h2 q3 fun v F3 H3 hv fh t3 => ?_
        cases hv
        refine ⟨true, rfl, ?_⟩
        rw [if_pos rfl]
        have r3 := r2.stepN t3 fh
        cases q4 : fc p2.2 with
        | none => rw [q4] at e; cases e
        | some p4 =>
          rw [q4] at e
          have e : (o' p2.1 p4.1).map _ = some (d, g') := e
          cases q5 : o' p2.1 p4.1 with
          | none => rw [q5] at e; cases e
          | some d5 =>
            rw [q5] at e
            cases e
            refine ⟨F3, p2.2, p4.1, p4.2, r3, q4, fun v4 F4 H4 h4 r4 t4 m4 => ?_⟩
            refine hr' v2 v4 p2.1 p4.1 _ F4 H4 _ r4.fh (dpMono (t3.fs.trans t4.fs) _ _ h2) h4 q5 fun v F5 H5 hv fh5 t5 => ?_
            exact k v F5 H5 hv (r4.stepN t5 fh5) ((((t1.two m1 t2).andN t3).two (m1.trans m2) t4).andN t5) ((m1.trans m2).trans m4)
      · rename_i q3
        cases e
        refine hr v1 v2 p.1 p2.1 _ F2 H2 _ r2.fh (dpMono t2.fs _ _ h1) h2 q3 fun v F3 H3 hv fh t3 => ?_
        cases hv
        refine ⟨false, rfl, ?_⟩
        rw [if_neg (by decide)]
        exact k _ F3 H3 (.bl false) (r2.stepN t3 fh) ((t1.two m1 t2).andN t3) (m1.trans m2)
      · cases e
theorem de_chain {op op' : CmpOp} {r r' : R2} {o o' : D → D → Option D} (ho : OpR X (compareOp op) r) (ho' : OpR X (compareOp op') r') (hr : BinOk X.K r o) (hr' : BinOk X.K r' o') (ha : DE X a fa) (hb : DE X b fb) (hc : DE X c fc)
    (hm : lastMarks [op, op'] [b, c] = false := by with_unfolding_all rfl) :
    DE X (.Compare a [op, op'] [b, c] pos) (eChain o o' fa fb fc) := peMono (pe_chain ho ho' ha hb hc hm) fun _ _ _ h => tD_chain hr hr' h
end

/-! ### truth -/
def truD : D → Option Bool
  | .none => some false
  | .bool b => some b
  | .int i => some (i != 0)
  | .str x => if x.length ≤ sizeLine then some ((x.length : Int) != 0) else none
  | .list ds => some (!ds.isEmpty)
  | .tuple ds => some (!ds.isEmpty)
  | .dict _ => none
theorem empty_of {K : PySem.W.Frag} {F : Hp} {xs : List V} {ds : List D} (h : DpAll K F xs ds) : xs.isEmpty = ds.isEmpty := by
  have := dpLen h
  cases xs <;> cases ds <;> simp_all
theorem truOf {K : PySem.W.Frag} {H : Hp} {v : V} {d : D} {b : Bool} (h : Dp K H v d) (e : truD d = some b) : TruV K v H b := by
  cases h with
  | non => cases e; rfl
  | bl b => cases e; rfl
  | int i => cases e; rfl
  | str x =>
    have e : (if x.length ≤ sizeLine then some ((x.length : Int) != 0) else none) = some b := e
    by_cases z : x.length ≤ sizeLine
    · rw [if_pos z] at e; cases e; exact ⟨z, rfl⟩
    · rw [if_neg z] at e; cases e
  | lst hs ha => cases e; exact .inl ⟨_, hs, by rw [empty_of ha]⟩
  | tup hs ha => cases e; exact .inr (.inl ⟨_, hs, by rw [empty_of ha]⟩)
/-- a value as a test -/
def tOf (f : Fe) : Ft := fun g => (f g).bind fun p => (truD p.1).map fun b => (b, p.2)
theorem tOf_inv {f : Fe} {g g' : G} {b : Bool} (h : tOf f g = some (b, g')) : ∃ d, f g = some (d, g') ∧ truD d = some b := by
  unfold tOf at h
  cases q : f g with
  | none => rw [q] at h; cases h
  | some p =>
    rw [q] at h
    have h : (truD p.1).map _ = some (b, g') := h
    cases q2 : truD p.1 with
    | none => rw [q2] at h; cases h
    | some d2 =>
      rw [q2] at h; cases h
      exact ⟨p.1, rfl, q2⟩
theorem dt_of {e : Expr} {f : Fe} (h : DB X e f) (he : ∀ whole, isTrue e X.env whole = (do let v ← whole; standAt e.pos; holding [v] (truthy v)) := by intro _; rfl) : DT X e (tOf f) := ptMono (pt_truth h he) fun s H Q h => by
  obtain ⟨F, g, b, g', rp, e, k⟩ := h
  obtain ⟨d, e1, e2⟩ := tOf_inv e
  exact ⟨F, g, d, g', rp, e1, fun v1 F1 H1 p1 r1 t1 m1 => ⟨b, truOf (p1.dp r1.fh) e2, k F1 H1 r1 t1 m1⟩⟩
/-- what gives flags alone -/
def IsB (f : Fe) : Prop := ∀ g d g', f g = some (d, g') → ∃ b, d = .bool b
def IsBo (op : D → D → Option D) : Prop := ∀ d1 d2 d, op d1 d2 = some d → ∃ b, d = .bool b
theorem isb_cmp {p} : IsBo (cmpD p) := fun d1 d2 d e => by
  unfold cmpD at e
  split at e
  · cases e; exact ⟨_, rfl⟩
  · cases e
theorem isb_eq : IsBo eqD := fun d1 d2 d e => by
  unfold eqD at e
  split at e
  · cases e; exact ⟨_, rfl⟩
  · split at e
    · cases e; exact ⟨_, rfl⟩
    · cases e
theorem isb_ne : IsBo neD := fun d1 d2 d e => by
  unfold neD at e
  split at e
  · cases e; exact ⟨_, rfl⟩
  · split at e
    · cases e; exact ⟨_, rfl⟩
    · cases e
theorem isb_isN : IsBo isND := fun d1 d2 d e => by
  unfold isND at e
  split at e <;> cases e <;> exact ⟨_, rfl⟩
theorem isb_notN : IsBo notND := fun d1 d2 d e => by
  unfold notND at e
  split at e <;> cases e <;> exact ⟨_, rfl⟩
theorem isb_bin {op : D → D → Option D} {fa fb : Fe} (h : IsBo op) : IsB (eBin op fa fb) := fun g d g' e => by
  obtain ⟨d1, g1, d2, _, _, e3⟩ := eBin_inv e
  exact h d1 d2 d e3
theorem isb_chain {op op' : D → D → Option D} {fa fb fc : Fe} (h : IsBo op') : IsB (eChain op op' fa fb fc) := fun g d g' e => by
  unfold eChain at e
  cases q1 : fa g with
  | none => rw [q1] at e; cases e
  | some p =>
    rw [q1] at e
    have e : (fb p.2).bind _ = some (d, g') := e
    cases q2 : fb p.2 with
    | none => rw [q2] at e; cases e
    | some p2 =>
      rw [q2] at e
      simp only [Option.bind_some] at e
      split at e
      · cases q4 : fc p2.2 with
        | none => rw [q4] at e; cases e
        | some p4 =>
          rw [q4] at e
          have e : (op' p2.1 p4.1).map _ = some (d, g') := e
          cases q5 : op' p2.1 p4.1 with
          | none => rw [q5] at e; cases e
          | some d5 =>
            rw [q5] at e
            cases e
            exact h _ _ _ q5
      · cases e; exact ⟨_, rfl⟩
      · cases e
theorem dt_test {e : Expr} {t : TE} {f : Fe} (h : PT X e (tTest t)) (m : ∀ s H Q, tD X.K f s H Q → t s H Q) (hb : IsB f) : DT X e (tOf f) := ptMono h fun s H Q h => by
  obtain ⟨F, g, b, g', rp, e, k⟩ := h
  obtain ⟨d, e1, e2⟩ := tOf_inv e
  refine m s H _ ⟨F, g, d, g', rp, e1, fun v1 F1 H1 p1 r1 t1 m1 => ?_⟩
  obtain ⟨c, ec⟩ := hb g d g' e1
  subst ec
  cases e2
  cases p1
  exact ⟨_, rfl, k F1 H1 r1 t1 m1⟩
theorem dt_cmp {a b : Expr} {pos : Pos} {o : CmpOp} {r : R2} {op : D → D → Option D} {fa fb : Fe} (ho : OpR X (compareOp o) r) (hr : BinOk X.K r op) (hi : IsBo op) (hm : behindInMarks o b = false) (ha : DE X a fa) (hb : DE X b fb) : DT X (.Compare a [o] [b] pos) (tOf (eBin op fa fb)) :=
  dt_test (pt_cmpR ho ha hb hm) (fun _ _ _ h => tD_bin hr h) (isb_bin hi)
theorem dt_chain {a b c : Expr} {pos : Pos} {fa fb fc : Fe} {op op' : CmpOp} {r r' : R2} {o o' : D → D → Option D} (ho : OpR X (compareOp op) r) (ho' : OpR X (compareOp op') r') (hr : BinOk X.K r o) (hr' : BinOk X.K r' o') (hi : IsBo o') (ha : DE X a fa) (hb : DE X b fb) (hc : DE X c fc)
    (hm : lastMarks [op, op'] [b, c] = false := by with_unfolding_all rfl) :
    DT X (.Compare a [op, op'] [b, c] pos) (tOf (eChain o o' fa fb fc)) := dt_test (pt_chain ho ho' ha hb hc hm) (fun _ _ _ h => tD_chain hr hr' h) (isb_chain hi)
section
variable {a b c : Expr} {pos : Pos} {fa fb fc : Fe}
theorem dt_lt (ha : DE X a fa) (hb : DE X b fb) : DT X (.Compare a [.Lt] [b] pos) (tOf (eBin ltD fa fb)) := dt_cmp op_lt ok_cmp isb_cmp (nomark _) ha hb
theorem dt_le (ha : DE X a fa) (hb : DE X b fb) : DT X (.Compare a [.LtE] [b] pos) (tOf (eBin leD fa fb)) := dt_cmp op_le ok_cmp isb_cmp (nomark _) ha hb
theorem dt_gt (ha : DE X a fa) (hb : DE X b fb) : DT X (.Compare a [.Gt] [b] pos) (tOf (eBin gtD fa fb)) := dt_cmp op_gt ok_cmp isb_cmp (nomark _) ha hb
theorem dt_ge (ha : DE X a fa) (hb : DE X b fb) : DT X (.Compare a [.GtE] [b] pos) (tOf (eBin geD fa fb)) := dt_cmp op_ge ok_cmp isb_cmp (nomark _) ha hb
theorem dt_eq (hu : X.A.units + 64 < cLine) (ha : DE X a fa) (hb : DE X b fb) : DT X (.Compare a [.Eq] [b] pos) (tOf (eBin eqD fa fb)) := dt_cmp (op_eqX hu) ok_eq isb_eq (nomark _) ha hb
theorem dt_ne (hu : X.A.units + 64 < cLine) (ha : DE X a fa) (hb : DE X b fb) : DT X (.Compare a [.NotEq] [b] pos) (tOf (eBin neD fa fb)) := dt_cmp (op_neX hu) ok_ne isb_ne (nomark _) ha hb
theorem dt_isN (ha : DE X a fa) (hb : DE X b fb) : DT X (.Compare a [.Is] [b] pos) (tOf (eBin isND fa fb)) := dt_cmp op_isN ok_isN isb_isN (nomark _) ha hb
theorem dt_notN (ha : DE X a fa) (hb : DE X b fb) : DT X (.Compare a [.IsNot] [b] pos) (tOf (eBin notND fa fb)) := dt_cmp op_notN ok_notN isb_notN (nomark _) ha hb
end

/-! ### and, or, not: tests -/
def tAndT (f h : Ft) : Ft := fun g => (f g).bind fun p => if p.1 = true then h p.2 else some (false, p.2)
def tOrT (f h : Ft) : Ft := fun g => (f g).bind fun p => if p.1 = true then some (true, p.2) else h p.2
def tNotT (f : Ft) : Ft := fun g => (f g).map fun p => (!p.1, p.2)
theorem dt_not {a : Expr} {pos : Pos} {f : Ft} (h : DT X a f) : DT X (.UnaryOp .Not a pos) (tNotT f) := ptMono (pt_not h) fun s H Q ⟨F, g, b, g', rp, e, k⟩ => by
  unfold tNotT at e
  cases q : f g with
  | none => rw [q] at e; cases e
  | some p =>
    rw [q] at e; cases e
    exact ⟨F, g, p.1, p.2, rp, q, fun F1 H1 r1 t1 m1 => k F1 H1 r1 t1 m1⟩
theorem dw_and1 {a : Expr} {pos : Pos} {f : Ft} (h : DT X a f) : DW X (.BoolOp .And [a] pos) f := pw_and1 h
theorem dw_or1 {a : Expr} {pos : Pos} {f : Ft} (h : DT X a f) : DW X (.BoolOp .Or [a] pos) f := pw_or1 h
theorem dw_and {a b : Expr} {rest : List Expr} {pos : Pos} {f h : Ft} (ha : DT X a f) (hb : DW X (.BoolOp .And (b :: rest) pos) h) : DW X (.BoolOp .And (a :: b :: rest) pos) (tAndT f h) := pwMono (pw_and ha hb) fun s H Q ⟨F, g, b, g', rp, e, k⟩ => by
  unfold tAndT at e
  cases q : f g with
  | none => rw [q] at e; cases e
  | some p =>
    obtain ⟨c, g1⟩ := p
    rw [q] at e
    refine ⟨F, g, c, g1, rp, q, fun F1 H1 r1 t1 m1 => ?_⟩
    have e : (if c = true then h g1 else some (false, g1)) = some (b, g') := e
    cases c with
    | true =>
      rw [if_pos rfl] at e
      refine iteT ?_
      exact ⟨F1, g1, b, g', r1, e, fun F2 H2 r2 t2 m2 => k F2 H2 r2 (t1.two m1 t2) (m1.trans m2)⟩
    | false =>
      rw [if_neg (by decide)] at e
      refine iteF ?_
      cases e
      exact k F1 H1 r1 t1 m1
theorem dw_or {a b : Expr} {rest : List Expr} {pos : Pos} {f h : Ft} (ha : DT X a f) (hb : DW X (.BoolOp .Or (b :: rest) pos) h) : DW X (.BoolOp .Or (a :: b :: rest) pos) (tOrT f h) := pwMono (pw_or ha hb) fun s H Q ⟨F, g, b, g', rp, e, k⟩ => by
  unfold tOrT at e
  cases q : f g with
  | none => rw [q] at e; cases e
  | some p =>
    obtain ⟨c, g1⟩ := p
    rw [q] at e
    refine ⟨F, g, c, g1, rp, q, fun F1 H1 r1 t1 m1 => ?_⟩
    have e : (if c = true then some (true, g1) else h g1) = some (b, g') := e
    cases c with
    | true =>
      rw [if_pos rfl] at e
      refine iteT ?_
      cases e
      exact k F1 H1 r1 t1 m1
    | false =>
      rw [if_neg (by decide)] at e
      refine iteF ?_
      exact ⟨F1, g1, b, g', r1, e, fun F2 H2 r2 t2 m2 => k F2 H2 r2 (t1.two m1 t2) (m1.trans m2)⟩
theorem dt_w {a : Expr} {f : Ft} (h : DW X a f) : DT X a f := h.pt

/-! ### and, or, not, if: values -/
def eAnd (f h : Fe) : Fe := fun g => (f g).bind fun p => match truD p.1 with
  | some true => h p.2
  | some false => some p
  | none => none
def eOr (f h : Fe) : Fe := fun g => (f g).bind fun p => match truD p.1 with
  | some true => some p
  | some false => h p.2
  | none => none
def notD (d : D) : Option D := (truD d).map fun b => .bool !b
theorem de_one {a : Expr} {op} {pos : Pos} {f : Fe} (h : DE X a f) : DE X (.BoolOp op [a] pos) f := pe_one h
theorem de_and {a b : Expr} {rest : List Expr} {pos : Pos} {f h : Fe} (ha : DE X a f) (hb : DE X (.BoolOp .And (b :: rest) pos) h) : DE X (.BoolOp .And (a :: b :: rest) pos) (eAnd f h) := peMono (pe_andT ha hb) fun s H Q ⟨F, g, d, g', rp, e, k⟩ => by
  unfold eAnd at e
  cases q : f g with
  | none => rw [q] at e; cases e
  | some p =>
    rw [q] at e
    refine ⟨F, g, p.1, p.2, rp, q, fun v F1 H1 p1 r1 t1 m1 => ?_⟩
    simp only [Option.bind_some] at e
    split at e
    · rename_i q2
      refine ⟨true, truOf (dpMono r1.fh _ _ p1) q2, ?_⟩
      rw [if_pos rfl]
      exact ⟨F1, p.2, d, g', r1, e, fun v2 F2 H2 p2 r2 t2 m2 => k v2 F2 H2 p2 r2 (t1.two m1 t2) (m1.trans m2)⟩
    · rename_i q2
      cases e
      refine ⟨false, truOf (dpMono r1.fh _ _ p1) q2, ?_⟩
      rw [if_neg (by decide)]
      exact k v F1 H1 p1 r1 t1 m1
    · cases e
theorem de_or {a b : Expr} {rest : List Expr} {pos : Pos} {f h : Fe} (ha : DE X a f) (hb : DE X (.BoolOp .Or (b :: rest) pos) h) : DE X (.BoolOp .Or (a :: b :: rest) pos) (eOr f h) := peMono (pe_orT ha hb) fun s H Q ⟨F, g, d, g', rp, e, k⟩ => by
  unfold eOr at e
  cases q : f g with
  | none => rw [q] at e; cases e
  | some p =>
    rw [q] at e
    refine ⟨F, g, p.1, p.2, rp, q, fun v F1 H1 p1 r1 t1 m1 => ?_⟩
    simp only [Option.bind_some] at e
    split at e
    · rename_i q2
      cases e
      refine ⟨true, truOf (dpMono r1.fh _ _ p1) q2, ?_⟩
      rw [if_pos rfl]
      exact k v F1 H1 p1 r1 t1 m1
    · rename_i q2
      refine ⟨false, truOf (dpMono r1.fh _ _ p1) q2, ?_⟩
      rw [if_neg (by decide)]
      exact ⟨F1, p.2, d, g', r1, e, fun v2 F2 H2 p2 r2 t2 m2 => k v2 F2 H2 p2 r2 (t1.two m1 t2) (m1.trans m2)⟩
    · cases e
theorem de_not {a : Expr} {pos : Pos} {f : Fe} (ha : DB X a f) : DE X (.UnaryOp .Not a pos) (eUn notD f) := peMono (pe_notT ha) fun s H Q h => by
  obtain ⟨F, g, d, g', rp, e, k⟩ := h
  obtain ⟨d1, e1, e2⟩ := eUn_inv e
  refine ⟨F, g, d1, g', rp, e1, fun v1 F1 H1 p1 r1 t1 m1 => ?_⟩
  unfold notD at e2
  cases q : truD d1 with
  | none => rw [q] at e2; cases e2
  | some b =>
    rw [q] at e2; cases e2
    exact ⟨b, truOf (p1.dp r1.fh) q, k _ F1 H1 (.bl _) r1 t1 m1⟩
def eIf (t : Ft) (f h : Fe) : Fe := fun g => (t g).bind fun p => if p.1 = true then f p.2 else h p.2
theorem de_if {c a b : Expr} {pos : Pos} {t : Ft} {f h : Fe} (hc : DT X c t) (ha : DE X a f) (hb : DE X b h) : DE X (.IfExp c a b pos) (eIf t f h) := peMono (pe_ifExp hc ha hb) fun s H Q ⟨F, g, d, g', rp, e, k⟩ => by
  unfold eIf at e
  cases q : t g with
  | none => rw [q] at e; cases e
  | some p =>
    obtain ⟨c, g1⟩ := p
    rw [q] at e
    refine ⟨F, g, c, g1, rp, q, fun F1 H1 r1 t1 m1 => ?_⟩
    have e : (if c = true then f g1 else h g1) = some (d, g') := e
    cases c with
    | true =>
      rw [if_pos rfl] at e
      refine iteT ?_
      exact ⟨F1, g1, d, g', r1, e, fun v F2 H2 p2 r2 t2 m2 => k v F2 H2 p2 r2 (t1.two m1 t2) (m1.trans m2)⟩
    | false =>
      rw [if_neg (by decide)] at e
      refine iteF ?_
      exact ⟨F1, g1, d, g', r1, e, fun v F2 H2 p2 r2 t2 m2 => k v F2 H2 p2 r2 (t1.two m1 t2) (m1.trans m2)⟩
end Dl
set_option Elab.async false
set_option linter.all false
set_option maxRecDepth 100000
namespace Dl
open PySem PySem.Spec PyProof.Rows L2
variable {X : Cx}

/-! ### argument lists -/
def aNil : Fa := fun g => some ([], g)
def aCons (f : Fe) (fs : Fa) : Fa := fun g => (f g).bind fun p => (fs p.2).map fun q => (p.1 :: q.1, q.2)
theorem aCons_inv {f : Fe} {fs : Fa} {g g' : G} {ds : List D} (h : aCons f fs g = some (ds, g')) : ∃ d g1 es, f g = some (d, g1) ∧ fs g1 = some (es, g') ∧ ds = d :: es := by
  unfold aCons at h
  cases q : f g with
  | none => rw [q] at h; cases h
  | some p =>
    rw [q] at h
    have h : (fs p.2).map _ = some (ds, g') := h
    cases q2 : fs p.2 with
    | none => rw [q2] at h; cases h
    | some p2 =>
      rw [q2] at h; cases h
      exact ⟨p.1, p.2, p2.1, rfl, q2, rfl⟩
theorem da_nil : DA X [] aNil := paMono pa_nil fun s H Q ⟨F, g, ds, g', rp, e, k⟩ => by
  cases e
  exact k [] F H .nil rp Stp.refl Mo.refl
theorem da_cons {a : Expr} {es : List Expr} {f : Fe} {fs : Fa} (ha : DE X a f) (hr : DA X es fs) (hs : starEach (a :: es) X.env = (false, eval a X.env) :: starEach es X.env := by rfl) : DA X (a :: es) (aCons f fs) := paMono (pa_cons ha hr hs) fun s H Q ⟨F, g, ds, g', rp, e, k⟩ => by
  obtain ⟨d, g1, es', e1, e2, rfl⟩ := aCons_inv e
  exact ⟨F, g, d, g1, rp, e1, fun v F1 H1 p1 r1 t1 m1 => ⟨F1, g1, es', g', r1, e2, fun vs F2 H2 p2 r2 t2 m2 => k (v :: vs) F2 H2 (.cons (dpMono t2.fs _ _ p1) p2) r2 (t1.two m1 t2) (m1.trans m2)⟩⟩
def LenA (f : Fa) (n : Nat) : Prop := ∀ g ds g', f g = some (ds, g') → ds.length = n
theorem lenNil : LenA aNil 0 := fun g ds g' e => by cases e; rfl
theorem lenCons {f : Fe} {fs : Fa} {n : Nat} (h : LenA fs n) : LenA (aCons f fs) (n + 1) := fun g ds g' e => by
  obtain ⟨d, g1, es', e1, e2, rfl⟩ := aCons_inv e
  simp [h _ _ _ e2]

/-! ### displays -/
def eTup (f : Fa) : Fe := fun g => (f g).map fun p => (.tuple p.1, p.2)
theorem eTup_inv {f : Fa} {g g' : G} {d : D} (h : eTup f g = some (d, g')) : ∃ ds, f g = some (ds, g') ∧ d = .tuple ds := by
  unfold eTup at h
  cases q : f g with
  | none => rw [q] at h; cases h
  | some p => rw [q] at h; cases h; exact ⟨_, rfl, rfl⟩
theorem sl1000 {n : Nat} (h : n ≤ 1000) : n ≤ sizeLine := Nat.le_of_lt (small1000 h)
theorem dpUpd {K : PySem.W.Frag} {F : Hp} {p : Addr} {o : HO} {vs : List V} {ds : List D} (hp : DpAll K F vs ds) (np : F p = none) : DpAll K (upd F p o) vs ds := dpMonos (fun b u e => by rw [upd_ne (ne_of_none e np)]; exact e) _ _ hp
theorem nF {F H : Hp} {p : Addr} (fh : Same F H) (np : H p = none) : F p = none := fh.free np
/-- a new tuple -/
theorem newTup {K : PySem.W.Frag} {F H : Hp} {vs : List V} {ds : List D} {Q : VK} (fh : Same F H) (hp : DpAll K F vs ds) (k : ∀ v F' H', Dp K F' v (.tuple ds) → Same F' H' → Stp Non F H F' H' → Q v H') : ∀ p, H p = none → Q (.ref p) (upd H p (.tup vs)) := fun p np =>
  k (.ref p) (upd F p (.tup vs)) _ (.tup (SqT.of upd_same) (dpUpd hp (nF fh np))) (sameLaid fh np) (Stp.laid np fh)
theorem de_tup {es : List Expr} {k : Nat} {pos : Pos} {f : Fa} {n : Nat} (h : DA X es f) (hl : LenA f n) (hn : n ≤ 1000 := by decide) : DE X (.Tuple es k pos) (eTup f) := peMono (pe_tup h) fun s H Q ⟨F, g, d, g', rp, e, k⟩ => by
  obtain ⟨ds, e1, rfl⟩ := eTup_inv e
  refine ⟨F, g, ds, g', rp, e1, fun vs F1 H1 p1 r1 t1 m1 => ⟨by rw [dpLen p1, hl _ _ _ e1]; exact sl1000 hn, ?_⟩⟩
  exact newTup r1.fh p1 fun v F' H' hv fh st => k v F' H' hv (r1.stepN st fh) (t1.andN st) m1
/-- a list of the frame's own -/
def vLst (f : Fa) : Fv := fun g => (f g).map fun p => (.own none p.1, p.2)
theorem vLst_inv {f : Fa} {g g' : G} {x : Sl} (h : vLst f g = some (x, g')) : ∃ ds, f g = some (ds, g') ∧ x = .own none ds := by
  unfold vLst at h
  cases q : f g with
  | none => rw [q] at h; cases h
  | some p => rw [q] at h; cases h; exact ⟨_, rfl, rfl⟩
/-- a new list: k is what tV asks -/
theorem newLst {K : PySem.W.Frag} {F H F0 H0 : Hp} {g0 g : G} {s : Sg} {vs : List V} {ds : List D} {Q : VK} (r : Rep K F g s H) (hp : DpAll K F vs ds) (t0 : Stp (OwnAt g0 s) F0 H0 F H) (m : Mo g0 g)
    (k : ∀ v F' H', RepS K F' H' (.own none ds) (some v) → (∀ t es, (Sl.own none ds) = .own t es → t = none ∧ ∃ a, v = .ref a ∧ H0 a = none) → Rep K F' g s H' → Stp (OwnAt g0 s) F0 H0 F' H' → Mo g0 g → Q v H') : ∀ p, H p = none → Q (.ref p) (upd H p (.lst vs)) := fun p np => by
  refine k (.ref p) F _ ⟨p, vs, rfl, nF r.fh np, upd_same, hp, fun b e => nomatch e⟩ (fun t es e => ?_) (r.stepN (Stp.made np) (sameMade r.fh np)) (t0.andN (Stp.made np)) m
  cases e
  refine ⟨rfl, p, rfl, ?_⟩
  cases q : H0 p with
  | none => rfl
  | some o => exact absurd np (t0.dom p (by rw [q]; simp))
theorem dv_lst {es : List Expr} {pos : Pos} {f : Fa} {n : Nat} (h : DA X es f) (hl : LenA f n) (hn : n ≤ 1000 := by decide) : DV X (.List es pos) (vLst f) := peMono (pe_lst h) fun s H Q ⟨F, g, d, g', rp, e, k⟩ => by
  obtain ⟨ds, e1, rfl⟩ := vLst_inv e
  refine ⟨F, g, ds, g', rp, e1, fun vs F1 H1 p1 r1 t1 m1 => ⟨by rw [dpLen p1, hl _ _ _ e1]; exact sl1000 hn, ?_⟩⟩
  exact newLst r1 p1 t1 m1 k

/-! ### places -/
def atD : D → D → Option D
  | .list ds, .int i => atI ds i
  | .tuple ds, .int i => atI ds i
  | .str x, .int i => if x.length ≤ sizeLine then (atI x.cps.toList i).map fun c => .str ⟨#[c]⟩ else none
  | _, _ => none
theorem atIV {K : PySem.W.Frag} {H : Hp} {vs : List V} {ds : List D} {i : Int} {d : D} (hp : DpAll K H vs ds) (h : atI ds i = some d) : ∃ v, atI vs i = some v ∧ Dp K H v d := by
  unfold atI at h ⊢
  rw [dpLen hp]
  cases q : ixN ds.length i with
  | none => rw [q] at h; cases h
  | some j =>
    rw [q] at h
    exact dpAt hp h
theorem ok_at : BinOk X.K (rIx X.K) atD := fun x y d1 d2 d F H Q fh p1 p2 e k => by
  unfold atD at e
  split at e
  · rename_i ds i
    cases p1 with
    | lst hs ha =>
      obtain ⟨v, q, hv⟩ := atIV ha e
      exact .inl ⟨_, _, i, v, rfl, intOf p2, fh.seq hs, q, fin0 fh hv k⟩
  · rename_i ds i
    cases p1 with
    | tup hs ha =>
      obtain ⟨v, q, hv⟩ := atIV ha e
      exact .inr (.inl ⟨_, _, i, v, rfl, intOf p2, Same.tupS fh hs, q, fin0 fh hv k⟩)
  · rename_i z i
    split at e
    · rename_i hz
      cases q : atI z.cps.toList i with
      | none => rw [q] at e; cases e
      | some c =>
        rw [q] at e; cases e
        cases p1
        exact .inr (.inr ⟨z, i, c, rfl, intOf p2, hz, q, fin0 fh (.str _) k⟩)
    · cases e
  · cases e
theorem de_ix {a b : Expr} {pos : Pos} {fa fb : Fe} (ha : DE X a fa) (hb : DE X b fb) (hs : PlainIx b := by exact fun _ _ => rfl) : DE X (.Subscript a b pos) (eBin atD fa fb) := peMono (pe_ix ix_seq ha hb hs) fun _ _ _ h => tD_bin ok_at h
/-- of a name: its list is not frozen -/
def slD : Option Sl → Option D
  | some (.v d) => some d
  | some (.own _ ds) => some (.list ds)
  | _ => none
def eIxV (i : Nat) (fb : Fe) : Fe := fun g => (slD (g[i]?)).bind fun _ => (fb g).bind fun q => (slD (q.2[i]?)).bind fun b => (atD b q.1).map fun d => (d, q.2)
theorem slGet {K : PySem.W.Frag} {F H : Hp} {g : G} {s : Sg} {i : Nat} {d : D} (r : Rep K F g s H) (h : slD g[i]? = some d) : ∃ x v, g[i]? = some x ∧ s[i]? = some (some v) ∧ RepS K F H x (some v) := by
  cases z : g[i]? with
  | none => rw [z] at h; cases h
  | some x =>
    rw [z] at h
    obtain ⟨o, ho, hx⟩ := r.get z
    cases x with
    | no => cases h
    | v d0 =>
      obtain ⟨y, rfl, hy⟩ := hx
      exact ⟨_, y, rfl, ho, y, rfl, hy⟩
    | own tg ds =>
      obtain ⟨a, xs, rfl, q⟩ := hx
      exact ⟨_, .ref a, rfl, ho, a, xs, rfl, q⟩
theorem eIxV_inv {i : Nat} {fb : Fe} {g g' : G} {d : D} (h : eIxV i fb g = some (d, g')) : ∃ d0 d1 b, slD g[i]? = some d0 ∧ fb g = some (d1, g') ∧ slD g'[i]? = some b ∧ atD b d1 = some d := by
  unfold eIxV at h
  cases q0 : slD g[i]? with
  | none => rw [q0] at h; cases h
  | some d0 =>
    rw [q0] at h
    have h : (fb g).bind _ = some (d, g') := h
    cases q : fb g with
    | none => rw [q] at h; cases h
    | some p =>
      obtain ⟨d1, g1⟩ := p
      rw [q] at h
      have h : (slD g1[i]?).bind _ = some (d, g') := h
      cases q2 : slD g1[i]? with
      | none => rw [q2] at h; cases h
      | some b0 =>
        rw [q2] at h
        have h : (atD b0 d1).map _ = some (d, g') := h
        cases q3 : atD b0 d1 with
        | none => rw [q3] at h; cases h
        | some d3 =>
          rw [q3] at h; cases h
          exact ⟨d0, d1, b0, rfl, rfl, q2, q3⟩
theorem de_ixV (i : Nat) {b : Expr} {pos pos' : Pos} {x : Str} {fb : Fe} (hb : DE X b fb) (hN : X.N[i]? = some x := by rfl) (hv : Vis X.env.scope x := by first | exact Or.inl rfl | exact Or.inr (Or.inl rfl) | exact Or.inr (Or.inr rfl)) (hd : (x == ("__debug__" : Str)) = false := by decide)
    (hcd : (x == ("__classdict__" : Str)) = false := by decide) (hs : PlainIx b := by exact fun _ _ => rfl) : DE X (.Subscript (.Name x pos') b pos) (eIxV i fb) := peMono (pe_ix ix_seq (pe_var hN hv hd hcd) hb hs) fun s H Q ⟨F, g, d, g', rp, e, k⟩ => by
  obtain ⟨d0, d1, b0, q0, q1, q2, q3⟩ := eIxV_inv e
  obtain ⟨_, v, _, hv, _⟩ := slGet rp q0
  refine ⟨v, hv, F, g, d1, g', rp, q1, fun v1 F1 H1 p1 r1 t1 m1 => ?_⟩
  obtain ⟨x0, v0, hx0, hv0, hx⟩ := slGet r1 q2
  rw [hv] at hv0; cases hv0
  rw [hx0] at q2
  cases x0 with
  | no => cases q2
  | v d0 =>
    cases q2
    obtain ⟨y, ey, hy⟩ := hx
    cases ey
    exact ok_at v v1 _ d1 d F1 H1 Q r1.fh hy p1 q3 fun v F3 H3 p3 fh t3 => k v F3 H3 p3 (r1.stepN t3 fh) (t1.andN t3) m1
  | own tg ds =>
    cases q2
    obtain ⟨a, xs, ey, fa, ha, hy, _⟩ := hx
    cases ey
    cases p1 with
    | int j =>
      obtain ⟨w, qw, hw⟩ := atIV hy (show atI ds j = some d from q3)
      exact .inl ⟨a, xs, j, w, rfl, rfl, SqL.of ha, qw, k w F1 H1 hw r1 t1 m1⟩
    | _ => cases q3

/-! ### slices -/
abbrev Fo := G → Option (Option Int × G)
def tO (K : PySem.W.Frag) (f : Fo) : TO := fun s H Q => ∃ F g b g', Rep K F g s H ∧ f g = some (b, g') ∧
  ∀ F' H', Rep K F' g' s H' → Stp (OwnAt g s) F H F' H' → Mo g g' → Q b H'
def DO (X : Cx) (e : Option Expr) (f : Fo) : Prop := PO X e (tO X.K f)
def oNone : Fo := fun g => some (none, g)
def oSome (f : Fe) : Fo := fun g => match f g with
  | some (.int i, g') => some (some i, g')
  | _ => none
theorem poMono {e : Option Expr} {t t' : TO} (h : PO X e t) (m : ∀ s H Q, t' s H Q → t s H Q) : PO X e t' := ⟨fun pins st s H Q I w => h.run pins st s H Q I (m s H Q w)⟩
theorem do_none : DO X none oNone := poMono po_none fun s H Q ⟨F, g, d, g', rp, e, k⟩ => by
  cases e
  exact k F H rp Stp.refl Mo.refl
theorem do_some {a : Expr} {f : Fe} (h : DE X a f) : DO X (some a) (oSome f) := poMono (po_some h) fun s H Q ⟨F, g, d, g', rp, e, k⟩ => by
  unfold oSome at e
  split at e
  · rename_i i g1 q
    cases e
    exact ⟨F, g, _, _, rp, q, fun v F1 H1 p1 r1 t1 m1 => ⟨i, intOf p1, k F1 H1 r1 t1 m1⟩⟩
  · cases e
/-- the items of xs[lo:hi] -/
def cutL {α : Type} (xs : List α) (lo hi : Option Int) : List α := (xs.drop (HT.sIx xs.length 0 lo)).take (HT.sIx xs.length xs.length hi - HT.sIx xs.length 0 lo)
theorem dpCut {K : PySem.W.Frag} {H : Hp} {vs : List V} {ds : List D} {lo hi : Option Int} (h : DpAll K H vs ds) : DpAll K H (cutV vs lo hi) (cutL ds lo hi) := by
  unfold cutV cutL
  rw [dpLen h]
  exact dpTake _ (dpDrop _ h)
def eSl (fa : Fe) (fl fh : Fo) : Fe := fun g => (fa g).bind fun p => (fl p.2).bind fun l => (fh l.2).bind fun h => match p.1 with
  | .tuple ds => some (.tuple (cutL ds l.1 h.1), h.2)
  | _ => none
theorem cut_whole {α : Type} {xs : List α} {lo hi : Option Int} (h1 : HT.sIx xs.length 0 lo = 0) (h2 : HT.sIx xs.length xs.length hi = xs.length) : cutL xs lo hi = xs := by
  unfold cutL
  rw [h1, h2]
  simp
theorem de_slT {a : Expr} {lo hi : Option Expr} {p2 pos : Pos} {fa : Fe} {fl fh : Fo} (ha : DE X a fa) (hl : DO X lo fl) (hu : DO X hi fh) : DE X (.Subscript a (.Slice lo hi none p2) pos) (eSl fa fl fh) := peMono (pe_slice sl_tupA ha hl hu) fun s H Q ⟨F, g, d, g', rp, e, k⟩ => by
  unfold eSl at e
  cases q : fa g with
  | none => rw [q] at e; cases e
  | some p =>
    rw [q] at e
    have e : (fl p.2).bind _ = some (d, g') := e
    cases q2 : fl p.2 with
    | none => rw [q2] at e; cases e
    | some l =>
      rw [q2] at e
      have e : (fh l.2).bind _ = some (d, g') := e
      cases q3 : fh l.2 with
      | none => rw [q3] at e; cases e
      | some h =>
        rw [q3] at e
        obtain ⟨d1, g1⟩ := p
        obtain ⟨l, g2⟩ := l
        obtain ⟨h, g3⟩ := h
        cases d1 with
        | tuple ds =>
          cases e
          refine ⟨F, g, _, g1, rp, q, fun v F1 H1 p1 r1 t1 m1 => ⟨F1, g1, l, g2, r1, q2, fun F2 H2 r2 t2 m2 => ⟨F2, g2, h, g3, r2, q3, fun F3 H3 r3 t3 m3 => ?_⟩⟩⟩
          have p3 := dpMono (t2.fs.trans t3.fs) _ _ p1
          have tt := (t1.two m1 t2).two (m1.trans m2) t3
          have mm := (m1.trans m2).trans m3
          cases p3 with
          | tup hs hp =>
            refine ⟨_, _, rfl, Same.tupS r3.fh hs, fun hw => ?_, fun _ => newTup r3.fh (dpCut hp) fun v F' H' hv fh st => k v F' H' hv (r3.stepN st fh) (tt.andN st) mm⟩
            rw [dpLen hp] at hw
            exact k _ F3 H3 (.tup hs (by rw [cut_whole hw.1 hw.2]; exact hp)) r3 tt mm
        | _ => cases e
def vSl (fa : Fe) (fl fh : Fo) : Fv := fun g => (fa g).bind fun p => (fl p.2).bind fun l => (fh l.2).bind fun h => match p.1 with
  | .list ds => some (.own none (cutL ds l.1 h.1), h.2)
  | _ => none
theorem dv_slL {a : Expr} {lo hi : Option Expr} {p2 pos : Pos} {fa : Fe} {fl fh : Fo} (ha : DE X a fa) (hl : DO X lo fl) (hu : DO X hi fh) : DV X (.Subscript a (.Slice lo hi none p2) pos) (vSl fa fl fh) := peMono (pe_slice sl_list ha hl hu) fun s H Q ⟨F, g, d, g', rp, e, k⟩ => by
  unfold vSl at e
  cases q : fa g with
  | none => rw [q] at e; cases e
  | some p =>
    rw [q] at e
    have e : (fl p.2).bind _ = some (d, g') := e
    cases q2 : fl p.2 with
    | none => rw [q2] at e; cases e
    | some l =>
      rw [q2] at e
      have e : (fh l.2).bind _ = some (d, g') := e
      cases q3 : fh l.2 with
      | none => rw [q3] at e; cases e
      | some h =>
        rw [q3] at e
        obtain ⟨d1, g1⟩ := p
        obtain ⟨l, g2⟩ := l
        obtain ⟨h, g3⟩ := h
        cases d1 with
        | list ds =>
          cases e
          refine ⟨F, g, _, g1, rp, q, fun v F1 H1 p1 r1 t1 m1 => ⟨F1, g1, l, g2, r1, q2, fun F2 H2 r2 t2 m2 => ⟨F2, g2, h, g3, r2, q3, fun F3 H3 r3 t3 m3 => ?_⟩⟩⟩
          have p3 := dpMono (t2.fs.trans t3.fs) _ _ p1
          have tt := (t1.two m1 t2).two (m1.trans m2) t3
          have mm := (m1.trans m2).trans m3
          cases p3 with
          | lst hs hp => exact ⟨_, _, rfl, r3.fh.seq hs, newLst r3 (dpCut hp) tt mm k⟩
        | _ => cases e

/-! ### + and * of sequences -/
def catTD : D → D → Option D
  | .tuple xs, .tuple ys => if xs.length + ys.length ≤ 1000000 then some (.tuple (xs ++ ys)) else none
  | _, _ => none
theorem million : (1000000 : Nat) ≤ sizeLine := by rw [sizeLine_eq]; decide
theorem dpNil {K : PySem.W.Frag} {F : Hp} {xs : List V} {ds : List D} (h : DpAll K F xs ds) (e : xs = []) : ds = [] := by
  subst e; cases h; rfl
theorem ok_catT : BinOk X.K (rCatA X.K) catTD := fun x y d1 d2 d F H Q fh p1 p2 e k => by
  unfold catTD at e
  split at e
  · rename_i xs ys
    split at e
    · rename_i hz
      cases e
      cases p1 with
      | tup hs ha =>
        cases p2 with
        | tup hs2 hb =>
          refine ⟨_, _, _, _, rfl, rfl, Same.tupS fh hs, Same.tupS fh hs2, by rw [dpLen ha, dpLen hb]; exact Nat.le_trans hz million, fun z => ?_, fun _ z => ?_, fun _ _ => newTup fh (dpApp ha hb) k⟩
          · have z1 := dpNil ha z
            subst z1
            exact k _ F H (.tup hs2 hb) fh Stp.refl
          · have z1 := dpNil hb z
            subst z1
            rw [List.append_nil] at k
            exact k _ F H (.tup hs ha) fh Stp.refl
    · cases e
  · cases e
theorem de_catT {a b : Expr} {pos : Pos} {fa fb : Fe} (ha : DE X a fa) (hb : DE X b fb) : DE X (.BinOp a .Add b pos) (eBin catTD fa fb) := de_op op_catA ok_catT ha hb
def catSD : D → D → Option D
  | .str xs, .str ys => if xs.length + ys.length ≤ sizeLine then some (.str (xs ++ ys)) else none
  | _, _ => none
theorem ok_catS : BinOk X.K (fun x y H Q => ∃ i j, x = .str i ∧ y = .str j ∧ i.length + j.length ≤ sizeLine ∧ Q (.str (i ++ j)) H) catSD := fun x y d1 d2 d F H Q fh p1 p2 e k => by
  unfold catSD at e
  split at e
  · rename_i xs ys
    split at e
    · rename_i hz
      cases e
      cases p1; cases p2
      exact ⟨_, _, rfl, rfl, hz, fin0 fh (.str _) k⟩
    · cases e
  · cases e
theorem de_catS {a b : Expr} {pos : Pos} {fa fb : Fe} (ha : DE X a fa) (hb : DE X b fb) : DE X (.BinOp a .Add b pos) (eBin catSD fa fb) := de_op op_add_str ok_catS ha hb
/-- two new lists one behind the other -/
def vCat (fa fb : Fv) : Fv := fun g => (fa g).bind fun p => (fb p.2).bind fun q => match p.1, q.1 with
  | .own none xs, .own none ys => if xs.length + ys.length ≤ 1000000 then some (.own none (xs ++ ys), q.2) else none
  | _, _ => none
theorem dv_cat {a b : Expr} {pos : Pos} {fa fb : Fv} (ha : DV X a fa) (hb : DV X b fb) : DV X (.BinOp a .Add b pos) (vCat fa fb) := peMono (pe_op op_cat ha hb) fun s H Q ⟨F, g, d, g', rp, e, k⟩ => by
  unfold vCat at e
  cases q : fa g with
  | none => rw [q] at e; cases e
  | some p =>
    rw [q] at e
    have e : (fb p.2).bind _ = some (d, g') := e
    cases q2 : fb p.2 with
    | none => rw [q2] at e; cases e
    | some l =>
      rw [q2] at e
      obtain ⟨d1, g1⟩ := p
      obtain ⟨d2, g2⟩ := l
      simp only [Option.bind_some] at e
      split at e
      · rename_i xs ys
        split at e
        · rename_i hz
          cases e
          refine ⟨F, g, _, g1, rp, q, fun v F1 H1 p1 n1 r1 t1 m1 => ⟨F1, g1, _, _, r1, q2, fun v2 F2 H2 p2 n2 r2 t2 m2 => ?_⟩⟩
          obtain ⟨a1, vs1, e1, f1, h1, dp1, _⟩ := p1
          obtain ⟨a2, vs2, e2, f2, h2, dp2, _⟩ := p2
          cases e1; cases e2
          obtain ⟨_, _, ea, na⟩ := n1 _ _ rfl
          cases ea
          have h1' : H2 a1 = some (.lst vs1) := t2.keep _ _ h1 fun z => by
            obtain ⟨i, tg, es, w1, w2⟩ := m1.own z
            obtain ⟨o, ho, a3, ys3, eo, _, ha3, _⟩ := rp.get w1
            rw [w2] at ho; cases ho; cases eo
            rw [na] at ha3; cases ha3
          exact ⟨a1, a2, vs1, vs2, rfl, rfl, h1', h2, by rw [dpLen dp1, dpLen dp2]; exact Nat.le_trans hz million, newLst r2 (dpApp (dpMonos t2.fs _ _ dp1) dp2) (t1.two m1 t2) (m1.trans m2) k⟩
        · cases e
      · cases e
theorem dpRep {K : PySem.W.Frag} {H : Hp} {vs : List V} {ds : List D} (h : DpAll K H vs ds) : ∀ n : Nat, DpAll K H (List.replicate n vs).flatten (List.replicate n ds).flatten
  | 0 => .nil
  | n + 1 => by
    rw [List.replicate_succ, List.replicate_succ, List.flatten_cons, List.flatten_cons]
    exact dpApp h (dpRep h n)
/-- [..] * n -/
def vRep (fa : Fv) (fb : Fe) : Fv := fun g => (fa g).bind fun p => (fb p.2).bind fun q => match p.1, q.1 with
  | .own none xs, .int k => if -1000000 ≤ k ∧ k ≤ 1000000 ∧ xs.length * k.toNat ≤ 1000000 then some (.own none (List.replicate k.toNat xs).flatten, q.2) else none
  | _, _ => none
theorem dv_rep {a b : Expr} {pos : Pos} {fa : Fv} {fb : Fe} (ha : DV X a fa) (hb : DE X b fb) : DV X (.BinOp a .Mult b pos) (vRep fa fb) := peMono (pe_op op_rep ha hb) fun s H Q ⟨F, g, d, g', rp, e, k⟩ => by
  unfold vRep at e
  cases q : fa g with
  | none => rw [q] at e; cases e
  | some p =>
    rw [q] at e
    have e : (fb p.2).bind _ = some (d, g') := e
    cases q2 : fb p.2 with
    | none => rw [q2] at e; cases e
    | some l =>
      rw [q2] at e
      obtain ⟨d1, g1⟩ := p
      obtain ⟨d2, g2⟩ := l
      simp only [Option.bind_some] at e
      split at e
      · rename_i xs n
        split at e
        · rename_i hz
          cases e
          refine ⟨F, g, _, g1, rp, q, fun v F1 H1 p1 n1 r1 t1 m1 => ⟨F1, g1, _, _, r1, q2, fun v2 F2 H2 p2 r2 t2 m2 => ?_⟩⟩
          obtain ⟨a1, vs1, e1, f1, h1, dp1, _⟩ := p1
          cases e1
          obtain ⟨_, _, ea, na⟩ := n1 _ _ rfl
          cases ea
          have h1' : H2 a1 = some (.lst vs1) := t2.keep _ _ h1 fun z => by
            obtain ⟨i, tg, es, w1, w2⟩ := m1.own z
            obtain ⟨o, ho, a3, ys3, eo, _, ha3, _⟩ := rp.get w1
            rw [w2] at ho; cases ho; cases eo
            rw [na] at ha3; cases ha3
          exact ⟨a1, _, vs1, rfl, intOf p2, h1', by omega, by omega, by rw [dpLen dp1]; exact Nat.le_trans hz.2.2 million, newLst r2 (dpRep (dpMonos t2.fs _ _ dp1) _) (t1.two m1 t2) (m1.trans m2) k⟩
        · cases e
      · cases e
end Dl
set_option Elab.async false
set_option linter.all false
set_option maxRecDepth 100000
namespace Dl
open PySem PySem.Spec PyProof.Rows L2
variable {X : Cx}

/-! ### from one state to a later one -/
structure Tr (K : PySem.W.Frag) (F : Hp) (g : G) (s : Sg) (H : Hp) (F' : Hp) (g' : G) (s' : Sg) (H' : Hp) : Prop where
  rep : Rep K F' g' s' H'
  stp : Stp (OwnAt g s) F H F' H'
  own : ∀ b, OwnAt g' s' b → OwnAt g s b ∨ H b = none
section
variable {K : PySem.W.Frag} {F H F1 H1 F2 H2 F3 H3 : Hp} {g g1 g2 g3 : G} {s s1 s2 s3 : Sg}
theorem Tr.refl (r : Rep K F g s H) : Tr K F g s H F g s H := ⟨r, Stp.refl, fun _ h => .inl h⟩
theorem Tr.of (r : Rep K F1 g1 s H1) (t : Stp (OwnAt g s) F H F1 H1) (m : Mo g g1) : Tr K F g s H F1 g1 s H1 := ⟨r, t, fun _ h => .inl (m.own h)⟩
theorem Tr.trans (a : Tr K F g s H F1 g1 s1 H1) (b : Tr K F1 g1 s1 H1 F2 g2 s2 H2) : Tr K F g s H F2 g2 s2 H2 := ⟨b.rep, a.stp.trans b.stp a.own, fun x h => by
  rcases b.own x h with q | q
  · exact a.own x q
  · right
    cases z : H x with
    | none => rfl
    | some o => exact absurd q (a.stp.dom x (by rw [z]; simp))⟩
theorem Tr.free (a : Tr K F g s H F1 g1 s1 H1) {b : Addr} (h : H1 b = none) : H b = none := by
  cases z : H b with
  | none => rfl
  | some o => exact absurd h (a.stp.dom b (by rw [z]; simp))
theorem Rep.ownSome (r : Rep K F g s H) {b : Addr} (h : OwnAt g s b) : ∃ xs, H b = some (.lst xs) ∧ F b = none := by
  obtain ⟨i, t, ds, e, q⟩ := h
  obtain ⟨o, ho, a, xs, eo, fa, ha, _⟩ := r.get e
  rw [q] at ho; cases ho; cases eo
  exact ⟨xs, ha, fa⟩
/-- a slot is set to data -/
theorem Rep.setV (r : Rep K F g s H) (i : Nat) {v : V} {d : D} (h : Dp K F v d) : Tr K F g s H F (g.set i (.v d)) (s.set i (some v)) H :=
  ⟨r.put i _ _ ⟨v, rfl, h⟩ (fun _ _ _ e => nomatch e), Stp.refl, fun b hb => by
    rcases ownIn hb r.len with q | ⟨_, _, e, _⟩
    · exact .inl q
    · cases e⟩
/-- a slot is set to a new list -/
theorem Rep.setO (r : Rep K F g s H) (i : Nat) {a : Addr} {xs : List V} {ds : List D} (fa : F a = none) (ha : H a = some (.lst xs)) (h : DpAll K F xs ds) (n : ¬ OwnAt g s a) : Rep K F (g.set i (.own none ds)) (s.set i (some (.ref a))) H :=
  r.put i _ _ ⟨a, xs, rfl, fa, ha, h, fun b e => nomatch e⟩ (fun _ _ b _ e => by cases e; exact n)
/-- a list of the frame's own is changed -/
theorem Rep.turn (r : Rep K F g s H) {i : Nat} {t : Option Addr} {ds es : List D} {a : Addr} {ys : List V} (hg : g[i]? = some (.own t ds)) (hs : s[i]? = some (some (.ref a))) (h : DpAll K F ys es) :
    Tr K F g s H F (g.set i (.own t es)) s (upd H a (.lst ys)) := by
  obtain ⟨o, ho, a', xs, eo, fa, ha, hp, ht⟩ := r.get hg
  rw [hs] at ho; cases ho; cases eo
  have hi : i < g.length := (List.getElem?_eq_some_iff.mp hg).1
  have fh : Same F (upd H a (.lst ys)) := fun b u e => by
    rw [upd_ne (ne_of_none e fa)]; exact r.fh b u e
  have t1 : Stp (fun b => b = a) F H F (upd H a (.lst ys)) := ⟨.refl _, fun b o e n => by rw [upd_ne n]; exact e, fun b e e' => absurd e e', fun b e => by
    by_cases z : b = a
    · rw [z, upd_same]; simp
    · rw [upd_ne z]; exact e⟩
  have r0 : Rep K F (g.set i .no) s H := by
    have := r.put i .no (some (.ref a)) trivial (fun _ _ _ e => nomatch e)
    rwa [setSelf hs] at this
  have n0 : ¬ OwnAt (g.set i .no) s a := fun ⟨j, tg, es, e1, e2⟩ => by
    by_cases z : i = j
    · subst z; rw [List.getElem?_set_self hi] at e1; cases e1
    · rw [List.getElem?_set_ne z] at e1
      exact z (r.uq i j a t tg ds es hg e1 hs e2)
  have r1 : Rep K F (g.set i .no) s (upd H a (.lst ys)) := r0.step t1 (fun b hb z => n0 (by rw [← z]; exact hb)) fh
  have r2 : Rep K F (g.set i (.own t es)) s (upd H a (.lst ys)) := by
    have := r1.put i (.own t es) (some (.ref a)) ⟨a, ys, rfl, fa, upd_same, h, ht⟩ (fun _ _ b _ e => by cases e; exact n0)
    rwa [setSelf hs, List.set_set] at this
  refine ⟨r2, t1.weak fun b z => by rw [z]; exact ⟨i, t, ds, hg, hs⟩, fun b hb => .inl ?_⟩
  have e := setSelf hs
  rw [← e] at hb
  rcases ownIn hb r.len with q | ⟨_, _, _, e2⟩
  · exact q
  · cases e2; exact ⟨i, t, ds, hg, hs⟩
end

/-! ### statements -/
inductive Out where
  | nx (g : G) | bk (g : G) | ct (g : G) | ret (x : Sl) (g : G)
abbrev Fs := G → Option Out
/-- what is known of a value that a def hands back -/
def RetOk (H : Hp) (g : G) (s : Sg) (g' : G) (s' : Sg) (x : Sl) (v : V) : Prop := ∀ t ds, x = .own t ds → t = none ∧ ∃ a, v = .ref a ∧ (H a = none ∨ OwnAt g s a) ∧ ¬ OwnAt g' s' a
def endS (K : PySem.W.Frag) (F : Hp) (g : G) (s : Sg) (H : Hp) (D : Ends) : Out → Prop
  | .nx g' => ∀ F' s' H', Tr K F g s H F' g' s' H' → D.nx s' H'
  | .bk g' => ∀ F' s' H', Tr K F g s H F' g' s' H' → D.bk s' H'
  | .ct g' => ∀ F' s' H', Tr K F g s H F' g' s' H' → D.ct s' H'
  | .ret x g' => ∀ v F' s' H', RepS K F' H' x (some v) → x ≠ .no → RetOk H g s g' s' x v → Tr K F g s H F' g' s' H' → D.rt v H'
def tS (K : PySem.W.Frag) (f : Fs) : TS := fun D s H => ∃ F g o, Rep K F g s H ∧ f g = some o ∧ endS K F g s H D o
def DS (X : Cx) (st : Stmt) (f : Fs) : Prop := PS X st (tS X.K f)
def DSs (X : Cx) (st : List Stmt) (f : Fs) : Prop := PSs X st (tS X.K f)
theorem RetOk.back {K : PySem.W.Frag} {F H F1 H1 : Hp} {g g1 g2 : G} {s s1 s2 : Sg} {x : Sl} {v : V} (h : RetOk H1 g1 s1 g2 s2 x v) (t : Tr K F g s H F1 g1 s1 H1) : RetOk H g s g2 s2 x v := fun tg ds e => by
  obtain ⟨e1, a, e2, q, n⟩ := h tg ds e
  refine ⟨e1, a, e2, ?_, n⟩
  rcases q with q | q
  · exact .inl (t.free q)
  · exact (t.own a q).symm.imp id id
/-- an end seen from an earlier state -/
theorem endS.back {K : PySem.W.Frag} {F H F1 H1 : Hp} {g g1 : G} {s s1 : Sg} {D : Ends} {o : Out} (t : Tr K F g s H F1 g1 s1 H1) (h : endS K F g s H D o) : endS K F1 g1 s1 H1 D o := by
  cases o with
  | nx g' => exact fun F' s' H' t' => h F' s' H' (t.trans t')
  | bk g' => exact fun F' s' H' t' => h F' s' H' (t.trans t')
  | ct g' => exact fun F' s' H' t' => h F' s' H' (t.trans t')
  | ret x g' => exact fun v F' s' H' a n b t' => h v F' s' H' a n (b.back t) (t.trans t')

def sNil : Fs := fun g => some (.nx g)
def sSeq (f h : Fs) : Fs := fun g => (f g).bind fun o => match o with
  | .nx g1 => h g1
  | o => some o
theorem dss_nil : DSs X [] sNil := pssMono pss_nil fun D s H ⟨F, g, o, r, e, k⟩ => by
  cases e
  exact k F s H (Tr.refl r)
theorem dss_cons {st : Stmt} {rest : List Stmt} {f h : Fs} (h1 : DS X st f) (h2 : DSs X rest h) : DSs X (st :: rest) (sSeq f h) := pssMono (pss_cons h1 h2) fun D s H ⟨F, g, o, r, e, k⟩ => by
  unfold sSeq at e
  cases q : f g with
  | none => rw [q] at e; cases e
  | some o1 =>
    rw [q] at e
    refine ⟨F, g, o1, r, q, ?_⟩
    cases o1 with
    | nx g1 => exact fun F1 s1 H1 t1 => ⟨F1, g1, o, t1.rep, e, k.back t1⟩
    | bk g1 => cases e; exact k
    | ct g1 => cases e; exact k
    | ret x g1 => cases e; exact k
theorem dss_one {st : Stmt} {f : Fs} (h : DS X st f) : DSs X [st] f := pss_one h
/-- code that is never come to -/
def sNo : Fs := fun _ => none
theorem ds_no {st : Stmt} : DS X st sNo := psMono ps_never fun D s H ⟨F, g, o, r, e, k⟩ => nomatch e
theorem dss_no {st : List Stmt} : DSs X st sNo := pssMono pss_never fun D s H ⟨F, g, o, r, e, k⟩ => nomatch e
theorem ds_pass {pos : Pos} : DS X (.Pass pos) sNil := psMono ps_pass fun D s H ⟨F, g, o, r, e, k⟩ => by
  cases e
  exact k F s H (Tr.refl r)
def sBk : Fs := fun g => some (.bk g)
def sCt : Fs := fun g => some (.ct g)
theorem ds_break {pos : Pos} : DS X (.Break pos) sBk := psMono ps_break fun D s H ⟨F, g, o, r, e, k⟩ => by
  cases e
  exact k F s H (Tr.refl r)
theorem ds_continue {pos : Pos} : DS X (.Continue pos) sCt := psMono ps_continue fun D s H ⟨F, g, o, r, e, k⟩ => by
  cases e
  exact k F s H (Tr.refl r)
def sIf (t : Ft) (f h : Fs) : Fs := fun g => (t g).bind fun p => if p.1 = true then f p.2 else h p.2
theorem ds_if {c : Expr} {a b : List Stmt} {pos : Pos} {t : Ft} {f h : Fs} (hc : DT X c t) (ha : DSs X a f) (hb : DSs X b h) : DS X (.If c a b pos) (sIf t f h) := psMono (ps_if hc ha hb) fun D s H ⟨F, g, o, r, e, k⟩ => by
  unfold sIf at e
  cases q : t g with
  | none => rw [q] at e; cases e
  | some p =>
    obtain ⟨c, g1⟩ := p
    rw [q] at e
    refine ⟨F, g, c, g1, r, q, fun F1 H1 r1 t1 m1 => ?_⟩
    have e : (if c = true then f g1 else h g1) = some o := e
    have tr := Tr.of r1 t1 m1
    cases c with
    | true =>
      rw [if_pos rfl] at e
      refine iteT ?_
      exact ⟨F1, g1, o, r1, e, k.back tr⟩
    | false =>
      rw [if_neg (by decide)] at e
      refine iteF ?_
      exact ⟨F1, g1, o, r1, e, k.back tr⟩
/-- e; -/
def sEx (f : Fe) : Fs := fun g => (f g).map fun p => .nx p.2
theorem ds_expr {a : Expr} {pos : Pos} {f : Fe} (h : DE X a f) (hs : swapsWith a none pos.line X.env = pure false := by rfl) : DS X (.Expr a pos) (sEx f) := psMono (ps_expr h hs) fun D s H ⟨F, g, o, r, e, k⟩ => by
  unfold sEx at e
  cases q : f g with
  | none => rw [q] at e; cases e
  | some p =>
    rw [q] at e; cases e
    exact ⟨F, g, p.1, p.2, r, q, fun v F1 H1 _ r1 t1 m1 => k F1 s H1 (Tr.of r1 t1 m1)⟩
/-- return e -/
def sRet (f : Fv) : Fs := fun g => (f g).bind fun p => match p.1 with
  | .no => none
  | x => some (.ret x p.2)
theorem ds_ret {a : Expr} {pos : Pos} {f : Fv} (h : DV X a f) : DS X (.Return (some a) pos) (sRet f) := psMono (ps_ret h) fun D s H ⟨F, g, o, r, e, k⟩ => by
  unfold sRet at e
  cases q : f g with
  | none => rw [q] at e; cases e
  | some p =>
    obtain ⟨x, g1⟩ := p
    rw [q] at e
    refine ⟨F, g, x, g1, r, q, fun v F1 H1 hv hn r1 t1 m1 => ?_⟩
    cases x with
    | no => cases e
    | v d =>
      cases e
      exact k v F1 s H1 hv (fun z => nomatch z) (fun _ _ z => nomatch z) (Tr.of r1 t1 m1)
    | own tg ds =>
      cases e
      refine k v F1 s H1 hv (fun z => nomatch z) (fun _ _ z => ?_) (Tr.of r1 t1 m1)
      obtain ⟨e1, a, e2, na⟩ := hn _ _ z
      refine ⟨e1, a, e2, .inl na, fun w => ?_⟩
      obtain ⟨xs, hx, _⟩ := r.ownSome (m1.own w)
      rw [na] at hx; cases hx
def sRetN : Fs := fun g => some (.ret (.v .none) g)
theorem ds_retN {pos : Pos} : DS X (.Return none pos) sRetN := psMono ps_retN fun D s H ⟨F, g, o, r, e, k⟩ => by
  cases e
  exact k .non F s H ⟨_, rfl, .non⟩ (fun z => nomatch z) (fun _ _ z => nomatch z) (Tr.refl r)
/-- return name, the name's list goes to the caller -/
def sRetV (i : Nat) : Fs := fun g => match g[i]? with
  | some (.v d) => some (.ret (.v d) g)
  | some (.own none ds) => some (.ret (.own none ds) (g.set i .no))
  | _ => none
theorem ds_retV (i : Nat) {x : Str} {pos pos' : Pos} (hN : X.N[i]? = some x := by rfl) (hv : Vis X.env.scope x := by first | exact Or.inl rfl | exact Or.inr (Or.inl rfl) | exact Or.inr (Or.inr rfl)) (hd : (x == ("__debug__" : Str)) = false := by decide)
    (hcd : (x == ("__classdict__" : Str)) = false := by decide) : DS X (.Return (some (.Name x pos')) pos) (sRetV i) := psMono (ps_ret (pe_var hN hv hd hcd)) fun D s H ⟨F, g, o, r, e, k⟩ => by
  unfold sRetV at e
  split at e
  · rename_i d hg
    cases e
    obtain ⟨o, ho, v, rfl, hp⟩ := r.get hg
    exact ⟨v, ho, k v F s H ⟨v, rfl, hp⟩ (fun z => nomatch z) (fun _ _ z => nomatch z) (Tr.refl r)⟩
  · rename_i ds hg
    cases e
    obtain ⟨o, ho, a, xs, rfl, fa, ha, hp, ht⟩ := r.get hg
    have hi : i < g.length := (List.getElem?_eq_some_iff.mp hg).1
    have r0 : Rep X.K F (g.set i .no) s H := by
      have := r.put i .no (some (.ref a)) trivial (fun _ _ _ e => nomatch e)
      rwa [setSelf ho] at this
    have n0 : ¬ OwnAt (g.set i .no) s a := fun ⟨j, tg, es, e1, e2⟩ => by
      by_cases z : i = j
      · subst z; rw [List.getElem?_set_self hi] at e1; cases e1
      · rw [List.getElem?_set_ne z] at e1
        exact z (r.uq i j a none tg ds es hg e1 ho e2)
    refine ⟨_, ho, k _ F s H ⟨a, xs, rfl, fa, ha, hp, ht⟩ (fun z => nomatch z) (fun _ _ z => ?_) ⟨r0, Stp.refl, fun b hb => .inl ?_⟩⟩
    · cases z
      exact ⟨rfl, a, rfl, .inr ⟨i, none, ds, hg, ho⟩, n0⟩
    · rw [← setSelf ho] at hb
      rcases ownIn hb r.len with q | ⟨_, _, e2, _⟩
      · exact q
      · cases e2
  · cases e

/-! ### assignments -/
/-- name = e -/
def setOut (i : Nat) (x : Sl) (g : G) : Option Out := match x with
  | .v d => some (.nx (g.set i (.v d)))
  | .own none ds => some (.nx (g.set i (.own none ds)))
  | _ => none
def sSet (i : Nat) (f : Fv) : Fs := fun g => (f g).bind fun p => setOut i p.1 p.2
theorem set_end {K : PySem.W.Frag} {F H F1 H1 : Hp} {g g1 : G} {s : Sg} {x : Sl} {v : V} {i : Nat} {o : Out} {D : Ends} (r : Rep K F g s H) (r1 : Rep K F1 g1 s H1) (t1 : Stp (OwnAt g s) F H F1 H1) (m1 : Mo g g1) (hv : RepS K F1 H1 x (some v))
    (hn : ∀ t ds, x = .own t ds → t = none ∧ ∃ a, v = .ref a ∧ H a = none) (e : setOut i x g1 = some o) (k : endS K F g s H D o) : D.nx (s.set i (some v)) H1 := by
  cases x with
  | no => cases e
  | v d =>
    cases e
    obtain ⟨y, ey, hp⟩ := hv
    cases ey
    exact k F1 _ H1 ((Tr.of r1 t1 m1).trans (r1.setV i hp))
  | own tg ds =>
    obtain ⟨rfl, a, rfl, na⟩ := hn _ _ rfl
    cases e
    obtain ⟨a', xs, ea, fa, ha, hp, ht⟩ := hv
    cases ea
    have n1 : ¬ OwnAt g1 s a := fun w => by
      obtain ⟨xs, hx, _⟩ := r.ownSome (m1.own w)
      rw [na] at hx; cases hx
    refine k F1 _ H1 ⟨r1.setO i fa ha hp n1, t1, fun b hb => ?_⟩
    rcases ownIn hb r1.len with q | ⟨_, _, _, e2⟩
    · exact .inl (m1.own q)
    · cases e2; exact .inr na
theorem ds_set (i : Nat) {x : Str} {a : Expr} {f : Fv} {pos pos' : Pos} (hN : X.N.Nodup) (he : DV X a f) (hi : X.N[i]? = some x := by rfl) (hx : Loc X.env.scope x := by first | exact Or.inl rfl | exact Or.inr rfl) (hs : swapsWith a (some (.Name x pos')) pos.line X.env = pure false := by rfl)
    (hf : X.fn x = true ∨ X.env.scope.names.lookup x = some .local := by first | exact .inl rfl | exact .inr rfl | assumption) :
    DS X (.Assign [.Name x pos'] a pos) (sSet i f) := psMono (ps_set hN hi hx he hs hf) fun D s H ⟨F, g, o, r, e, k⟩ => by
  unfold sSet at e
  cases q : f g with
  | none => rw [q] at e; cases e
  | some p =>
    obtain ⟨x, g1⟩ := p
    rw [q] at e
    exact ⟨F, g, x, g1, r, q, fun v F1 H1 hv hn r1 t1 m1 => set_end r r1 t1 m1 hv hn e k⟩
/-- name op= e -/
def sAug (i : Nat) (op : D → D → Option D) (f : Fe) : Fs := fun g => match g[i]? with
  | some (.v d0) => (f g).bind fun p => (op d0 p.1).map fun d => .nx (p.2.set i (.v d))
  | _ => none
def IpOk (K : PySem.W.Frag) (r : TIp) (op : D → D → Option D) : Prop := ∀ (x y : V) (d1 d2 d : D) (F H : Hp) (Q : VK), Same F H → Dp K F x d1 → Dp K F y d2 → op d1 d2 = some d →
  (∀ v F' H', Dp K F' v d → Same F' H' → Stp Non F H F' H' → Q v H') → r x y H Q
theorem ds_aug (i : Nat) {x : Str} {a : Expr} {f : Fe} {o : Operator} {op : D → D → Option D} {ti : TIp} {pos pos' : Pos} (hN : X.N.Nodup) (ho : PIp X o ti) (hr : IpOk X.K ti op) (he : DE X a f) (hi : X.N[i]? = some x := by rfl) (hx : Loc X.env.scope x := by first | exact Or.inl rfl | exact Or.inr rfl)
    (hf : X.fn x = true ∨ X.env.scope.names.lookup x = some .local := by first | exact .inl rfl | exact .inr rfl | assumption) : DS X (.AugAssign (.Name x pos') o a pos) (sAug i op f) := psMono (ps_aug hN hi hx he ho hf) fun D s H ⟨F, g, o, r, e, k⟩ => by
  unfold sAug at e
  split at e
  · rename_i d0 hg
    cases q : f g with
    | none => rw [q] at e; cases e
    | some p =>
      rw [q] at e
      have e : (op d0 p.1).map _ = some o := e
      cases q2 : op d0 p.1 with
      | none => rw [q2] at e; cases e
      | some d =>
        rw [q2] at e; cases e
        obtain ⟨o, hs, v, rfl, hp⟩ := r.get hg
        refine ⟨v, hs, F, g, p.1, p.2, r, q, fun v1 F1 H1 p1 r1 t1 m1 => ?_⟩
        refine hr v v1 d0 p.1 d F1 H1 _ r1.fh (dpMono t1.fs _ _ hp) p1 q2 fun z F2 H2 hz fh t2 => ?_
        have r2 := r1.stepN t2 fh
        exact k F2 _ H2 ((Tr.of r2 (t1.andN t2) m1).trans (r2.setV i hz))
  · cases e
theorem ok_ipadd : IpOk X.K (ipI fun i j => i + j) addD := fun x y d1 d2 d F H Q fh p1 p2 e k => by
  unfold addD at e
  split at e
  · cases e
    rename_i i j
    exact ⟨i, j, intOf p1, intOf p2, fin0 fh (.int _) k⟩
  · cases e

/-! ### targets -/
/-- only the slots ws are changed -/
structure Chg (ws : List Nat) (s s' : Sg) : Prop where
  len : s'.length = s.length
  at' : ∀ i, i ∉ ws → s'[i]? = s[i]?
theorem Chg.refl {ws : List Nat} {s : Sg} : Chg ws s s := ⟨rfl, fun _ _ => rfl⟩
theorem Chg.trans {ws vs : List Nat} {a b c : Sg} (x : Chg ws a b) (y : Chg vs b c) : Chg (ws ++ vs) a c := ⟨y.len.trans x.len, fun i h => (y.at' i fun z => h (List.mem_append_right _ z)).trans (x.at' i fun z => h (List.mem_append_left _ z))⟩
abbrev Fg := D → G → Option G
def tG (K : PySem.W.Frag) (f : Fg) (ws : List Nat) : TG := fun v s H Q => ∃ F g d g', Rep K F g s H ∧ Dp K F v d ∧ f d g = some g' ∧ ∀ F' s' H', Tr K F g s H F' g' s' H' → Mo g g' → Chg ws s s' → Q s' H'
def tGs (K : PySem.W.Frag) (f : List D → G → Option G) (ws : List Nat) : TGs := fun vs s H Q => ∃ F g ds g', Rep K F g s H ∧ DpAll K F vs ds ∧ f ds g = some g' ∧ ∀ F' s' H', Tr K F g s H F' g' s' H' → Mo g g' → Chg ws s s' → Q s' H'
def DG (X : Cx) (t : Expr) (f : Fg) (ws : List Nat) : Prop := PG X t (tG X.K f ws)
def DGs (X : Cx) (t : List Expr) (f : List D → G → Option G) (ws : List Nat) : Prop := PGs X t (tGs X.K f ws)
theorem pgMono {t : Expr} {u u' : TG} (h : PG X t u) (m : ∀ v s H Q, u' v s H Q → u v s H Q) : PG X t u' := ⟨fun pins st s H v w Q I r q => h.run pins st s H v w Q I r (m v s H Q q)⟩
theorem pgsMono {t : List Expr} {u u' : TGs} (h : PGs X t u) (m : ∀ v s H Q, u' v s H Q → u v s H Q) : PGs X t u' := ⟨fun pins st s H v w Q I r q => h.run pins st s H v w Q I r (m v s H Q q)⟩
def gVar (i : Nat) : Fg := fun d g => some (g.set i (.v d))
theorem moV {g : G} {i : Nat} {d : D} : Mo g (g.set i (.v d)) := fun j u fs e => by
  by_cases z : i = j
  · subst z
    by_cases hi : i < g.length
    · rw [List.getElem?_set_self hi] at e; cases e
    · rw [List.getElem?_eq_none (by simpa using hi)] at e; cases e
  · rw [List.getElem?_set_ne z] at e; exact ⟨fs, e⟩
theorem dg_name (i : Nat) {x : Str} {pos : Pos} (hN : X.N.Nodup) (hi : X.N[i]? = some x := by rfl) (hx : Loc X.env.scope x := by first | exact Or.inl rfl | exact Or.inr rfl) (hf : X.fn x = true ∨ X.env.scope.names.lookup x = some .local := by first | exact .inl rfl | exact .inr rfl | assumption) : DG X (.Name x pos) (gVar i) [i] :=
  pgMono (pg_name hN hi hx hf) fun v s H Q ⟨F, g, d, g', r, hp, e, k⟩ => by
    cases e
    exact k F _ H (r.setV i hp) moV ⟨by simp, fun j hj => List.getElem?_set_ne fun z => hj (by simp [z])⟩
def gsNil : List D → G → Option G := fun ds g => match ds with
  | [] => some g
  | _ => none
def gsCons (f : Fg) (h : List D → G → Option G) : List D → G → Option G := fun ds g => match ds with
  | d :: r => (f d g).bind fun g1 => h r g1
  | _ => none
theorem dgs_nil : DGs X [] gsNil [] := pgsMono pgs_nil fun v s H Q ⟨F, g, d, g', r, hp, e, k⟩ => by
  unfold gsNil at e
  split at e
  · cases e
    cases hp
    exact ⟨rfl, k F s H (Tr.refl r) Mo.refl Chg.refl⟩
  · cases e
theorem dgs_cons {t : Expr} {ts : List Expr} {f : Fg} {h : List D → G → Option G} {ws vs : List Nat} (h1 : DG X t f ws) (h2 : DGs X ts h vs) (hs : (assignEach (t :: ts) X.env).map (·.2) = assign t X.env :: (assignEach ts X.env).map (·.2) := by rfl) : DGs X (t :: ts) (gsCons f h) (ws ++ vs) :=
  pgsMono (pgs_cons h1 h2 hs) fun v s H Q ⟨F, g, ds, g', r, hp, e, k⟩ => by
    unfold gsCons at e
    split at e
    · rename_i d rs
      cases hp with
      | cons p1 p2 =>
        cases q : f d g with
        | none => rw [q] at e; cases e
        | some g1 =>
          rw [q] at e
          exact ⟨_, _, rfl, F, g, d, g1, r, p1, q, fun F1 s1 H1 t1 m1 c1 => ⟨F1, g1, rs, g', t1.rep, dpMonos t1.stp.fs _ _ p2, e, fun F2 s2 H2 t2 m2 c2 => k F2 s2 H2 (t1.trans t2) (m1.trans m2) (c1.trans c2)⟩⟩
    · cases e
def gTup (f : List D → G → Option G) (n : Nat) : Fg := fun d g => match d with
  | .tuple ds => if ds.length = n then f ds g else none
  | _ => none
theorem dg_tup {es : List Expr} {k : Nat} {pos : Pos} {f : List D → G → Option G} {ws : List Nat} (n : Nat) (hc : X.calm = true) (h : DGs X es f ws) (hn : (assignEach es X.env).length = n := by rfl) (hst : (assignEach es X.env).findIdx? (·.1) = none := by rfl) : DG X (.Tuple es k pos) (gTup f n) ws :=
  pgMono (pg_tup hc h hn hst) fun v s H Q ⟨F, g, d, g', r, hp, e, k⟩ => by
    unfold gTup at e
    split at e
    · rename_i ds
      split at e
      · rename_i hl
        cases hp with
        | tup hs ha => exact ⟨_, _, rfl, Same.tupS r.fh hs, by rw [dpLen ha, hl], F, g, ds, g', r, ha, e, k⟩
      · cases e
    · cases e
/-- target = e (a pattern) -/
def sAsg (f : Fe) (t : Fg) : Fs := fun g => (f g).bind fun p => (t p.1 p.2).map .nx
theorem ds_asg {tg a : Expr} {f : Fe} {t : Fg} {ws : List Nat} {pos : Pos} (he : DE X a f) (hg : DG X tg t ws) (hs : swapsWithSole [tg] a pos.line X.env = pure false := by rfl) (hw : swappedStores [tg] a X.env = pure none := by rfl)
    (h1 : (assignEach [tg] X.env).map (·.2) = [assign tg X.env] := by rfl) : DS X (.Assign [tg] a pos) (sAsg f t) := psMono (ps_asg he hg hs hw h1) fun D s H ⟨F, g, o, r, e, k⟩ => by
  unfold sAsg at e
  cases q : f g with
  | none => rw [q] at e; cases e
  | some p =>
    rw [q] at e
    have e : (t p.1 p.2).map _ = some o := e
    cases q2 : t p.1 p.2 with
    | none => rw [q2] at e; cases e
    | some g2 =>
      rw [q2] at e; cases e
      exact ⟨F, g, p.1, p.2, r, q, fun v F1 H1 p1 r1 t1 m1 => ⟨F1, p.2, p.1, g2, r1, p1, q2, fun F2 s2 H2 t2 _ _ => k F2 s2 H2 ((Tr.of r1 t1 m1).trans t2)⟩⟩

/-! ### two values at once -/
theorem par_set {K : PySem.W.Frag} {F H F1 H1 : Hp} {g g1 : G} {s s1 : Sg} {x : Sl} {v : V} (i : Nat) (r1 : Tr K F g s H F1 g1 s1 H1) (hv : RepS K F1 H1 x (some v)) (hx : x ≠ .no)
    (hn : ∀ t ds, x = .own t ds → t = none ∧ ∃ a, v = .ref a ∧ H a = none ∧ ¬ OwnAt g1 s1 a) : Tr K F g s H F1 (g1.set i x) (s1.set i (some v)) H1 := by
  cases x with
  | no => exact absurd rfl hx
  | v d =>
    obtain ⟨y, ey, hp⟩ := hv
    cases ey
    exact r1.trans (r1.rep.setV i hp)
  | own tg ds =>
    obtain ⟨rfl, a, rfl, na, n1⟩ := hn _ _ rfl
    obtain ⟨a', xs, ea, fa, ha, hp, ht⟩ := hv
    cases ea
    refine ⟨r1.rep.setO i fa ha hp n1, r1.stp, fun b hb => ?_⟩
    rcases ownIn hb r1.rep.len with q | ⟨_, _, _, e2⟩
    · exact r1.own b q
    · cases e2; exact .inr na
/-- a, b = e1, e2 -/
def parOut (i j : Nat) (x y : Sl) (g : G) : Option Out := match x, y with
  | .no, _ => none
  | _, .no => none
  | x, y => some (.nx ((g.set i x).set j y))
def sPar (i j : Nat) (f h : Fv) : Fs := fun g => (f g).bind fun p => (h p.2).bind fun q => parOut i j p.1 q.1 q.2
theorem keepRep {K : PySem.W.Frag} {F H F1 H1 : Hp} {g : G} {s : Sg} {x : Sl} {v : V} (r : Rep K F g s H) (hv : RepS K F H x (some v)) (t : Stp (OwnAt g s) F H F1 H1) (hn : ∀ t ds, x = .own t ds → ∃ a, v = .ref a ∧ ¬ OwnAt g s a) (fh : Same F1 H1) : RepS K F1 H1 x (some v) := by
  cases x with
  | no => trivial
  | v d =>
    obtain ⟨y, ey, hp⟩ := hv
    exact ⟨y, ey, dpMono t.fs _ _ hp⟩
  | own tg ds =>
    obtain ⟨a, xs, ea, fa, ha, hp, ht⟩ := hv
    obtain ⟨a', e, n⟩ := hn _ _ rfl
    cases ea; cases e
    refine ⟨a, xs, rfl, ?_, t.keep a _ ha n, dpMonos t.fs _ _ hp, ht⟩
    cases z : F1 a with
    | none => rfl
    | some u =>
      rcases t.fresh a fa (by rw [z]; simp) with q | q
      · rw [q] at ha; cases ha
      · exact absurd q n
theorem ds_par (i j : Nat) {x y : Str} {a b : Expr} {f h : Fv} {pos px py pt : Pos} {kt k2 pt2} (hc : X.calm = true) (hN : X.N.Nodup) (ha : DV X a f) (hb : DV X b h) (hi : X.N[i]? = some x := by rfl) (hj : X.N[j]? = some y := by rfl) (hij : i ≠ j := by decide)
    (hx : X.env.scope.names.lookup x = some .local := by rfl) (hy : X.env.scope.names.lookup y = some .local := by rfl)
    (hw : swappedStores [.Tuple [.Name x px, .Name y py] kt pt] (.Tuple [a, b] k2 pt2) X.env = pure (some [x, y]) := by rfl)
    (hs : swapsWithSole [.Tuple [.Name x px, .Name y py] kt pt] (.Tuple [a, b] k2 pt2) pos.line X.env = pure false := by rfl)
    (h1 : starEach [a, b] X.env = (false, eval a X.env) :: starEach [b] X.env := by rfl) (h2 : starEach [b] X.env = (false, eval b X.env) :: starEach [] X.env := by rfl) :
    DS X (.Assign [.Tuple [.Name x px, .Name y py] kt pt] (.Tuple [a, b] k2 pt2) pos) (sPar i j f h) := psMono (ps_par hc hN hi hj hij hx hy (pa_cons ha (pa_cons hb pa_nil h2) h1) hw hs) fun D s H ⟨F, g, o, r, e, k⟩ => by
  unfold sPar at e
  cases q : f g with
  | none => rw [q] at e; cases e
  | some p =>
    obtain ⟨x1, g1⟩ := p
    rw [q] at e
    have e : (h g1).bind _ = some o := e
    cases q2 : h g1 with
    | none => rw [q2] at e; cases e
    | some p2 =>
      obtain ⟨x2, g2⟩ := p2
      rw [q2] at e
      have e : parOut i j x1 x2 g2 = some o := e
      have hx1 : x1 ≠ .no := fun z => by subst z; cases e
      have hx2 : x2 ≠ .no := fun z => by subst z; cases x1 <;> cases e
      have eo : o = Out.nx ((g2.set i x1).set j x2) := by
        cases x1 <;> cases x2 <;> first | (cases e; rfl) | exact absurd rfl hx1 | exact absurd rfl hx2
      subst eo
      refine ⟨F, g, x1, g1, r, q, fun v F1 H1 hv hn r1 t1 m1 => ⟨F1, g1, x2, g2, r1, q2, fun w F2 H2 hw2 hn2 r2 t2 m2 => ⟨v, w, rfl, ?_⟩⟩⟩
      have na : ∀ a, H a = none → ¬ OwnAt g1 s a := fun a ha z => by
        obtain ⟨xs, hx, _⟩ := r.ownSome (m1.own z)
        rw [ha] at hx; cases hx
      have hv2 : RepS X.K F2 H2 x1 (some v) := keepRep r1 hv t2 (fun tg ds z => by
        obtain ⟨_, a, ea, n⟩ := hn tg ds z
        exact ⟨a, ea, na a n⟩) r2.fh
      have t02 := Tr.of r2 (t1.two m1 t2) (m1.trans m2)
      have s1 := par_set i t02 hv2 hx1 fun tg ds z => by
        obtain ⟨e1, a, ea, n⟩ := hn tg ds z
        exact ⟨e1, a, ea, n, fun z2 => na a n (m2.own z2)⟩
      have s2 := par_set j s1 hw2 hx2 fun tg ds z => by
        obtain ⟨e1, a, ea, n⟩ := hn2 tg ds z
        refine ⟨e1, a, ea, ?_, fun z2 => ?_⟩
        · cases z3 : H a with
          | none => rfl
          | some u => exact absurd n (t1.dom a (by rw [z3]; simp))
        · rcases ownIn z2 r2.len with q3 | ⟨_, _, e3, e4⟩
          · obtain ⟨xs, hx, _⟩ := r1.ownSome (m2.own q3)
            rw [n] at hx; cases hx
          · subst e3
            cases e4
            obtain ⟨a', xs, ea', _, ha', _⟩ := hv
            cases ea'
            rw [n] at ha'; cases ha'
      exact k F2 _ H2 s2

/-! ### stores into a list of the frame's own -/
/-- name[e] = e' -/
def sPut (i : Nat) (fj : Fe) (f : Fv) : Fs := fun g => (eV f g).bind fun p => (slD p.2[i]?).bind fun _ => (fj p.2).bind fun q => match q.2[i]?, q.1 with
  | some (.own t ds), .int k => (ixN ds.length k).map fun m => .nx (q.2.set i (.own t (ds.set m p.1)))
  | _, _ => none
theorem ds_put (i : Nat) {x : Str} {a b : Expr} {f : Fv} {fj : Fe} {pos p1 p2 : Pos} (he : DV X a f) (hj : DE X b fj) (hN : X.N[i]? = some x := by rfl) (hv : Vis X.env.scope x := by first | exact Or.inl rfl | exact Or.inr (Or.inl rfl) | exact Or.inr (Or.inr rfl)) (hd : (x == ("__debug__" : Str)) = false := by decide)
    (hcd : (x == ("__classdict__" : Str)) = false := by decide) (hs : swapsWithSole [.Subscript (.Name x p1) b p2] a pos.line X.env = pure false := by rfl) (hw : swappedStores [.Subscript (.Name x p1) b p2] a X.env = pure none := by rfl)
    (h1 : (assignEach [.Subscript (.Name x p1) b p2] X.env).map (·.2) = [assign (.Subscript (.Name x p1) b p2) X.env] := by rfl)
    (ha : ∀ v, assign (.Subscript (.Name x p1) b p2) X.env v = (do
      let ov ← holding [v] (eval (.Name x p1) X.env)
      let iv ← holding [v, ov] (eval b X.env)
      standAt p2
      holding [v, ov, iv] (setItem ov iv v)
      release [v, ov, iv] []) := by intro _; rfl) : DS X (.Assign [.Subscript (.Name x p1) b p2] a pos) (sPut i fj f) :=
  psMono (ps_asg (de_dv he) (pg_sub (pe_var hN hv hd hcd) hj set_list ha) hs hw h1) fun D s H ⟨F, g, o, r, e, k⟩ => by
    unfold sPut at e
    cases q : eV f g with
    | none => rw [q] at e; cases e
    | some p =>
      obtain ⟨d, g1⟩ := p
      rw [q] at e
      have e : (slD g1[i]?).bind _ = some o := e
      cases q0 : slD g1[i]? with
      | none => rw [q0] at e; cases e
      | some d0 =>
        rw [q0] at e
        have e : (fj g1).bind _ = some o := e
        cases q2 : fj g1 with
        | none => rw [q2] at e; cases e
        | some p2 =>
          obtain ⟨dj, g2⟩ := p2
          rw [q2] at e
          simp only [Option.bind_some] at e
          split at e
          · rename_i tg ds kk hg
            cases q3 : ixN ds.length kk with
            | none => rw [q3] at e; cases e
            | some m =>
              rw [q3] at e; cases e
              refine ⟨F, g, d, g1, r, q, fun v F1 H1 hp r1 t1 m1 => ?_⟩
              obtain ⟨x0, w, _, hw, _⟩ := slGet r1 q0
              refine ⟨w, hw, F1, g1, _, g2, r1, q2, fun vj F2 H2 hpj r2 t2 m2 => ?_⟩
              obtain ⟨o, ho, a, xs, eo, fa, hal, hps, ht⟩ := r2.get hg
              rw [hw] at ho; cases ho; cases eo
              refine ⟨a, xs, kk, m, rfl, intOf hpj, hal, by rw [dpLen hps]; exact q3, ?_⟩
              exact k F2 _ _ ((Tr.of r2 (t1.two m1 t2) (m1.trans m2)).trans (r2.turn hg hw (dpSet (dpMono t2.fs _ _ hp) m hps)))
          · cases e
def ownD : Option Sl → Option (List D)
  | some (.own _ ds) => some ds
  | _ => none
/-- name.append(e) -/
def eApp (i : Nat) (f : Fv) : Fe := fun g => (ownD g[i]?).bind fun _ => (eV f g).bind fun q => match q.2[i]? with
  | some (.own t ds) => if ds.length < 1000000 then some (.none, q.2.set i (.own t (ds ++ [q.1]))) else none
  | _ => none
theorem moSet {g : G} {i : Nat} {t : Option Addr} {ds es : List D} (h : g[i]? = some (.own t ds)) : Mo g (g.set i (.own t es)) := fun j u fs e => by
  by_cases z : i = j
  · subst z
    rw [List.getElem?_set_self (List.getElem?_eq_some_iff.mp h).1] at e
    cases e; exact ⟨ds, h⟩
  · rw [List.getElem?_set_ne z] at e; exact ⟨fs, e⟩
theorem de_app (i : Nat) {x : Str} {a : Expr} {f : Fv} {pos p1 p2 : Pos} (he : DV X a f) (hN : X.N[i]? = some x := by rfl) (hv : Vis X.env.scope x := by first | exact Or.inl rfl | exact Or.inr (Or.inl rfl) | exact Or.inr (Or.inr rfl)) (hd : (x == ("__debug__" : Str)) = false := by decide)
    (hcd : (x == ("__classdict__" : Str)) = false := by decide) (t : PE X (.Call (.Attribute (.Name x p1) "append" p2) [a] [] pos) (tBM X.K "list" rAppend (tVar i) (tCons (tD X.K (eV f)) tNil))) : DE X (.Call (.Attribute (.Name x p1) "append" p2) [a] [] pos) (eApp i f) :=
  peMono t fun s H Q ⟨F, g, d, g', r, e, k⟩ => by
    unfold eApp at e
    cases q0 : ownD g[i]? with
    | none => rw [q0] at e; cases e
    | some d0 =>
      rw [q0] at e
      have e : (eV f g).bind _ = some (d, g') := e
      cases q2 : eV f g with
      | none => rw [q2] at e; cases e
      | some p2 =>
        obtain ⟨dj, g2⟩ := p2
        rw [q2] at e
        simp only [Option.bind_some] at e
        split at e
        · rename_i tg ds hg
          split at e
          · rename_i hl
            cases e
            have hw : ∃ w xs, s[i]? = some (some (.ref w)) ∧ H w = some (.lst xs) := by
              unfold ownD at q0
              split at q0
              · rename_i t0 ds0 hx0
                obtain ⟨o, ho, a, xs, ea, _, ha, _⟩ := r.get hx0
                subst ea
                exact ⟨a, xs, ho, ha⟩
              · cases q0
            obtain ⟨w, xs0, hw, hxs0⟩ := hw
            refine ⟨.ref w, hw, .inl ⟨rfl, _, SqL.of hxs0⟩, F, g, dj, g2, r, q2, fun vj F2 H2 hpj r2 t2 m2 => ?_⟩
            · obtain ⟨o, ho, a, xs, eo, fa, hal, hps, ht⟩ := r2.get hg
              rw [hw] at ho; cases ho; cases eo
              have tr := r2.turn hg hw (dpApp hps (.cons hpj .nil))
              exact ⟨_, xs, vj, rfl, rfl, hal, by rw [dpLen hps]; exact Nat.lt_of_lt_of_le hl million, k .non F2 _ .non tr.rep (t2.two m2 tr.stp) (m2.trans (moSet hg))⟩
          · cases e
        · cases e
end Dl
set_option Elab.async false
set_option linter.all false
set_option maxRecDepth 100000
namespace Dl
open PySem PySem.Spec PyProof.Rows L2
variable {X : Cx}

/-! ### while -/
/-- n turns and an end -/
inductive WhN (t : Ft) (b : Fs) : Nat → G → Out → Prop
  | stop {g g1 : G} : t g = some (false, g1) → WhN t b 0 g (.nx g1)
  | nx {n : Nat} {g g1 g2 : G} {o : Out} : t g = some (true, g1) → b g1 = some (.nx g2) → WhN t b n g2 o → WhN t b (n + 1) g o
  | ct {n : Nat} {g g1 g2 : G} {o : Out} : t g = some (true, g1) → b g1 = some (.ct g2) → WhN t b n g2 o → WhN t b (n + 1) g o
  | bk {g g1 g2 : G} : t g = some (true, g1) → b g1 = some (.bk g2) → WhN t b 0 g (.nx g2)
  | ret {g g1 g2 : G} {x : Sl} : t g = some (true, g1) → b g1 = some (.ret x g2) → WhN t b 0 g (.ret x g2)
theorem WhN.det {t : Ft} {b : Fs} {n : Nat} {g : G} {o : Out} (h : WhN t b n g o) : ∀ {m : Nat} {o' : Out}, WhN t b m g o' → n = m ∧ o = o' := by
  induction h with
  | stop h1 =>
    intro m o' h'
    cases h' <;> rename_i h2 <;> simp_all
  | nx h1 h2 h3 ih =>
    intro m o' h'
    cases h' with
    | nx k1 k2 k3 =>
      rw [h1] at k1; cases k1
      rw [h2] at k2; cases k2
      obtain ⟨e1, e2⟩ := ih k3
      exact ⟨by rw [e1], e2⟩
    | stop k1 => rw [h1] at k1; cases k1
    | ct k1 k2 k3 => rw [h1] at k1; cases k1; rw [h2] at k2; cases k2
    | bk k1 k2 => rw [h1] at k1; cases k1; rw [h2] at k2; cases k2
    | ret k1 k2 => rw [h1] at k1; cases k1; rw [h2] at k2; cases k2
  | ct h1 h2 h3 ih =>
    intro m o' h'
    cases h' with
    | ct k1 k2 k3 =>
      rw [h1] at k1; cases k1
      rw [h2] at k2; cases k2
      obtain ⟨e1, e2⟩ := ih k3
      exact ⟨by rw [e1], e2⟩
    | stop k1 => rw [h1] at k1; cases k1
    | nx k1 k2 k3 => rw [h1] at k1; cases k1; rw [h2] at k2; cases k2
    | bk k1 k2 => rw [h1] at k1; cases k1; rw [h2] at k2; cases k2
    | ret k1 k2 => rw [h1] at k1; cases k1; rw [h2] at k2; cases k2
  | bk h1 h2 =>
    intro m o' h'
    cases h' with
    | bk k1 k2 => rw [h1] at k1; cases k1; rw [h2] at k2; cases k2; exact ⟨rfl, rfl⟩
    | stop k1 => rw [h1] at k1; cases k1
    | nx k1 k2 k3 => rw [h1] at k1; cases k1; rw [h2] at k2; cases k2
    | ct k1 k2 k3 => rw [h1] at k1; cases k1; rw [h2] at k2; cases k2
    | ret k1 k2 => rw [h1] at k1; cases k1; rw [h2] at k2; cases k2
  | ret h1 h2 =>
    intro m o' h'
    cases h' with
    | ret k1 k2 => rw [h1] at k1; cases k1; rw [h2] at k2; cases k2; exact ⟨rfl, rfl⟩
    | stop k1 => rw [h1] at k1; cases k1
    | nx k1 k2 k3 => rw [h1] at k1; cases k1; rw [h2] at k2; cases k2
    | ct k1 k2 k3 => rw [h1] at k1; cases k1; rw [h2] at k2; cases k2
    | bk k1 k2 => rw [h1] at k1; cases k1; rw [h2] at k2; cases k2
open Classical in
/-- the end of a while, where it comes to one -/
noncomputable def sWhile (t : Ft) (b : Fs) : Fs := fun g => if h : ∃ o n, WhN t b n g o then some h.choose else none
theorem sWhile_of {t : Ft} {b : Fs} {n : Nat} {g : G} {o : Out} (h : WhN t b n g o) : sWhile t b g = some o := by
  have hx : ∃ o n, WhN t b n g o := ⟨o, n, h⟩
  unfold sWhile
  rw [dif_pos hx]
  obtain ⟨m, hm⟩ := hx.choose_spec
  rw [(h.det hm).2]
theorem sWhile_inv {t : Ft} {b : Fs} {g : G} {o : Out} (h : sWhile t b g = some o) : ∃ n, WhN t b n g o := by
  unfold sWhile at h
  split at h
  · rename_i hx
    cases h
    exact hx.choose_spec
  · cases h
/-- one turn -/
theorem sWhile_stop {t : Ft} {b : Fs} {g g1 : G} (h : t g = some (false, g1)) : sWhile t b g = some (.nx g1) := sWhile_of (.stop h)
theorem sWhile_nx {t : Ft} {b : Fs} {g g1 g2 : G} (h : t g = some (true, g1)) (h2 : b g1 = some (.nx g2)) {o : Out} (h3 : sWhile t b g2 = some o) : sWhile t b g = some o := by
  obtain ⟨n, hn⟩ := sWhile_inv h3
  exact sWhile_of (.nx h h2 hn)
theorem ds_while {c : Expr} {body : List Stmt} {pos : Pos} {t : Ft} {b : Fs} (hp : PassesOwn (model X.prog X.w) X.A X.env X.xe) (hc : DT X c t) (hb : DSs X body b) : DS X (.While c body [] pos) (sWhile t b) := psMono (ps_while hp hc hb) fun D s H ⟨F, g, o, r, e, k⟩ => by
  obtain ⟨n, hn⟩ := sWhile_inv e
  refine ⟨fun m s1 H1 => ∃ F1 g1, Tr X.K F g s H F1 g1 s1 H1 ∧ WhN t b m g1 o, ⟨n, F, g, Tr.refl r, hn⟩, fun m s1 H1 ⟨F1, g1, t1, w⟩ => ?_⟩
  cases w with
  | stop h1 =>
    refine ⟨F1, g1, _, _, t1.rep, h1, fun F2 H2 r2 st2 m2 => ?_⟩
    exact iteF (k F2 s1 H2 (t1.trans (Tr.of r2 st2 m2)))
  | @nx n' _ ga gb _ h1 h2 h3 =>
    refine ⟨F1, g1, _, _, t1.rep, h1, fun F2 H2 r2 st2 m2 => iteT ?_⟩
    refine ⟨fun s' H' => ∃ F3, Tr X.K F g s H F3 gb s' H', fun s' H' ⟨F3, t3⟩ => ⟨n', Nat.lt_succ_self _, F3, gb, t3, h3⟩, F2, ga, _, r2, h2, fun F3 s3 H3 t3 => ⟨F3, (t1.trans (Tr.of r2 st2 m2)).trans t3⟩⟩
  | @ct n' _ ga gb _ h1 h2 h3 =>
    refine ⟨F1, g1, _, _, t1.rep, h1, fun F2 H2 r2 st2 m2 => iteT ?_⟩
    refine ⟨fun s' H' => ∃ F3, Tr X.K F g s H F3 gb s' H', fun s' H' ⟨F3, t3⟩ => ⟨n', Nat.lt_succ_self _, F3, gb, t3, h3⟩, F2, ga, _, r2, h2, fun F3 s3 H3 t3 => ⟨F3, (t1.trans (Tr.of r2 st2 m2)).trans t3⟩⟩
  | @bk _ ga gb h1 h2 =>
    refine ⟨F1, g1, _, _, t1.rep, h1, fun F2 H2 r2 st2 m2 => iteT ?_⟩
    refine ⟨fun _ _ => False, fun _ _ z => z.elim, F2, ga, _, r2, h2, fun F3 s3 H3 t3 => k F3 s3 H3 ((t1.trans (Tr.of r2 st2 m2)).trans t3)⟩
  | @ret _ ga gb x h1 h2 =>
    refine ⟨F1, g1, _, _, t1.rep, h1, fun F2 H2 r2 st2 m2 => iteT ?_⟩
    have tt := t1.trans (Tr.of r2 st2 m2)
    exact ⟨fun _ _ => False, fun _ _ z => z.elim, F2, ga, _, r2, h2, fun v F3 s3 H3 a n b t3 => k v F3 s3 H3 a n (b.back tt) (tt.trans t3)⟩

/-! ### what is walked -/
/-- the walk J gives the data ds, one by one -/
structure Itd (K : PySem.W.Frag) (F0 : Hp) (J : It) (ds : List D) : Prop where
  go : ∀ (i : Nat) (H : Hp), Same F0 H → i < ds.length → J.go i H
  stop : ∀ H, Same F0 H → J.stop ds.length H
  yld : ∀ (i : Nat) (F H : Hp) (x : V) (H' : Hp), Same F0 F → Same F H → i < ds.length → J.yld i H x H' → ∃ F' d, ds[i]? = some d ∧ Dp K F' x d ∧ Same F' H' ∧ Stp Non F H F' H'
def tI (K : PySem.W.Frag) (f : Fa) : TI := fun s H R => ∃ F g ds g', Rep K F g s H ∧ f g = some (ds, g') ∧
  ∀ J F' H', Rep K F' g' s H' → Stp (OwnAt g s) F H F' H' → Mo g g' → Itd K F' J ds → R J H'
def DI (X : Cx) (tg iter : Expr) (f : Fa) : Prop := PI X tg iter (tI X.K f)
theorem piMono {tg iter : Expr} {t t' : TI} (h : PI X tg iter t) (m : ∀ s H R, t' s H R → t s H R) : PI X tg iter t' := ⟨fun pins st s H R I w => h.run pins st s H R I (m s H R w)⟩
theorem piOr {tg iter : Expr} {t t' : TI} (h : PI X tg iter t) (h' : PI X tg iter t') : PI X tg iter (fun s H R => t s H R ∨ t' s H R) := ⟨fun pins st s H R I w => w.elim (h.run pins st s H R I) (h'.run pins st s H R I)⟩
theorem itdSeq {K : PySem.W.Frag} {F : Hp} {J : It} {xs : List V} {ds : List D} {P : Hp → Prop} (hp : DpAll K F xs ds) (hP : ∀ H, Same F H → P H) (w : Walk J xs.length P (YAt xs)) : Itd K F J ds where
  go := fun i H h hi => w.goes i H (by rw [dpLen hp]; exact hi) (hP H h)
  stop := fun H h => by rw [← dpLen hp]; exact w.stops H (hP H h)
  yld := fun i F1 H x H' h1 h2 hi y => by
    obtain ⟨e, hx⟩ := w.yields i H x H' (by rw [dpLen hp]; exact hi) (hP H (h1.trans h2)) y
    subst e
    obtain ⟨d, hd, q⟩ := dpAtV hp hx
    exact ⟨F1, d, hd, dpMono h1 _ _ q, h2, Stp.refl⟩
def seqD : D → Option (List D)
  | .list ds => some ds
  | .tuple ds => some ds
  | _ => none
def iSeq (f : Fe) : Fa := fun g => (f g).bind fun p => (seqD p.1).map fun ds => (ds, p.2)
theorem iSeq_inv {f : Fe} {g g' : G} {ds : List D} (h : iSeq f g = some (ds, g')) : ∃ d, f g = some (d, g') ∧ seqD d = some ds := by
  unfold iSeq at h
  cases q : f g with
  | none => rw [q] at h; cases h
  | some p =>
    rw [q] at h
    have h : (seqD p.1).map _ = some (ds, g') := h
    cases q2 : seqD p.1 with
    | none => rw [q2] at h; cases h
    | some d2 => rw [q2] at h; cases h; exact ⟨p.1, rfl, q2⟩
/-- a list or a tuple -/
theorem di_seq {tg a : Expr} {f : Fe} (h : DE X a f) : DI X tg a (iSeq f) := piMono (piOr (pi_list h) (pi_tup h)) fun s H R ⟨F, g, ds, g', r, e, k⟩ => by
  obtain ⟨d, e1, e2⟩ := iSeq_inv e
  cases d with
  | list es =>
    cases e2
    refine .inl ⟨F, g, _, g', r, e1, fun v F1 H1 p1 r1 t1 m1 => ?_⟩
    cases p1 with
    | lst hs ha => exact ⟨_, rfl, ⟨_, r1.fh.seq hs⟩, k _ F1 H1 r1 t1 m1 (itdSeq ha (fun H q => q.seq hs) walk_list)⟩
  | tuple es =>
    cases e2
    refine .inr ⟨F, g, _, g', r, e1, fun v F1 H1 p1 r1 t1 m1 => ?_⟩
    cases p1 with
    | tup hs ha => exact ⟨_, rfl, ⟨_, Same.tupS r1.fh hs⟩, k _ F1 H1 r1 t1 m1 (itdSeq ha (fun H q => Same.tupS q hs) walk_tup)⟩
  | _ => cases e2
/-- range -/
def rangeL (lo : Int) (n : Nat) : List D := (List.range n).map fun (i : Nat) => PyData.int (lo + (i : Nat))
theorem itdRange {K : PySem.W.Frag} {F : Hp} {lo : Int} {n : Nat} : Itd K F (Itr lo n) (rangeL lo n) where
  go := fun i H h hi => by
    show i < n
    simpa [rangeL] using hi
  stop := fun H h => by
    show n ≤ (rangeL lo n).length
    simp [rangeL]
  yld := fun i F1 H x H' h1 h2 hi y => by
    obtain ⟨e, hx⟩ := y
    subst e hx
    have hi' : i < n := by simpa [rangeL] using hi
    exact ⟨F1, .int (lo + i), by simp [rangeL, hi'], .int _, h2, Stp.refl⟩
def SmI (i : Int) : Prop := -(2 ^ 62) ≤ i ∧ i < 2 ^ 62
instance (i : Int) : Decidable (SmI i) := by unfold SmI; exact inferInstance
def iRange1 (f : Fa) : Fa := fun g => match f g with
  | some ([.int j], g') => if SmI j then some (rangeL 0 j.toNat, g') else none
  | _ => none
def iRange2 (f : Fa) : Fa := fun g => match f g with
  | some ([.int i, .int j], g') => if SmI i ∧ SmI j then some (rangeL i (j - i).toNat, g') else none
  | _ => none
theorem dp1 {K : PySem.W.Frag} {F : Hp} {vs : List V} {i : Int} (h : DpAll K F vs [.int i]) : vs = [.int i] := by
  cases h with
  | cons h1 h2 => cases h1; cases h2; rfl
theorem dp2 {K : PySem.W.Frag} {F : Hp} {vs : List V} {i j : Int} (h : DpAll K F vs [.int i, .int j]) : vs = [.int i, .int j] := by
  cases h with
  | cons h1 h2 =>
    cases h1
    cases h2 with
    | cons h3 h4 => cases h3; cases h4; rfl
theorem di_range1 {tg a : Expr} {p pos : Pos} {f : Fa} (hg : Gl X "range") (hm : X.mg "range" = none) (ha : DA X [a] f)
    (hs : starEach [a] X.env = [(false, eval a X.env)] := by rfl) :
    DI X tg (.Call (.Name "range" p) [a] [] pos) (iRange1 f) := piMono (pi_range1 hg hm ha hs) fun s H R ⟨F, g, ds, g', r, e, k⟩ => by
  unfold iRange1 at e
  split at e
  · rename_i j g1 q
    split at e
    · rename_i hj
      cases e
      exact ⟨F, g, _, _, r, q, fun vs F1 H1 p1 r1 t1 m1 => ⟨j, dp1 p1, hj.1, hj.2, k _ F1 H1 r1 t1 m1 itdRange⟩⟩
    · cases e
  · cases e
theorem di_range2 {tg a b : Expr} {p pos : Pos} {f : Fa} (t : PI X tg (.Call (.Name "range" p) [a, b] [] pos) (iRng2 (tA X.K f))) :
    DI X tg (.Call (.Name "range" p) [a, b] [] pos) (iRange2 f) := piMono t fun s H R ⟨F, g, ds, g', r, e, k⟩ => by
  unfold iRange2 at e
  split at e
  · rename_i i j g1 q
    split at e
    · rename_i hj
      cases e
      exact ⟨F, g, _, _, r, q, fun vs F1 H1 p1 r1 t1 m1 => ⟨i, j, dp2 p1, ⟨hj.1.1, hj.1.2, hj.2.1, hj.2.2⟩, k _ F1 H1 r1 t1 m1 itdRange⟩⟩
    · cases e
  · cases e
end Dl
set_option Elab.async false
set_option linter.all false
set_option maxRecDepth 100000
namespace Dl
open PySem PySem.Spec PyProof.Rows L2

/-! ### enumerate of a tuple -/
section
open Sem (wp)
theorem newEnum1 {v : Value} {ob : Obj} {C : Heap → Prop} (B : Begins v ob C) : Meets (Builtin.«enumerate.__new__» ⟨[.type "enumerate", v], []⟩) (fun _ R st => C st.heap ∧
    R (.ok (.ret (.ref (st.heap.push ob).objs.size))) { st with heap := (st.heap.push ob).push { cls := .type "enumerate", data := .fields #[.none, .bool false, .ref st.heap.objs.size, rawInt 0, .none, .none] } }) :=
  .of_wp fun P w A R st hyp => by
    obtain ⟨hp, gg, dd, tk, os⟩ := st
    obtain ⟨c0, hyp⟩ := hyp
    have hsub := sub_enumerate
    have q1 : ∀ {A' : Around} {E : Value → Shared → Prop} {Q : Value → Shared → Prop}, Q (.ref hp.objs.size) ⟨hp.push ob, gg, dd, tk, os⟩ → wpAny (model P w) A' (pyIter v) Q E ⟨hp, gg, dd, tk, os⟩ := fun q => B.iter P w _ _ ⟨hp, gg, dd, tk, os⟩ _ c0 q
    wp_walk using q1
    refine wpAny_stack_any fun stk => wpAny_pure ?_
    split
    · rename_i cc _ _ _ _ _
      cases (cc == Value.type "enumerate")
      all_goals
        wp_walk using q1
        exact ⟨_, rfl, hyp⟩
    · wp_walk using q1
      exact ⟨_, rfl, hyp⟩
theorem callEnum1 {P : Program} {w : World} {A : Around} {E : Value → Shared → Prop} {st : Shared} {v : Value} {ob : Obj} {C : Heap → Prop} {Q : Value → Shared → Prop} (B : Begins v ob C) (c0 : C st.heap)
    (k : ∀ h', IsEnum h' (st.heap.objs.size + 1) st.heap.objs.size 0 .none → h'.get? st.heap.objs.size = some ob → (∀ b o, st.heap.get? b = some o → h'.get? b = some o) → Q (.ref (st.heap.objs.size + 1)) { st with heap := h' }) :
    wpAny (model P w) A (call (.type "enumerate") [v]) Q E st := by
  refine callType_new F.called_enumerate (by decide) (F.typeCall_enumerate_1 _) (F.newCall_enumerate_1 _) (fun obj => F.args_object_init_2 obj _) F.entry_enumerate_new (newEnum1 B) ⟨c0, ?_⟩
  have sz : (st.heap.push ob).objs.size = st.heap.objs.size + 1 := Heap.size_push ..
  show _ ∧ _
  rw [sz]
  have en := Heap.get?_push_size (st.heap.push ob) (o := { cls := .type "enumerate", data := .fields #[.none, .bool false, .ref st.heap.objs.size, rawInt 0, .none, .none] }) rfl
  rw [sz] at en
  exact ⟨⟨_, en, rfl⟩, k _ en (Heap.get?_push_of_some _ (Heap.get?_push_size _ B.free)) fun b o x => Heap.get?_push_of_some _ (Heap.get?_push_of_some _ x)⟩
end
/-- the tuple at a, its items counted from 0, in new pairs -/
def ItE (K : PySem.W.Frag) (a : Addr) : It :=
  ⟨fun i H => ∃ (xs : List V) (x : V), SqT K H a xs ∧ xs[i]? = some x, fun i H v H' => ∃ T x, v = .ref T ∧ H T = none ∧ H' = upd H T (.tup [.int (i : Nat), x]) ∧ ∀ xs, SqT K H a xs → xs[i]? = some x, fun i H => ∃ xs : List V, SqT K H a xs ∧ xs.length = i⟩
theorem turnE {P : Program} {w : World} {K : PySem.W.Frag} {es : List Expr} {kk : Nat} {tp : Pos} (a e it : Addr) (hae : a ≠ e) (hai : a ≠ it) (hei : e ≠ it) :
    Turn P w K (.Tuple es kk tp) (ItE K a) [e, it] e (fun i h => (∃ old, IsEnum h e it ((0 : Int) + ((i : Nat) : Int)) old) ∧ h.IsTupleIter it a i) where
  mem := by simp
  obj := fun i h tn b hb => by
    obtain ⟨⟨old, q⟩, o, ho, hc, hd⟩ := tn
    rcases List.mem_cons.mp hb with z | z
    · subst z; exact ⟨_, q, fun v z => nomatch z⟩
    · rw [List.mem_singleton.mp z]; exact ⟨o, ho, fun v z => by rw [hd] at z; cases z⟩
  keep := fun i h h' tn kp => by
    obtain ⟨⟨old, q⟩, r⟩ := tn
    exact ⟨⟨old, kp e (by simp) _ q⟩, r.at fun o z => kp it (by simp) o z⟩
  item := by
    intro X e1 e2 e3 hc i pins st s H E I hf tn hg
    subst e1 e2 e3
    obtain ⟨⟨old, en⟩, ti⟩ := tn
    obtain ⟨xs, x, hq, hx⟩ := hg
    obtain ⟨its, rv, tp, _⟩ := I.tuple hq
    have he1 : e < st.heap.objs.size := Heap.lt_size en
    have hi1 : it < st.heap.objs.size := by obtain ⟨_, z, _⟩ := ti; exact Heap.lt_size z
    have hin : i < its.toArray.size := by
      obtain ⟨u, hu, _⟩ := rv.get hx
      have := (List.getElem?_eq_some_iff.mp hu).1
      simpa using this
    refine wpAny_pyNext_enum_itemC (Draws.tuple (A := X.A.in1) (show X.A.in1.handled = none from I.ok.hd hc) it a hai its.toArray) en ⟨ti, tp⟩ hin hei (by simp [hei, Ne.symm hae]) fun u h1 tk hu ho hst hT _ kp => ?_
    refine ⟨_, rfl, wpAny_letOwnedTupleGo_enum (s := { st with heap := h1, toks := tk + 1 }) ho fun h2 en2 sb => ?_⟩
    have hu' : its[i]? = some u := by simpa using hu
    obtain ⟨w, hw, rw'⟩ := rv.get hx
    have : w = u := by rw [hw] at hu'; exact Option.some.inj hu'
    subst this
    have hT2 : h2.get? st.heap.objs.size = some { cls := .type "tuple", data := .seq #[.int (0 + (i : Int)) tk, w] } := (sb.2 _ (Nat.ne_of_gt he1)).trans hT
    have i0 : (0 : Int) + (i : Int) = (i : Int) := by omega
    have new : ObjOk X.prog X.w (upd H st.heap.objs.size (.tup [.int (i : Nat), x])) h2 st.heap.objs.size (.tup [.int (i : Nat), x]) :=
      ⟨by show 2 ≤ sizeLine; decide, [.int (0 + (i : Int)) tk, w], .cons ⟨tk, by rw [i0]⟩ (.cons rw' .nil), ⟨_, hT2, rfl, _, rfl⟩⟩
    have J := I.turnedNew (ob := .tup [.int (i : Nat), x]) (t' := tk + 1) (h' := h2) (ch := [e, it]) (fun b ob hb q => (sb.2 b fun z => hb (by simp [z])).trans (kp b ob (fun z => hb (by simp [z])) (fun z => hb (by simp [z])) q)) hf (Nat.le_refl _) new
    refine ⟨.ref st.heap.objs.size, _, J, rfl, ⟨_, x, rfl, I.hok.fresh (Nat.le_refl _), rfl, fun ys hy => by rw [I.tuple_inj hy hq]; exact hx⟩, ⟨⟨w, ?_⟩, hst.1.at fun o q => (sb.2 it (Ne.symm hei)).trans q⟩, fun b hb => ?_⟩
    · have c1 : (0 : Int) + ((i + 1 : Nat) : Int) = 0 + (i : Int) + 1 := by omega
      rw [c1]; exact en2
    · have hlt : b < st.heap.objs.size := by
        rcases List.mem_cons.mp hb with z | z
        · rw [z]; exact he1
        · rw [List.mem_singleton.mp z]; exact hi1
      rw [upd_ne (Nat.ne_of_lt hlt)]
      exact (hf b hb).1
  done := by
    intro X e1 e2 e3 hc i pins st s H E I hf tn hg
    subst e1 e2 e3
    obtain ⟨⟨old, en⟩, ti⟩ := tn
    obtain ⟨xs, hq, hx⟩ := hg
    obtain ⟨its, rv, tp, _⟩ := I.tuple hq
    obtain ⟨f0, f1, f2, f3, f4, f5⟩ := hf it (by simp)
    have hn : its.toArray.size = i := by rw [List.size_toArray, ← rv.length]; exact hx
    subst hn
    exact wpAny_pyNext_enum_endD (Draws.tuple (A := X.A.in1) (show X.A.in1.handled = none from I.ok.hd hc) it a hai its.toArray) en ⟨ti, tp⟩ fun h' eb => ⟨rfl, I.turned (t' := st.toks) (fun b o hb q => eb b o hb q) f0 f1 f3 f4 f5⟩
  self := fun A i st Q E tn k => by
    obtain ⟨⟨_, en⟩, _⟩ := tn
    exact wpAny_pyIter_enum en k
def iEnT (K : PySem.W.Frag) (ta : TA) : TI := fun s H R => ta s H fun vs H1 => ∃ a xs, vs = [.ref a] ∧ SqT K H1 a xs ∧ R (ItE K a) H1
theorem pi_enT {X : Cx} {e : Expr} {ta : TA} {p pos tp : Pos} {es : List Expr} {kk : Nat} (hg : Gl X "enumerate") (hm : X.mg "enumerate" = none) (ha : PA X [e] ta) (hs : starEach [e] X.env = [(false, eval e X.env)] := by rfl) :
    PI X (.Tuple es kk tp) (.Call (.Name "enumerate" p) [e] [] pos) (iEnT X.K ta) := by
  refine ⟨fun pins st s H R I h => ?_⟩
  refine Call_ (ld_blt I hg hm boot_enumerate (PyProof.Rows.callWith_type1 (thn (ha.run pos pins st s H _ I h) fun us st1 hq => ?_) hs rfl))
  obtain ⟨vs, H1, I1, r1, a, xs, ev, hx, q⟩ := hq
  subst ev
  cases r1 with
  | cons r rr =>
    cases rr
    cases r
    obtain ⟨its, rv, tpl, _⟩ := I1.tuple hx
    refine callEnum1 (begins_tuple a its.toArray) tpl fun h' en hit kp => wpAny_pyIter_enum en ?_
    have ha1 : a < st1.heap.objs.size := by obtain ⟨o, z, _⟩ := tpl; exact Heap.lt_size z
    have I2 : Inv X pins s H1 { st1 with heap := h' } := I1.kept (t' := st1.toks) kp
    refine ⟨st1.heap.objs.size + 1, [st1.heap.objs.size + 1, st1.heap.objs.size], _, _, H1, rfl, I2, turnE a (st1.heap.objs.size + 1) st1.heap.objs.size (Nat.ne_of_lt (Nat.lt_succ_of_lt ha1)) (Nat.ne_of_lt ha1) (Nat.succ_ne_self _), ⟨⟨.none, en⟩, ⟨_, hit, rfl, rfl⟩⟩, fun b hb => ?_, q⟩
    have hle : st1.heap.objs.size ≤ b := by
      rcases List.mem_cons.mp hb with z | z
      · rw [z]; exact Nat.le_succ _
      · rw [List.mem_singleton.mp z]; exact Nat.le_refl _
    exact I1.fpOk hle (I1.hok.fresh hle)

variable {X : Cx}
/-! ### pairs -/
def pairL : Nat → List D → List D
  | _, [] => []
  | i, d :: r => .tuple [.int (i : Nat), d] :: pairL (i + 1) r
theorem pairL_len : ∀ (i : Nat) (ds : List D), (pairL i ds).length = ds.length
  | _, [] => rfl
  | i, d :: r => by simp [pairL, pairL_len (i + 1) r]
theorem pairL_at : ∀ (i : Nat) (ds : List D) (j : Nat) (d : D), ds[j]? = some d → (pairL i ds)[j]? = some (.tuple [.int ((i + j : Nat)), d])
  | _, [], _, _, h => by simp at h
  | i, e :: r, 0, d, h => by simp at h; simp [pairL, h]
  | i, e :: r, j + 1, d, h => by
    have := pairL_at (i + 1) r j d (by simpa using h)
    have c : i + 1 + j = i + (j + 1) := by omega
    rw [c] at this
    simpa [pairL] using this
def zipL : List D → List D → List D
  | x :: xs, y :: ys => .tuple [x, y] :: zipL xs ys
  | _, _ => []
theorem zipL_len : ∀ (xs ys : List D), (zipL xs ys).length = min xs.length ys.length
  | [], _ => by simp [zipL]
  | _ :: _, [] => by simp [zipL]
  | x :: xs, y :: ys => by (simp [zipL, zipL_len xs ys])
theorem zipL_at : ∀ (xs ys : List D) (j : Nat) (x y : D), xs[j]? = some x → ys[j]? = some y → (zipL xs ys)[j]? = some (.tuple [x, y])
  | [], _, _, _, _, h, _ => by simp at h
  | _ :: _, [], _, _, _, _, h => by simp at h
  | a :: xs, b :: ys, 0, x, y, h1, h2 => by simp at h1 h2; simp [zipL, h1, h2]
  | a :: xs, b :: ys, j + 1, x, y, h1, h2 => by
    have := zipL_at xs ys j x y (by simpa using h1) (by simpa using h2)
    simpa [zipL] using this
/-- a new pair is a tuple that stands -/
theorem newPair {K : PySem.W.Frag} {F H : Hp} {T : Addr} {x y : V} {d e : D} (fh : Same F H) (nT : H T = none) (hx : Dp K F x d) (hy : Dp K F y e) :
    ∃ F', Dp K F' (.ref T) (.tuple [d, e]) ∧ Same F' (upd H T (.tup [x, y])) ∧ Stp Non F H F' (upd H T (.tup [x, y])) :=
  ⟨_, .tup (SqT.of upd_same) (dpUpd (.cons hx (.cons hy .nil)) (nF fh nT)), sameLaid fh nT, Stp.laid nT fh⟩
theorem itdPair {K : PySem.W.Frag} {F0 : Hp} {J : It} {xs : List V} {ds : List D} {P : Hp → Prop} (hp : DpAll K F0 xs ds) (hP : ∀ H, Same F0 H → P H) (w : Walk J xs.length P (YPair (fun i => some (.int (i : Nat))) fun i => xs[i]?)) : Itd K F0 J (pairL 0 ds) where
  go := fun i H h hi => w.goes i H (by rw [pairL_len] at hi; rw [dpLen hp]; exact hi) (hP H h)
  stop := fun H h => by rw [pairL_len, ← dpLen hp]; exact w.stops H (hP H h)
  yld := fun i F H x H' h1 h2 hi y => by
    rw [pairL_len] at hi
    obtain ⟨T, a, b, e1, e2, e3, e4, e5⟩ := w.yields i H x H' (by rw [dpLen hp]; exact hi) (hP H (h1.trans h2)) y
    obtain ⟨d, hd, q⟩ := dpAtV hp e5
    have ea : V.int (i : Nat) = a := Option.some.inj e4
    subst e1 e3 ea
    obtain ⟨F', a1, a2, a3⟩ := newPair h2 e2 (Dp.int (i : Nat)) (dpMono h1 _ _ q)
    refine ⟨F', _, pairL_at 0 ds i d hd, ?_, a2, a3⟩
    rw [Nat.zero_add]
    exact a1
theorem itdZip {K : PySem.W.Frag} {F0 : Hp} {J : It} {n : Nat} {xs ys : List V} {ds es : List D} {P : Hp → Prop} (hn : n = min xs.length ys.length) (hp : DpAll K F0 xs ds) (hq : DpAll K F0 ys es) (hP : ∀ H, Same F0 H → P H) (w : Walk J n P (YPair (fun i => xs[i]?) fun i => ys[i]?)) : Itd K F0 J (zipL ds es) := by
  have hl : (zipL ds es).length = n := by rw [zipL_len, hn, dpLen hp, dpLen hq]
  refine ⟨fun i H h hi => w.goes i H (by rw [← hl]; exact hi) (hP H h), fun H h => by rw [hl]; exact w.stops H (hP H h), fun i F H x H' h1 h2 hi y => ?_⟩
  obtain ⟨T, a, b, e1, e2, e3, e4, e5⟩ := w.yields i H x H' (by rw [← hl]; exact hi) (hP H (h1.trans h2)) y
  obtain ⟨d, hd, q1⟩ := dpAtV hp e4
  obtain ⟨e, he, q2⟩ := dpAtV hq e5
  subst e1 e3
  obtain ⟨F', a1, a2, a3⟩ := newPair h2 e2 (dpMono h1 _ _ q1) (dpMono h1 _ _ q2)
  exact ⟨F', _, zipL_at ds es i d e hd he, a1, a2, a3⟩
theorem walkE {K : PySem.W.Frag} {a : Addr} {xs : List V} : Walk (ItE K a) xs.length (fun H => SqT K H a xs) (YPair (fun i => some (.int (i : Nat))) fun i => xs[i]?) := by
  refine ⟨fun i _ hi q => ⟨xs, xs[i], q, by simp [hi]⟩, fun _ q => ⟨xs, q, rfl⟩, fun i H v H' _ q y => ?_⟩
  obtain ⟨T, x, h1, h2, h3, h4⟩ := y
  exact ⟨T, .int (i : Nat), x, h1, h2, h3, rfl, h4 xs q⟩
theorem walkZ {K : PySem.W.Frag} {a b : Addr} {xs ys : List V} {n : Nat} (hn : n = min xs.length ys.length) : Walk (RZ.ItzT K a b) n (fun H => SqT K H a xs ∧ SqT K H b ys) (YPair (fun i => xs[i]?) (fun i => ys[i]?)) := by
  subst hn
  refine ⟨fun i _ hi q => ?_, fun _ q => ⟨xs, ys, q.1, q.2, by omega⟩, fun i H v H' _ q y => ?_⟩
  · have h1 : i < xs.length := by omega
    have h2 : i < ys.length := by omega
    exact ⟨xs, ys, xs[i], ys[i], q.1, q.2, by simp [h1], by simp [h2]⟩
  · obtain ⟨T, x, z, h1, h2, h3, h4, h5⟩ := y
    exact ⟨T, x, z, h1, h2, h3, h4 xs q.1, h5 ys q.2⟩
def iEnum' (f : Fa) : Fa := fun g => match f g with
  | some ([d], g') => (seqD d).map fun ds => (pairL 0 ds, g')
  | _ => none
theorem dpOne {K : PySem.W.Frag} {F : Hp} {vs : List V} {d : D} (h : DpAll K F vs [d]) : ∃ v, vs = [v] ∧ Dp K F v d := by
  cases h with
  | cons h1 h2 => cases h2; exact ⟨_, rfl, h1⟩
theorem dpTwo {K : PySem.W.Frag} {F : Hp} {vs : List V} {d e : D} (h : DpAll K F vs [d, e]) : ∃ v w, vs = [v, w] ∧ Dp K F v d ∧ Dp K F w e := by
  cases h with
  | cons h1 h2 =>
    obtain ⟨w, rfl, q⟩ := dpOne h2
    exact ⟨_, w, rfl, h1, q⟩
theorem di_enum {a : Expr} {p pos tp : Pos} {es : List Expr} {kk : Nat} {f : Fa} (hg : Gl X "enumerate") (hm : X.mg "enumerate" = none) (ha : DA X [a] f) (hs : starEach [a] X.env = [(false, eval a X.env)] := by rfl) :
    DI X (.Tuple es kk tp) (.Call (.Name "enumerate" p) [a] [] pos) (iEnum' f) := piMono (piOr (pi_enum hg hm ha hs) (pi_enT hg hm ha hs)) fun s H R ⟨F, g, ds, g', r, e, k⟩ => by
  unfold iEnum' at e
  split at e
  · rename_i d g1 q
    cases d with
    | list xs =>
      cases e
      refine .inl ⟨F, g, _, _, r, q, fun vs F1 H1 p1 r1 t1 m1 => ?_⟩
      obtain ⟨v, rfl, h⟩ := dpOne p1
      cases h with
      | lst hs ha => exact ⟨_, _, rfl, r1.fh.seq hs, k _ F1 H1 r1 t1 m1 (itdPair ha (fun H q => q.seq hs) walk_enum)⟩
    | tuple xs =>
      cases e
      refine .inr ⟨F, g, _, _, r, q, fun vs F1 H1 p1 r1 t1 m1 => ?_⟩
      obtain ⟨v, rfl, h⟩ := dpOne p1
      cases h with
      | tup hs ha => exact ⟨_, _, rfl, Same.tupS r1.fh hs, k _ F1 H1 r1 t1 m1 (itdPair ha (fun H q => Same.tupS q hs) walkE)⟩
    | _ => cases e
  · cases e
def iZip2 (f : Fa) : Fa := fun g => match f g with
  | some ([.tuple xs, .tuple ys], g') => some (zipL xs ys, g')
  | some ([.list xs, .list ys], g') => some (zipL xs ys, g')
  | _ => none
theorem di_zip {a b : Expr} {p pos tp : Pos} {es : List Expr} {kk : Nat} {f : Fa} (hg : Gl X "zip") (hm : X.mg "zip" = none) (ha : DA X [a, b] f)
    (hs : starEach [a, b] X.env = (false, eval a X.env) :: starEach [b] X.env := by rfl) (hpl : (backTo pos (starEach [b] X.env)).any (·.1) = false := by rfl) :
    DI X (.Tuple es kk tp) (.Call (.Name "zip" p) [a, b] [] pos) (iZip2 f) := piMono (RZ.pi_zipA hg hm ha hs hpl) fun s H R ⟨F, g, ds, g', r, e, k⟩ => by
  unfold iZip2 at e
  split at e
  · rename_i xs ys g1 q
    cases e
    refine ⟨F, g, _, _, r, q, fun vs F1 H1 p1 r1 t1 m1 => ?_⟩
    obtain ⟨v, w, rfl, h1, h2⟩ := dpTwo p1
    cases h1 with
    | tup hs ha =>
      cases h2 with
      | tup hs2 ha2 => exact ⟨_, _, _, _, rfl, .inr ⟨Same.tupS r1.fh hs, Same.tupS r1.fh hs2, k _ F1 H1 r1 t1 m1 (itdZip rfl ha ha2 (fun H q => ⟨Same.tupS q hs, Same.tupS q hs2⟩) (walkZ rfl))⟩⟩
  · rename_i xs ys g1 q
    cases e
    refine ⟨F, g, _, _, r, q, fun vs F1 H1 p1 r1 t1 m1 => ?_⟩
    obtain ⟨v, w, rfl, h1, h2⟩ := dpTwo p1
    cases h1 with
    | lst hs ha =>
      cases h2 with
      | lst hs2 ha2 => exact ⟨_, _, _, _, rfl, .inl ⟨r1.fh.seq hs, r1.fh.seq hs2, k _ F1 H1 r1 t1 m1 (itdZip rfl ha ha2 (fun H q => ⟨q.seq hs, q.seq hs2⟩) (walk_zip rfl))⟩⟩
  · cases e

/-! ### for -/
def forGo (t : Fg) (b : Fs) : List D → G → Option Out
  | [], g => some (.nx g)
  | d :: r, g => (t d g).bind fun g1 => (b g1).bind fun o => match o with
    | .nx g2 => forGo t b r g2
    | .ct g2 => forGo t b r g2
    | .bk g2 => some (.nx g2)
    | .ret x g2 => some (.ret x g2)
def sFor (f : Fa) (t : Fg) (b : Fs) : Fs := fun g => (f g).bind fun p => forGo t b p.1 p.2
theorem dropCons {ds : List D} {i : Nat} {d : D} (h : ds[i]? = some d) : ds.drop i = d :: ds.drop (i + 1) := by
  obtain ⟨hi, e⟩ := List.getElem?_eq_some_iff.mp h
  rw [List.drop_eq_getElem_cons hi, e]
theorem ds_for {tg iter : Expr} {body : List Stmt} {pos : Pos} {f : Fa} {t : Fg} {ws : List Nat} {b : Fs} (hp : PassesOwn (model X.prog X.w) X.A X.env X.xe) (hc : X.calm = true) (hi : DI X tg iter f) (hg : DG X tg t ws) (hb : DSs X body b)
    (hs : ∀ x, foldedSetIterable iter X.env x = pure x := by intro _; rfl) : DS X (.For tg iter body [] pos) (sFor f t b) := psMono (ps_for hp hc hi hg hb hs) fun D s H ⟨F, g, o, r, e, k⟩ => by
  unfold sFor at e
  cases q : f g with
  | none => rw [q] at e; cases e
  | some p =>
    obtain ⟨ds, g1⟩ := p
    rw [q] at e
    have e : forGo t b ds g1 = some o := e
    refine ⟨F, g, ds, g1, r, q, fun J F1 H1 r1 t1 m1 hJ => ?_⟩
    have tr1 := Tr.of r1 t1 m1
    refine ⟨fun i m s2 H2 => m = ds.length - i ∧ i ≤ ds.length ∧ ∃ F2 g2, Tr X.K F g s H F2 g2 s2 H2 ∧ Same F1 F2 ∧ forGo t b (ds.drop i) g2 = some o, ⟨ds.length, by simp, Nat.zero_le _, F1, g1, tr1, .refl _, by rw [List.drop_zero]; exact e⟩, ?_⟩
    rintro i m s2 H2 ⟨rfl, hle, F2, g2, tr2, sm2, w⟩
    by_cases hlt : i < ds.length
    · obtain ⟨d, hd⟩ : ∃ d, ds[i]? = some d := ⟨ds[i], List.getElem?_eq_getElem hlt⟩
      rw [dropCons hd] at w
      unfold forGo at w
      cases q1 : t d g2 with
      | none => rw [q1] at w; cases w
      | some g3 =>
        rw [q1] at w
        have w : (b g3).bind _ = some o := w
        cases q2 : b g3 with
        | none => rw [q2] at w; cases w
        | some o3 =>
          rw [q2] at w
          -- one turn: the item, the target, the body
          have step : ∀ (N : Sg → Hp → Prop) (bk : Sg → Hp → Prop) (rt : VK), (∀ F3 s3 H3, Tr X.K F g s H F3 g3 s3 H3 → Same F1 F3 → endS X.K F3 g3 s3 H3 { nx := N, rt := rt, bk := bk, ct := N } o3) → ∀ x H', J.yld i H2 x H' → tG X.K t ws x s2 H' fun s3 H3 => tS X.K b { nx := N, rt := rt, bk := bk, ct := N } s3 H3 := fun N bk rt hN x H' y => by
            obtain ⟨F', d', hd', hx, fh, st⟩ := hJ.yld i F2 H2 x H' sm2 tr2.rep.fh hlt y
            rw [hd] at hd'; cases hd'
            have r' := tr2.rep.stepN st fh
            have tr' : Tr X.K F g s H F' g2 s2 H' := tr2.trans ⟨r', st.weak fun _ z => z.elim, fun _ z => .inl z⟩
            exact ⟨F', g2, d, g3, r', hx, q1, fun F3 s3 H3 t3 _ _ => ⟨F3, g3, o3, t3.rep, q2, hN F3 s3 H3 (tr'.trans t3) ((sm2.trans st.fs).trans t3.stp.fs)⟩⟩
          refine .inr ⟨hJ.go i H2 (sm2.trans tr2.rep.fh) hlt, ?_⟩
          cases o3 with
          | nx g4 =>
            have w : forGo t b (ds.drop (i + 1)) g4 = some o := w
            refine ⟨fun s4 H4 => ∃ F4, Tr X.K F g s H F4 g4 s4 H4 ∧ Same F1 F4, fun s4 H4 ⟨F4, t4, sm4⟩ => ⟨ds.length - (i + 1), by omega, rfl, hlt, F4, g4, t4, sm4, w⟩, step _ _ _ fun F3 s3 H3 t3 sm3 F4 s4 H4 t4 => ⟨F4, t3.trans t4, sm3.trans t4.stp.fs⟩⟩
          | ct g4 =>
            have w : forGo t b (ds.drop (i + 1)) g4 = some o := w
            refine ⟨fun s4 H4 => ∃ F4, Tr X.K F g s H F4 g4 s4 H4 ∧ Same F1 F4, fun s4 H4 ⟨F4, t4, sm4⟩ => ⟨ds.length - (i + 1), by omega, rfl, hlt, F4, g4, t4, sm4, w⟩, step _ _ _ fun F3 s3 H3 t3 sm3 F4 s4 H4 t4 => ⟨F4, t3.trans t4, sm3.trans t4.stp.fs⟩⟩
          | bk g4 =>
            cases w
            exact ⟨fun _ _ => False, fun _ _ z => z.elim, step _ _ _ fun F3 s3 H3 t3 sm3 F4 s4 H4 t4 => k F4 s4 H4 (t3.trans t4)⟩
          | ret x g4 =>
            cases w
            exact ⟨fun _ _ => False, fun _ _ z => z.elim, step _ _ _ fun F3 s3 H3 t3 sm3 v F4 s4 H4 a n b t4 => k v F4 s4 H4 a n (b.back t3) (t3.trans t4)⟩
    · have hi : i = ds.length := by omega
      subst hi
      rw [List.drop_length] at w
      cases w
      exact .inl ⟨hJ.stop H2 (sm2.trans tr2.rep.fh), k F2 s2 H2 tr2⟩
end Dl
set_option Elab.async false
set_option linter.all false
set_option maxRecDepth 100000
namespace Dl
open PySem PySem.Spec PyProof.Rows L2
variable {X : Cx}

/-! ### comprehensions -/
def wipeG (g : G) : List Nat → G
  | [] => g
  | v :: vs => (wipeG g vs).set v .no
/-- the block's own slots as they were ahead of it -/
def backG (g1 g2 : G) : List Nat → G
  | [] => g2
  | v :: vs => (backG g1 g2 vs).set v (g1.getD v .no)
def okW (g : G) (vs : List Nat) : Bool := vs.all fun i => match g[i]? with
  | some (.own _ _) => false
  | _ => true
def lcGo (t : Fg) (c : Ft) (f : Fe) (vs : List Nat) : List D → G → Option (List D × G)
  | [], g => some ([], g)
  | d :: r, g => (t d g).bind fun g1 => (c g1).bind fun p => if p.1 = true then (f p.2).bind fun q => (lcGo t c f vs r (wipeG q.2 vs)).map fun w => (q.1 :: w.1, w.2) else lcGo t c f vs r (wipeG p.2 vs)
def vLc (fi : Fa) (t : Fg) (c : Ft) (f : Fe) (vs : List Nat) : Fv := fun g => (fi g).bind fun p => if okW p.2 vs = true then (lcGo t c f vs p.1 (wipeG p.2 vs)).bind fun q => if q.1.length ≤ 1000000 then some (.own none q.1, backG p.2 q.2 vs) else none else none

theorem wipeG_len (g : G) : ∀ vs, (wipeG g vs).length = g.length
  | [] => rfl
  | v :: vs => by simp [wipeG, wipeG_len g vs]
theorem wipeG_at (g : G) : ∀ (vs : List Nat) (i : Nat), i ∉ vs → (wipeG g vs)[i]? = g[i]?
  | [], _, _ => rfl
  | v :: vs, i, h => by
    have h1 : v ≠ i := fun e => h (by simp [e])
    rw [wipeG, List.getElem?_set_ne h1]
    exact wipeG_at g vs i fun z => h (List.mem_cons_of_mem _ z)
theorem wipeG_in (g : G) : ∀ (vs : List Nat) (i : Nat) (x : Sl), i ∈ vs → (wipeG g vs)[i]? = some x → x = .no
  | [], _, _, h, _ => by simp at h
  | v :: vs, i, x, h, e => by
    by_cases h1 : v = i
    · subst h1
      rw [wipeG] at e
      by_cases hv : v < (wipeG g vs).length
      · rw [List.getElem?_set_self hv] at e; cases e; rfl
      · rw [List.getElem?_eq_none (by simpa using hv)] at e; cases e
    · rw [wipeG, List.getElem?_set_ne h1] at e
      exact wipeG_in g vs i x ((List.mem_cons.mp h).resolve_left fun z => h1 z.symm) e
theorem wipeMo (g : G) (vs : List Nat) : Mo g (wipeG g vs) := fun i t ds e => by
  by_cases h : i ∈ vs
  · cases wipeG_in g vs i _ h e
  · rw [wipeG_at g vs i h] at e; exact ⟨ds, e⟩
theorem Rep.wipe {K : PySem.W.Frag} {F H : Hp} {g : G} {s : Sg} (r : Rep K F g s H) : ∀ vs : List Nat, Rep K F (wipeG g vs) (L2.wipe s vs) H
  | [] => r
  | v :: vs => (r.wipe vs).put v .no none trivial (fun _ _ _ e => nomatch e)
theorem ownWipe {g : G} {s : Sg} {vs : List Nat} {b : Addr} (h : OwnAt (wipeG g vs) (L2.wipe s vs) b) : OwnAt g s b := by
  obtain ⟨i, t, ds, e, q⟩ := h
  by_cases hi : i ∈ vs
  · cases wipeG_in g vs i _ hi e
  · rw [wipeG_at g vs i hi] at e
    exact ⟨i, t, ds, e, (wipe_some q).1⟩
theorem backG_len (g1 g2 : G) : ∀ vs, (backG g1 g2 vs).length = g2.length
  | [] => rfl
  | v :: vs => by simp [backG, backG_len g1 g2 vs]
theorem backG_at (g1 g2 : G) : ∀ (vs : List Nat) (i : Nat), i ∉ vs → (backG g1 g2 vs)[i]? = g2[i]?
  | [], _, _ => rfl
  | v :: vs, i, h => by
    have h1 : v ≠ i := fun e => h (by simp [e])
    rw [backG, List.getElem?_set_ne h1]
    exact backG_at g1 g2 vs i fun z => h (List.mem_cons_of_mem _ z)
theorem backG_in (g1 g2 : G) : ∀ (vs : List Nat) (i : Nat) (x : Sl), i ∈ vs → (backG g1 g2 vs)[i]? = some x → x = g1.getD i .no
  | [], _, _, h, _ => by simp at h
  | v :: vs, i, x, h, e => by
    by_cases h1 : v = i
    · subst h1
      rw [backG] at e
      by_cases hv : v < (backG g1 g2 vs).length
      · rw [List.getElem?_set_self hv] at e; cases e; rfl
      · rw [List.getElem?_eq_none (by simpa using hv)] at e; cases e
    · rw [backG, List.getElem?_set_ne h1] at e
      exact backG_in g1 g2 vs i x ((List.mem_cons.mp h).resolve_left fun z => h1 z.symm) e
theorem okW_at {g : G} {vs : List Nat} (h : okW g vs = true) {i : Nat} (hi : i ∈ vs) : ∀ t ds, g[i]? ≠ some (.own t ds) := fun t ds e => by
  have := List.all_eq_true.mp h i hi
  rw [e] at this
  cases this
/-- the frame's slots behind the block -/
theorem Rep.back {K : PySem.W.Frag} {F1 H1 F2 H2 : Hp} {g1 g2 : G} {s : Sg} {vs : List Nat} (r1 : Rep K F1 g1 s H1) (r2 : Rep K F2 g2 (L2.wipe s vs) H2) (hf : Same F1 F2) (ok : okW g1 vs = true) : Rep K F2 (backG g1 g2 vs) s H2 := by
  have len : g2.length = s.length := by rw [r2.len, wipe_length]
  have own : ∀ i t ds, (backG g1 g2 vs)[i]? = some (.own t ds) → i ∉ vs ∧ g2[i]? = some (.own t ds) := fun i t ds e => by
    by_cases hi : i ∈ vs
    · have z := backG_in g1 g2 vs i _ hi e
      have nx := okW_at ok hi
      rw [List.getD_eq_getElem?_getD] at z
      cases q : g1[i]? with
      | none => rw [q] at z; cases z
      | some y => rw [q] at z; subst z; exact absurd q (nx t ds)
    · rw [backG_at g1 g2 vs i hi] at e; exact ⟨hi, e⟩
  refine ⟨r2.fh, by rw [backG_len]; exact len, fun i x o hx ho => ?_, fun i j a t u ds es h1 h2 h3 h4 => ?_⟩
  · by_cases hi : i ∈ vs
    · have z := backG_in g1 g2 vs i x hi hx
      rw [List.getD_eq_getElem?_getD] at z
      cases q : g1[i]? with
      | none => rw [q] at z; subst z; trivial
      | some y =>
        rw [q] at z
        subst z
        have hr := r1.sl i x o q ho
        cases x with
        | no => trivial
        | v d =>
          obtain ⟨w, ew, hw⟩ := hr
          exact ⟨w, ew, dpMono hf _ _ hw⟩
        | own t ds => exact absurd q (okW_at ok hi t ds)
    · rw [backG_at g1 g2 vs i hi] at hx
      exact r2.sl i x o hx (by rw [wipe_out hi]; exact ho)
  · obtain ⟨n1, e1⟩ := own i t ds h1
    obtain ⟨n2, e2⟩ := own j u es h2
    exact r2.uq i j a t u ds es e1 e2 (by rw [wipe_out n1]; exact h3) (by rw [wipe_out n2]; exact h4)
theorem backMo {g1 g2 : G} {vs : List Nat} (ok : okW g1 vs = true) (m : Mo (wipeG g1 vs) g2) : Mo g1 (backG g1 g2 vs) := fun i t ds e => by
  by_cases hi : i ∈ vs
  · have z := backG_in g1 g2 vs i _ hi e
    rw [List.getD_eq_getElem?_getD] at z
    cases q : g1[i]? with
    | none => rw [q] at z; cases z
    | some y => rw [q] at z; subst z; exact absurd q (okW_at ok hi t ds)
  · rw [backG_at g1 g2 vs i hi] at e
    obtain ⟨es, h⟩ := m i t ds e
    rw [wipeG_at g1 vs i hi] at h
    exact ⟨es, h⟩
theorem chgWipe {s s' : Sg} {ws vs : List Nat} (c : Chg ws (L2.wipe s vs) s') (h : ∀ i ∈ ws, i ∈ vs) : L2.wipe s' vs = L2.wipe s vs := by
  apply List.ext_getElem?
  intro i
  by_cases hi : i ∈ vs
  · have key : ∀ (t : Sg) (us : List Nat), i ∈ us → (L2.wipe t us)[i]? = if i < t.length then some none else none := by
      intro t us
      induction us with
      | nil => intro hm; simp at hm
      | cons u us ih =>
        intro hm
        unfold L2.wipe
        by_cases hu : u = i
        · subst hu
          by_cases hl : u < t.length
          · rw [if_pos hl, List.getElem?_set_self (by rw [wipe_length]; exact hl)]
          · rw [if_neg hl, List.getElem?_eq_none (by rw [List.length_set, wipe_length]; omega)]
        · rw [List.getElem?_set_ne hu]
          exact ih ((List.mem_cons.mp hm).resolve_left fun z => hu z.symm)
    rw [key s' vs hi, key s vs hi, c.len, wipe_length]
  · rw [wipe_out hi, c.at' i fun z => hi (h i z)]

theorem appNew {K : PySem.W.Frag} {F H : Hp} {g : G} {s : Sg} {p : Addr} {xs : List V} {y : V} (r : Rep K F g s H) (fp : F p = none) (n : ¬ OwnAt g s p) (hp : H p = some (.lst xs)) :
    Rep K F g s (upd H p (.lst (xs ++ [y]))) ∧ Stp (fun b => b = p) F H F (upd H p (.lst (xs ++ [y]))) := by
  have t1 : Stp (fun b => b = p) F H F (upd H p (.lst (xs ++ [y]))) := ⟨.refl _, fun b o e n => by rw [upd_ne n]; exact e, fun b e e' => absurd e e', fun b e => by
    by_cases z : b = p
    · rw [z, upd_same]; simp
    · rw [upd_ne z]; exact e⟩
  exact ⟨r.step t1 (fun b hb z => n (by rw [← z]; exact hb)) fun b u e => by rw [upd_ne (ne_of_none e fp)]; exact r.fh b u e, t1⟩

/-- the reading of a comprehension, by data -/
theorem tLc_ofX {K : PySem.W.Frag} {wi : TI} {t : Fg} {ws : List Nat} {c : Ft} {f : Fe} {vs : List Nat} (hw : ∀ i ∈ ws, i ∈ vs) {s : Sg} {F H : Hp} {g g1 g' : G} {ds : List D} {x : Sl} {Q : VK}
    (hwi : ∀ R : It → Hp → Prop, (∀ J F' H', Rep K F' g1 s H' → Stp (OwnAt g s) F H F' H' → Mo g g1 → Itd K F' J ds → R J H') → wi s H R) (r : Rep K F g s H) (e : vLc (fun _ => some (ds, g1)) t c f vs g = some (x, g'))
    (k : ∀ v F' H', RepS K F' H' x (some v) → (∀ t ds, x = .own t ds → t = none ∧ ∃ a, v = .ref a ∧ H a = none) → Rep K F' g' s H' → Stp (OwnAt g s) F H F' H' → Mo g g' → Q v H') : tLc wi (tG K t ws) (tT K c) (tD K f) vs s H Q := by
  unfold vLc at e
  simp only [Option.bind_some] at e
  split at e
  · rename_i ok
    cases q2 : lcGo t c f vs ds (wipeG g1 vs) with
    | none => rw [q2] at e; cases e
    | some p2 =>
      obtain ⟨ys, gE⟩ := p2
      rw [q2] at e
      simp only [Option.bind_some] at e
      split at e
      · rename_i hlen
        cases e
        refine hwi _ fun J F1 H1 r1 t1 m1 hJ A nA => ?_
        have h0A : H A = none := by
          cases z : H A with
          | none => rfl
          | some o => exact absurd nA (t1.dom A (by rw [z]; simp))
        have nOwn : ¬ OwnAt g1 s A := fun z => by
          obtain ⟨xs, hx, _⟩ := r1.ownSome z
          rw [nA] at hx; cases hx
        -- what is true at each turn
        refine ⟨fun i m H2 => m = ds.length - i ∧ i ≤ ds.length ∧ ∃ F2 g2 acc accV rest, Rep K F2 g2 (L2.wipe s vs) H2 ∧ Same F1 F2 ∧ F2 A = none ∧ H2 A = some (.lst accV) ∧ DpAll K F2 accV acc ∧ Stp (OwnAt g1 s) F1 H1 F2 H2 ∧ Mo (wipeG g1 vs) g2 ∧ lcGo t c f vs (ds.drop i) g2 = some (rest, gE) ∧ acc ++ rest = ys,
          ⟨ds.length, by simp, Nat.zero_le _, F1, wipeG g1 vs, [], [], ys, (r1.wipe vs).stepN (Stp.made nA) (sameMade r1.fh nA), .refl _, nF r1.fh nA, upd_same, .nil, Stp.made nA, Mo.refl, by rw [List.drop_zero]; exact q2, rfl⟩, ?_⟩
        rintro i m H2 ⟨rfl, hle, F2, g2, acc, accV, rest, r2, sm2, fA, hA, hac, st2, mo2, w, hsum⟩
        have nOwn2 : ∀ {g3 : G} {s3 : Sg}, (∀ b, OwnAt g3 s3 b → OwnAt g2 (L2.wipe s vs) b ∨ H2 b = none) → ¬ OwnAt g3 s3 A := fun {g3 s3} hh z => by
          rcases hh A z with z | z
          · obtain ⟨j, tg, es, e1, e2⟩ := z
            obtain ⟨es', e3⟩ := mo2 j tg es e1
            exact nOwn (ownWipe ⟨j, tg, es', e3, e2⟩)
          · rw [hA] at z; cases z
        by_cases hlt : i < ds.length
        · obtain ⟨d, hd⟩ : ∃ d, ds[i]? = some d := ⟨ds[i], List.getElem?_eq_getElem hlt⟩
          rw [dropCons hd] at w
          unfold lcGo at w
          cases q3 : t d g2 with
          | none => rw [q3] at w; cases w
          | some g3 =>
            rw [q3] at w
            have w : (c g3).bind _ = some (rest, gE) := w
            cases q4 : c g3 with
            | none => rw [q4] at w; cases w
            | some p4 =>
              obtain ⟨cb, g4⟩ := p4
              rw [q4] at w
              refine .inr ⟨hJ.go i H2 (sm2.trans r2.fh) hlt, fun H5 => ∃ F2 g2 acc accV rest, Rep K F2 g2 (L2.wipe s vs) H5 ∧ Same F1 F2 ∧ F2 A = none ∧ H5 A = some (.lst accV) ∧ DpAll K F2 accV acc ∧ Stp (OwnAt g1 s) F1 H1 F2 H5 ∧ Mo (wipeG g1 vs) g2 ∧ lcGo t c f vs (ds.drop (i + 1)) g2 = some (rest, gE) ∧ acc ++ rest = ys, fun H5 hN => ⟨ds.length - (i + 1), by omega, rfl, hlt, hN⟩, fun x H' y => ?_⟩
              obtain ⟨F', d', hd', hx, fh, st⟩ := hJ.yld i F2 H2 x H' sm2 r2.fh hlt y
              rw [hd] at hd'; cases hd'
              have r' := r2.stepN st fh
              refine ⟨F', g2, d, g3, r', hx, q3, fun F3 s3 H3 t3 m3 c3 => ⟨chgWipe c3 hw, F3, g3, cb, g4, t3.rep, q4, fun F4 H4 r4 st4 m4 => ?_⟩⟩
              have tr : Tr K F2 g2 (L2.wipe s vs) H2 F4 g4 s3 H4 := (Tr.trans ⟨r', st.weak fun _ z => z.elim, fun _ z => .inl z⟩ t3).trans (Tr.of r4 st4 m4)
              have moT : Mo (wipeG g1 vs) g4 := (mo2.trans m3).trans m4
              have keepA : ∀ {F9 H9 : Hp} {g9 : G}, Tr K F2 g2 (L2.wipe s vs) H2 F9 g9 s3 H9 → H9 A = some (.lst accV) ∧ F9 A = none := fun {F9 H9 g9} t9 => by
                have n2 : ¬ OwnAt g2 (L2.wipe s vs) A := nOwn2 fun _ z => .inl z
                refine ⟨t9.stp.keep A _ hA n2, ?_⟩
                cases z : F9 A with
                | none => rfl
                | some u =>
                  rcases t9.stp.fresh A fA (by rw [z]; simp) with z2 | z2
                  · rw [hA] at z2; cases z2
                  · exact absurd z2 n2
              have stAll : ∀ {F9 H9 : Hp} {g9 : G}, Tr K F2 g2 (L2.wipe s vs) H2 F9 g9 s3 H9 → Stp (OwnAt g1 s) F1 H1 F9 H9 := fun {F9 H9 g9} t9 => st2.trans t9.stp fun b z => by
                obtain ⟨j, tg, es, e1, e2⟩ := z
                obtain ⟨es', e3⟩ := mo2 j tg es e1
                exact .inl (ownWipe ⟨j, tg, es', e3, e2⟩)
              have wp : ∀ {F9 H9 : Hp} {g9 : G}, Rep K F9 g9 s3 H9 → Rep K F9 (wipeG g9 vs) (L2.wipe s vs) H9 := fun {F9 H9 g9} r9 => by
                have := r9.wipe vs
                rwa [chgWipe c3 hw] at this
              cases cb with
              | true =>
                refine iteT ?_
                have w : (f g4).bind _ = some (rest, gE) := w
                cases q5 : f g4 with
                | none => rw [q5] at w; cases w
                | some p5 =>
                  obtain ⟨yd, g5⟩ := p5
                  rw [q5] at w
                  have w : (lcGo t c f vs (ds.drop (i + 1)) (wipeG g5 vs)).map _ = some (rest, gE) := w
                  cases q6 : lcGo t c f vs (ds.drop (i + 1)) (wipeG g5 vs) with
                  | none => rw [q6] at w; cases w
                  | some p6 =>
                    obtain ⟨rs, g6⟩ := p6
                    rw [q6] at w
                    cases w
                    refine ⟨F4, g4, yd, g5, r4, q5, fun yv F5 H5 hy r5 st5 m5 => ?_⟩
                    have tr5 := tr.trans (Tr.of r5 st5 m5)
                    obtain ⟨hA5, fA5⟩ := keepA tr5
                    refine ⟨accV, hA5, ?_, ?_⟩
                    · rw [dpLen hac]
                      have : acc.length < ys.length := by rw [← hsum]; simp
                      exact Nat.lt_of_lt_of_le this (Nat.le_trans hlen million)
                    · obtain ⟨ra, sa⟩ := appNew (y := yv) r5 fA5 (nOwn2 tr5.own) hA5
                      refine ⟨F5, wipeG g5 vs, acc ++ [yd], accV ++ [yv], rs, wp ra, sm2.trans tr5.stp.fs, fA5, upd_same, dpApp (dpMonos tr5.stp.fs _ _ hac) (.cons hy .nil), ?_, (moT.trans m5).trans (wipeMo g5 vs), q6, by rw [← hsum]; simp⟩
                      exact (stAll tr5).trans sa fun b z => .inr (by rw [z]; exact nA)
              | false =>
                refine iteF ?_
                have w : lcGo t c f vs (ds.drop (i + 1)) (wipeG g4 vs) = some (rest, gE) := w
                obtain ⟨hA5, fA5⟩ := keepA tr
                exact ⟨F4, wipeG g4 vs, acc, accV, rest, wp r4, sm2.trans tr.stp.fs, fA5, hA5, dpMonos tr.stp.fs _ _ hac, stAll tr, moT.trans (wipeMo g4 vs), w, hsum⟩
        · have hi : i = ds.length := by omega
          subst hi
          rw [List.drop_length] at w
          cases w
          rw [List.append_nil] at hsum
          subst hsum
          refine .inl ⟨hJ.stop H2 (sm2.trans r2.fh), k (.ref A) F2 H2 ⟨A, accV, rfl, fA, hA, hac, fun b e => nomatch e⟩ (fun tg es z => ?_) (r1.back r2 sm2 ok) (t1.two m1 st2) (m1.trans (backMo ok mo2))⟩
          cases z
          exact ⟨rfl, A, rfl, h0A⟩
      · cases e
  · cases e
theorem tLc_of {K : PySem.W.Frag} {fi : Fa} {t : Fg} {ws : List Nat} {c : Ft} {f : Fe} {vs : List Nat} (hw : ∀ i ∈ ws, i ∈ vs) {s : Sg} {H : Hp} {Q : VK} (h : tV K (vLc fi t c f vs) s H Q) : tLc (tI K fi) (tG K t ws) (tT K c) (tD K f) vs s H Q := by
  obtain ⟨F, g, x, g', r, e, k⟩ := h
  cases q : fi g with
  | none =>
    unfold vLc at e
    rw [q] at e; cases e
  | some p =>
    obtain ⟨ds, g1⟩ := p
    have e2 : vLc (fun _ => some (ds, g1)) t c f vs g = some (x, g') := by
      unfold vLc at e ⊢
      rw [q] at e
      exact e
    exact tLc_ofX hw (fun R hR => ⟨F, g, ds, g1, r, q, hR⟩) r e2 k
def cYes : Ft := fun g => some (true, g)
abbrev Blk (X : Cx) (scope : Scope) (st : Shared) (H : Hp) (C : Addr) (cl : List (Str × Addr)) (fp : List Addr) : Cx := X.blk st H scope (compEnvC scope cl C X.env) fp
def DCs (X : Cx) (ifs : List Expr) (c : Ft) : Prop := PTs X ifs (tT X.K c)
theorem dcs_nil : DCs X [] cYes := ⟨fun pins st s H Q I ⟨F, g, b, g', r, e, k⟩ => by
  cases e
  exact pts_nil.run pins st s H Q I (k F H r Stp.refl Mo.refl)⟩
theorem dcs_one {a : Expr} {c : Ft} (h : DT X a c) : DCs X [a] c := pts_one h
theorem dv_lc {elt tg iter : Expr} {ifs : List Expr} {scope : Scope} (own : List (Str × Nat)) {pos : Pos} {fi : Fa} {t : Fg} {ws : List Nat} {c : Ft} {f : Fe} (hc : X.calm = true) (hN : X.N.Nodup) (hi : DI X tg iter fi) (ok : blkC X.N X.env.scope scope own = true)
    (hg : ∀ st H C cl fp, DG (Blk X scope st H C cl fp) tg t ws) (ht : ∀ st H C cl fp, DCs (Blk X scope st H C cl fp) ifs c)
    (he : ∀ st H C cl fp, DE (Blk X scope st H C cl fp) elt f) (hw : ∀ i ∈ ws, i ∈ own.map (·.2) := by decide) (hs : ∀ x, foldedSetIterable iter X.env x = pure x := by intro _; rfl) :
    DV X (.ListComp elt [⟨tg, iter, ifs, 0⟩] scope pos) (vLc fi t c f (own.map (·.2))) := peMono (pe_lc (g := tG X.K t ws) (tt := tT X.K c) (te := tD X.K f) hc hN hi (blkOk_by ok) hg ht he hs) fun _ _ _ h => tLc_of hw h
/-- name = [..] on one row -/
theorem ds_setLc (i : Nat) {y : Str} {py : Pos} {elt tg iter : Expr} {ifs : List Expr} {scope : Scope} (own : List (Str × Nat)) {pos spos : Pos} {fi : Fa} {t : Fg} {ws : List Nat} {c : Ft} {f : Fe} (hc : X.calm = true) (hN : X.N.Nodup) (hi : DI X tg iter fi) (ok : blkC X.N X.env.scope scope own = true)
    (hg : ∀ st H C cl fp, DG (Blk X scope st H C cl fp) tg t ws) (ht : ∀ st H C cl fp, DCs (Blk X scope st H C cl fp) ifs c)
    (he : ∀ st H C cl fp, DE (Blk X scope st H C cl fp) elt f) (hsw : swapsWith (.ListComp elt [⟨tg, iter, ifs, 0⟩] scope pos) (some (.Name y py)) spos.line X.env = pure true) (hy : X.N[i]? = some y := by rfl) (hyl : X.env.scope.names.lookup y = some .local := by rfl)
    (hw : ∀ i ∈ ws, i ∈ own.map (·.2) := by decide) (hs : ∀ x, foldedSetIterable iter X.env x = pure x := by intro _; rfl) :
    DS X (.Assign [.Name y py] (.ListComp elt [⟨tg, iter, ifs, 0⟩] scope pos) spos) (sSet i (vLc fi t c f (own.map (·.2)))) := psMono (ps_setLc (g := tG X.K t ws) (tt := tT X.K c) (te := tD X.K f) hc hN hy hyl hsw hi (blkOk_by ok) hg ht he hs) fun D s H ⟨F, g, o, r, e, k⟩ => by
  unfold sSet at e
  cases q : vLc fi t c f (own.map (·.2)) g with
  | none => rw [q] at e; cases e
  | some p =>
    obtain ⟨x, g1⟩ := p
    rw [q] at e
    exact tLc_of hw ⟨F, g, x, g1, r, q, fun v F1 H1 hv hn r1 t1 m1 => set_end r r1 t1 m1 hv hn e k⟩
end Dl
set_option Elab.async false
set_option linter.all false
set_option maxRecDepth 100000
namespace Dl
open PySem PySem.Spec PyProof.Rows L2
variable {X : Cx}

/-! ### built-in functions of one argument -/
def C1Ok (K : PySem.W.Frag) (r : List V → Hp → VK → Prop) (op : D → Option D) : Prop := ∀ (v : V) (d1 d : D) (F H : Hp) (Q : VK), Same F H → BD K F H v d1 → op d1 = some d →
  (∀ v F' H', Dp K F' v d → Same F' H' → Stp Non F H F' H' → Q v H') → r [v] H Q
theorem tCB_of {K : PySem.W.Frag} {r : List V → Hp → VK → Prop} {op : D → Option D} {f : Fe} (ok : C1Ok K r op) {s : Sg} {H : Hp} {Q : VK} (h : tD K (eUn op f) s H Q) : tCB r (tCons (tB K f) tNil) s H Q := by
  obtain ⟨F, g, d, g', rp, e, k⟩ := h
  obtain ⟨d1, e1, e2⟩ := eUn_inv e
  exact ⟨F, g, d1, g', rp, e1, fun v1 F1 H1 p1 r1 t1 m1 => ok v1 d1 d F1 H1 Q r1.fh p1 e2 fun v F2 H2 p2 fh t2 => k v F2 H2 p2 (r1.stepN t2 fh) (t1.andN t2) m1⟩
theorem de_b1 {x : Str} {id : String} {p pos : Pos} {a : Expr} {f : Fe} {r : List V → Hp → VK → Prop} {op : D → Option D} (hc : CallR X (.builtin id) r) (ok : C1Ok X.K r op) (hg : Gl X x) (hm : X.mg x = none) (hv : bootBuiltins x = some (.builtin id)) (ha : DB X a f)
    (hn : x ≠ "__name__" := by decide) (hdb : (x == ("__debug__" : Str)) = false := by decide) (he : starEach [a] X.env = (false, eval a X.env) :: starEach [] X.env := by rfl) (hpl : (backTo pos (starEach [] X.env)).any (·.1) = false := by rfl) : DE X (.Call (.Name x p) [a] [] pos) (eUn op f) :=
  peMono (pe_callB hc hg hm hv (pa_cons ha pa_nil he) hn hdb he hpl) fun _ _ _ h => tCB_of ok h
theorem de_t1 {x : Str} {id : String} {p pos : Pos} {a : Expr} {f : Fe} {r : List V → Hp → VK → Prop} {op : D → Option D} (hc : CallR X (.type id) r) (ok : C1Ok X.K r op) (hg : Gl X x) (hm : X.mg x = none) (hv : bootBuiltins x = some (.type id)) (ha : DB X a f)
    (hn : x ≠ "__name__" := by decide) (hdb : (x == ("__debug__" : Str)) = false := by decide) (he : starEach [a] X.env = (false, eval a X.env) :: starEach [] X.env := by rfl) (hpl : (backTo pos (starEach [] X.env)).any (·.1) = false := by rfl) : DE X (.Call (.Name x p) [a] [] pos) (eUn op f) :=
  peMono (pe_callTy hc hg hm hv (pa_cons ha pa_nil he) hn hdb he hpl) fun _ _ _ h => tCB_of ok h
/-- len -/
def lenD : D → Option D
  | .list ds => some (.int (ds.length : Nat))
  | .tuple ds => some (.int (ds.length : Nat))
  | .str x => if x.length ≤ sizeLine then some (.int (x.length : Nat)) else none
  | _ => none
theorem ok_len : C1Ok X.K (fun xs H Q => ∃ x n, xs = [x] ∧ LenV X.K x H n ∧ Q (.int n) H) lenD := fun v d1 d F H Q fh p e k => by
  have p' := p.dp fh
  unfold lenD at e
  split at e
  · cases e
    cases p' with
    | lst hs ha => exact ⟨_, _, rfl, .inl ⟨_, hs, (dpLen ha).symm⟩, k _ F H (.int _) fh Stp.refl⟩
  · cases e
    cases p' with
    | tup hs ha => exact ⟨_, _, rfl, .inr ⟨_, hs, (dpLen ha).symm⟩, k _ F H (.int _) fh Stp.refl⟩
  · split at e
    · rename_i hz
      cases e
      cases p'
      exact ⟨_, _, rfl, ⟨hz, rfl⟩, k _ F H (.int _) fh Stp.refl⟩
    · cases e
  · cases e
/-- abs -/
def absD : D → Option D
  | .int i => some (.int (if i < 0 then -i else i))
  | _ => none
theorem ok_abs : C1Ok X.K (fun xs H Q => ∃ i, xs = [.int i] ∧ Q (.int (if i < 0 then -i else i)) H) absD := fun v d1 d F H Q fh p e k => by
  have p' := p.dp fh
  unfold absD at e
  split at e
  · cases e
    cases p'
    exact ⟨_, rfl, k _ F H (.int _) fh Stp.refl⟩
  · cases e
/-- int of an int, a bool -/
def intD : D → Option D
  | .int i => some (.int i)
  | .bool b => some (.int (if b then 1 else 0))
  | _ => none
theorem ok_int : C1Ok X.K (fun xs H Q => (∃ i, xs = [.int i] ∧ Q (.int i) H) ∨ ∃ k, xs = [.bl k] ∧ Q (.int (if k then 1 else 0)) H) intD := fun v d1 d F H Q fh p e k => by
  have p' := p.dp fh
  unfold intD at e
  split at e
  · cases e
    cases p'
    exact .inl ⟨_, rfl, k _ F H (.int _) fh Stp.refl⟩
  · cases e
    cases p'
    exact .inr ⟨_, rfl, k _ F H (.int _) fh Stp.refl⟩
  · cases e
/-- tuple -/
def tupD : D → Option D
  | .list ds => some (.tuple ds)
  | .tuple ds => some (.tuple ds)
  | _ => none
theorem ok_tup : C1Ok X.K (fun xs H Q => ∃ p ys, xs = [.ref p] ∧ ((SqL X.K H p ys ∧ ∀ l, H l = none → Q (.ref l) (upd H l (.tup ys))) ∨ (SqT X.K H p ys ∧ Q (.ref p) H))) tupD := fun v d1 d F H Q fh p e k => by
  unfold tupD at e
  split at e
  · cases e
    rcases p with p | ⟨ds, a, xs, e1, e2, ha, hp⟩
    · cases p with
      | lst hs ha => exact ⟨_, _, rfl, .inl ⟨fh.seq hs, newTup fh ha k⟩⟩
    · cases e1
      subst e2
      exact ⟨a, xs, rfl, .inl ⟨SqL.of ha, newTup fh hp k⟩⟩
  · cases e
    rcases p with p | ⟨ds, a, xs, e1, e2, ha, hp⟩
    · cases p with
      | tup hs ha => exact ⟨_, _, rfl, .inr ⟨Same.tupS fh hs, k _ F H (.tup hs ha) fh Stp.refl⟩⟩
    · cases e1
  · cases e
/-- flags of a list -/
def boolL : List D → Option (List Bool)
  | [] => some []
  | .bool b :: r => (boolL r).map fun bs => b :: bs
  | _ => none
theorem boolL_of {K : PySem.W.Frag} {H : Hp} : ∀ {ds : List D} {bs : List Bool} {vs : List V}, boolL ds = some bs → DpAll K H vs ds → vs = bs.map V.bl
  | [], _, _, e, h => by cases e; cases h; rfl
  | .bool b :: r, bs, vs, e, h => by
    have e : (boolL r).map _ = some bs := e
    cases q : boolL r with
    | none => rw [q] at e; cases e
    | some cs =>
      rw [q] at e
      cases e
      cases h with
      | cons h1 h2 => cases h1; rw [boolL_of q h2]; rfl
  | .none :: _, _, _, e, _ => by cases e
  | .int _ :: _, _, _, e, _ => by cases e
  | .str _ :: _, _, _, e, _ => by cases e
  | .list _ :: _, _, _, e, _ => by cases e
  | .tuple _ :: _, _, _, e, _ => by cases e
  | .dict _ :: _, _, _, e, _ => by cases e
def allD : D → Option D
  | .list ds => (boolL ds).map fun bs => .bool (bs.all id)
  | _ => none
def anyD : D → Option D
  | .list ds => (boolL ds).map fun bs => .bool (bs.any id)
  | _ => none
theorem ok_all : C1Ok X.K (rAll X.K) allD := fun v d1 d F H Q fh p e k => by
  have p' := p.dp fh
  unfold allD at e
  split at e
  · rename_i ds
    cases q : boolL ds with
    | none => rw [q] at e; cases e
    | some bs =>
      rw [q] at e
      cases e
      cases p' with
      | lst hs ha => exact ⟨_, bs, rfl, by rw [← boolL_of q ha]; exact hs, k _ F H (.bl _) fh Stp.refl⟩
  · cases e
theorem ok_any : C1Ok X.K (rAny X.K) anyD := fun v d1 d F H Q fh p e k => by
  have p' := p.dp fh
  unfold anyD at e
  split at e
  · rename_i ds
    cases q : boolL ds with
    | none => rw [q] at e; cases e
    | some bs =>
      rw [q] at e
      cases e
      cases p' with
      | lst hs ha => exact ⟨_, bs, rfl, by rw [← boolL_of q ha]; exact hs, k _ F H (.bl _) fh Stp.refl⟩
  · cases e
/-- intL of a list -/
def intL : List D → Option (List Int)
  | [] => some []
  | .int b :: r => (intL r).map fun bs => b :: bs
  | _ => none
theorem intL_of {K : PySem.W.Frag} {H : Hp} : ∀ {ds : List D} {bs : List Int} {vs : List V}, intL ds = some bs → DpAll K H vs ds → vs = bs.map V.int
  | [], _, _, e, h => by cases e; cases h; rfl
  | .int b :: r, bs, vs, e, h => by
    have e : (intL r).map _ = some bs := e
    cases q : intL r with
    | none => rw [q] at e; cases e
    | some cs =>
      rw [q] at e
      cases e
      cases h with
      | cons h1 h2 => cases h1; rw [intL_of q h2]; rfl
  | .none :: _, _, _, e, _ => by cases e
  | .bool _ :: _, _, _, e, _ => by cases e
  | .str _ :: _, _, _, e, _ => by cases e
  | .list _ :: _, _, _, e, _ => by cases e
  | .tuple _ :: _, _, _, e, _ => by cases e
  | .dict _ :: _, _, _, e, _ => by cases e
def sumD : D → Option D
  | .list ds => (intL ds).map fun bs => .int bs.sum
  | _ => none
theorem ok_sum : C1Ok X.K (rSum X.K) sumD := fun v d1 d F H Q fh p e k => by
  have p' := p.dp fh
  unfold sumD at e
  split at e
  · rename_i ds
    cases q : intL ds with
    | none => rw [q] at e; cases e
    | some bs =>
      rw [q] at e
      cases e
      cases p' with
      | lst hs ha => exact ⟨_, bs, rfl, by rw [← intL_of q ha]; exact hs, k _ F H (.int _) fh Stp.refl⟩
  · cases e
section
variable {a : Expr} {f : Fe} {p pos : Pos}
theorem de_len (hg : Gl X "len") (hm : X.mg "len" = none) (ha : DB X a f) (he : starEach [a] X.env = (false, eval a X.env) :: starEach [] X.env := by rfl) : DE X (.Call (.Name "len" p) [a] [] pos) (eUn lenD f) := de_b1 call_len ok_len hg hm PySem.boot_len ha (he := he)
theorem de_abs (hg : Gl X "abs") (hm : X.mg "abs" = none) (ha : DB X a f) (he : starEach [a] X.env = (false, eval a X.env) :: starEach [] X.env := by rfl) : DE X (.Call (.Name "abs" p) [a] [] pos) (eUn absD f) := de_b1 call_abs ok_abs hg hm (by decide +kernel) ha (he := he)
theorem de_int1 (hg : Gl X "int") (hm : X.mg "int" = none) (ha : DB X a f) (he : starEach [a] X.env = (false, eval a X.env) :: starEach [] X.env := by rfl) : DE X (.Call (.Name "int" p) [a] [] pos) (eUn intD f) := de_t1 call_int1 ok_int hg hm (by decide +kernel) ha (he := he)
theorem de_tuple (hg : Gl X "tuple") (hm : X.mg "tuple" = none) (ha : DB X a f) (he : starEach [a] X.env = (false, eval a X.env) :: starEach [] X.env := by rfl) : DE X (.Call (.Name "tuple" p) [a] [] pos) (eUn tupD f) := de_t1 call_tuple_of ok_tup hg hm (by decide +kernel) ha (he := he)
theorem de_all (hc : X.calm = true) (hg : Gl X "all") (hm : X.mg "all" = none) (ha : DB X a f) (he : starEach [a] X.env = (false, eval a X.env) :: starEach [] X.env := by rfl) : DE X (.Call (.Name "all" p) [a] [] pos) (eUn allD f) := de_b1 (cr_all hc) ok_all hg hm (by decide +kernel) ha (he := he)
theorem de_any (hc : X.calm = true) (hg : Gl X "any") (hm : X.mg "any" = none) (ha : DB X a f) (he : starEach [a] X.env = (false, eval a X.env) :: starEach [] X.env := by rfl) : DE X (.Call (.Name "any" p) [a] [] pos) (eUn anyD f) := de_b1 (cr_any hc) ok_any hg hm (by decide +kernel) ha (he := he)
theorem de_sum (hc : X.calm = true) (hg : Gl X "sum") (hm : X.mg "sum" = none) (ha : DB X a f) (he : starEach [a] X.env = (false, eval a X.env) :: starEach [] X.env := by rfl) : DE X (.Call (.Name "sum" p) [a] [] pos) (eUn sumD f) := de_b1 (cr_sum hc) ok_sum hg hm (by decide +kernel) ha (he := he)
end
/-- repr of a list, a tuple -/
def reprD (d : D) : Option D := if d.showable = true ∧ d.hasDict = false ∧ d.depth ≤ 60 ∧ isDisplay d = true ∧ d.shown.length ≤ sizeLine then some (.str d.shown) else none
theorem call_reprD (hg : X.A.guards = some []) (hu : X.A.units + 64 < cLine) : CallR X (.builtin "repr") (fun xs H Q => ∃ x d, xs = [x] ∧ Dp X.K H x d ∧ d.showable = true ∧ d.hasDict = false ∧ d.depth ≤ 60 ∧ isDisplay d = true ∧ d.shown.length ≤ sizeLine ∧ Q (.str d.shown) H) := by
  intro pins st s H xs us Q I r h
  obtain ⟨x, d, rfl, hp, h1, h2, h3, h4, h5, q⟩ := h
  obtain ⟨u, rfl, rx⟩ := vals1 r
  obtain ⟨as, rd⟩ := Dp.reads I d x u hp rx
  obtain ⟨a, rfl⟩ := isRef_of_reads rd h4
  refine repr_of_reads' rd h1 (PyData.noDict_hsm h2) hg (by omega) (fun _ _ e => e) (fun h' w tk hk => ?_) h5
  exact ⟨.str d.shown, H, I.kept hk, ⟨w, rfl⟩, q⟩
theorem ok_repr : C1Ok X.K (fun xs H Q => ∃ x d, xs = [x] ∧ Dp X.K H x d ∧ d.showable = true ∧ d.hasDict = false ∧ d.depth ≤ 60 ∧ isDisplay d = true ∧ d.shown.length ≤ sizeLine ∧ Q (.str d.shown) H) reprD := fun v d1 d F H Q fh p e k => by
  unfold reprD at e
  split at e
  · rename_i hh
    cases e
    exact ⟨v, d1, rfl, p.dp fh, hh.1, hh.2.1, hh.2.2.1, hh.2.2.2.1, hh.2.2.2.2, k _ F H (.str _) fh Stp.refl⟩
  · cases e
theorem de_repr {a : Expr} {f : Fe} {p pos : Pos} (hgd : X.A.guards = some []) (hu : X.A.units + 64 < cLine) (hg : Gl X "repr") (hm : X.mg "repr" = none) (ha : DB X a f) (he : starEach [a] X.env = (false, eval a X.env) :: starEach [] X.env := by rfl) : DE X (.Call (.Name "repr" p) [a] [] pos) (eUn reprD f) :=
  de_b1 (call_reprD hgd hu) ok_repr hg hm (by decide +kernel) ha (he := he)

/-! ### isinstance -/
def tyD : D → Option String
  | .none => some "NoneType"
  | .bool _ => some "bool"
  | .int _ => some "int"
  | .str _ => some "str"
  | .list _ => some "list"
  | .tuple _ => some "tuple"
  | .dict _ => none
theorem tyX_of {K : PySem.W.Frag} {H : Hp} {v : V} {d : D} {n : String} (h : Dp K H v d) (e : tyD d = some n) : TyX K H v (.type n) := by
  cases h with
  | non => cases e; exact .base .non
  | bl b => cases e; exact .base (.bl b)
  | int i => cases e; exact .base (.int i)
  | str x => cases e; exact .base (.str x)
  | lst hs ha =>
    cases e
    rcases hs with (hs | ⟨o, hs⟩) | ⟨o, its, m, hk, hc, _⟩
    · exact .base (.lst hs)
    · exact .base (.frz hs)
    · exact .kList hk hc
  | tup hs ha =>
    cases e
    rcases hs with (hs | ⟨o, hs⟩) | ⟨o, its, m, hk, hc, _⟩
    · exact .base (.tup hs)
    · exact .fTuple hs
    · exact .kTuple hk hc
/-- isinstance(e, T) -/
def isiD (T : String) (d : D) : Option D := (tyD d).bind fun n => (kitB n T).map fun b => .bool b
theorem de_isi {a : Expr} {f : Fe} {p pt pos : Pos} {T : Str} {n : String} (hg : Gl X "isinstance") (hm : X.mg "isinstance" = none) (hgT : Gl X T) (hmT : X.mg T = none) (hv : bootBuiltins T = some (.type n)) (ha : DE X a f)
    (hn : T ≠ "__name__" := by decide) (hd : (T == ("__debug__" : Str)) = false := by decide)
    (he : starEach [a, .Name T pt] X.env = (false, eval a X.env) :: starEach [.Name T pt] X.env := by rfl) (he2 : starEach [.Name T pt] X.env = (false, eval (.Name T pt) X.env) :: starEach [] X.env := by rfl) (hpl : (backTo pos (starEach [.Name T pt] X.env)).any (·.1) = false := by rfl) :
    DE X (.Call (.Name "isinstance" p) [a, .Name T pt] [] pos) (eUn (isiD n) f) :=
  peMono (pe_callB call_isi hg hm (by decide +kernel) (pa_cons ha (pa_cons (pe_bltn (v := .ty n) hgT hmT hv rfl hn hd) pa_nil he2) he) (by decide) (by decide) he hpl) fun s H Q h => by
    obtain ⟨F, g, d, g', rp, e, k⟩ := h
    obtain ⟨d1, e1, e2⟩ := eUn_inv e
    refine ⟨F, g, d1, g', rp, e1, fun v1 F1 H1 p1 r1 t1 m1 => ?_⟩
    unfold isiD at e2
    cases q : tyD d1 with
    | none => rw [q] at e2; cases e2
    | some m =>
      rw [q] at e2
      have e2 : (kitB m n).map _ = some d := e2
      cases q2 : kitB m n with
      | none => rw [q2] at e2; cases e2
      | some b =>
        rw [q2] at e2; cases e2
        exact ⟨v1, .ty n, .type m, .type n, b, rfl, .ty n, tyX_of (dpMono r1.fh _ _ p1) q, kit_ty q2, k _ F1 H1 (.bl b) r1 t1 m1⟩
/-- isinstance(e, (T, U)) -/
def isi2D (T U : String) (d : D) : Option D := (tyD d).bind fun n => match kitB n T, kitB n U with
  | some a, some b => some (.bool (a || b))
  | _, _ => none
theorem de_isi2 {a : Expr} {f : Fe} {p pt pu pos tp : Pos} {kk : Nat} {T U : Str} {n m : String} (hg : Gl X "isinstance") (hm : X.mg "isinstance" = none) (hgT : Gl X T) (hmT : X.mg T = none) (hv : bootBuiltins T = some (.type n)) (hgU : Gl X U) (hmU : X.mg U = none) (hvU : bootBuiltins U = some (.type m)) (ha : DE X a f)
    (hn : T ≠ "__name__" := by decide) (hd : (T == ("__debug__" : Str)) = false := by decide) (hnU : U ≠ "__name__" := by decide) (hdU : (U == ("__debug__" : Str)) = false := by decide)
    (he : starEach [a, .Tuple [.Name T pt, .Name U pu] kk tp] X.env = (false, eval a X.env) :: starEach [.Tuple [.Name T pt, .Name U pu] kk tp] X.env := by rfl) (he2 : starEach [.Tuple [.Name T pt, .Name U pu] kk tp] X.env = (false, eval (.Tuple [.Name T pt, .Name U pu] kk tp) X.env) :: starEach [] X.env := by rfl)
    (h3 : starEach [.Name T pt, .Name U pu] X.env = (false, eval (.Name T pt) X.env) :: starEach [.Name U pu] X.env := by rfl) (h4 : starEach [.Name U pu] X.env = (false, eval (.Name U pu) X.env) :: starEach [] X.env := by rfl)
    (hpl : (backTo pos (starEach [.Tuple [.Name T pt, .Name U pu] kk tp] X.env)).any (·.1) = false := by rfl) :
    DE X (.Call (.Name "isinstance" p) [a, .Tuple [.Name T pt, .Name U pu] kk tp] [] pos) (eUn (isi2D n m) f) :=
  peMono (pe_callB call_isiT hg hm (by decide +kernel) (pa_cons ha (pa_cons (pe_tup (pa_cons (pe_bltn (v := .ty n) hgT hmT hv rfl hn hd) (pa_cons (pe_bltn (v := .ty m) hgU hmU hvU rfl hnU hdU) pa_nil h4) h3)) pa_nil he2) he) (by decide) (by decide) he hpl) fun s H Q h => by
    obtain ⟨F, g, d, g', rp, e, k⟩ := h
    obtain ⟨d1, e1, e2⟩ := eUn_inv e
    refine ⟨F, g, d1, g', rp, e1, fun v1 F1 H1 p1 r1 t1 m1 => ⟨by show 2 ≤ sizeLine; decide, fun tpa ntp => ?_⟩⟩
    unfold isi2D at e2
    cases q : tyD d1 with
    | none => rw [q] at e2; cases e2
    | some t =>
      rw [q] at e2
      simp only [Option.bind_some] at e2
      split at e2
      · rename_i b1 b2 k1 k2
        cases e2
        have st : Stp Non F1 H1 F1 (upd H1 tpa (.tup [.ty n, .ty m])) := Stp.made ntp
        have fh := sameMade (o := .tup [.ty n, .ty m]) r1.fh ntp
        refine ⟨v1, tpa, [.ty n, .ty m], .type t, [.type n, .type m], b1 || b2, rfl, upd_same, .cons (.ty n) (.cons (.ty m) .nil), tyX_of (dpMono fh _ _ p1) q, ?_, k _ F1 _ (.bl _) (r1.stepN st fh) (t1.andN st) m1⟩
        refine kitAny_cons (kit_ty k1) (fun z => ?_) (fun z => by rw [z]; rfl)
        subst z
        refine kitAny_cons (kit_ty k2) (fun z => ?_) (fun z => by rw [z]; rfl)
        subst z
        rfl
      · cases e2
end Dl
set_option Elab.async false
set_option linter.all false
set_option maxRecDepth 100000
namespace Dl
open PySem PySem.Spec PyProof.Rows L2

/-! ### a def and its promise, where no repr is under way -/
abbrev Sp3 := List V → Hp → VK → Prop
structure FnG (P : Program) (w : World) (K : PySem.W.Frag) (mg : Str → Option Value) (base : Heap) (k : Nat) (f : Addr) (fd : FuncData) (ps : List Str) (sp : Sp3) : Prop where
  len : ∀ vs H Q, sp vs H Q → vs.length = ps.length
  run : ∀ (A : Around) (outer : List Env) (st : Shared) (H : Hp) (args : Args) (us : List Value) (vs : List V) (Q : VK), Room k A → A.guards = some [] → Env0 P w K mg base A outer st H → BindsTo st fd args (ps.zip us) → Vals vs us → sp vs H Q →
    codeAny (model P w) A (.call (.ref f) args) (CR CX0 outer P w H st Q E0) st
theorem FnG.mono {P : Program} {w : World} {K : PySem.W.Frag} {mg : Str → Option Value} {base : Heap} {j k : Nat} {f : Addr} {fd : FuncData} {ps : List Str} {sp : Sp3} (F : FnG P w K mg base j f fd ps sp) (h : j ≤ k) : FnG P w K mg base k f fd ps sp :=
  ⟨F.len, fun A outer st H args us vs Q hr => F.run A outer st H args us vs Q (hr.mono h)⟩
abbrev BodyCx (P : Program) (w : World) (K : PySem.W.Frag) (mg : Str → Option Value) (base : Heap) (N : List Str) (qual : Str) (sc : Scope) (f : Addr) (cd : Value) (A : Around) (outer : List Env) (st : Shared) (H : Hp) : Cx := (cxOf CX0 P w K mg base N qual sc f cd A outer st H E0).nox
section
variable {P : Program} {w : World} {K : PySem.W.Frag} {mg : Str → Option Value} {base : Heap}
theorem fnG_of {x qual : Str} {sd : Stmt} {f : Addr} {fd : FuncData} {N ps : List Str} {k : Nat} {sp : Sp3} (F : Fun K x qual sd f fd) (S : FnScope N ps (defScope sd)) (len : ∀ vs H Q, sp vs H Q → vs.length = ps.length)
    (hbody : ∀ (cd : Value) (A : Around) (outer : List Env) (st : Shared) (H : Hp) (vs : List V) (Q : VK), Room k (BodyCx P w K mg base N qual (defScope sd) f cd A outer st H).A → (BodyCx P w K mg base N qual (defScope sd) f cd A outer st H).A.guards = some [] → sp vs H Q →
      ∃ t, PSs (BodyCx P w K mg base N qual (defScope sd) f cd A outer st H) (defBody sd) t ∧ t { nx := fun _ H' => Q .non H', rt := Q } (L2.start N vs) H) : FnG P w K mg base (k + 1) f fd ps sp := by
  obtain ⟨oc, od, kV, doc, pm, an, cd, ct, osl, efd, lk, hcd⟩ := F.ex
  subst efd
  refine ⟨len, fun A outer st H args us vs Q room gd env0 bnd vals want => ?_⟩
  have hl := len vs H Q want
  have inK : K.In st.heap := env0.mod.kin.keeps fun b o z => (env0.bs b o z).1
  have nolim : st.heap.NoLimit := env0.mod.nolimit.keeps fun b o z => (env0.bs b o z).1
  have kinds : ∀ q ∈ ps.zip us, (defScope sd).names.lookup q.1 = some .local ∨ ((defScope sd).names.lookup q.1 = some .cell ∧ ((cellsFrom (st.heap.objs.size + 1) (defScope sd).names []).lookup q.1).isSome = true) := by
    rintro ⟨nm, v⟩ hq
    exact (S.par nm (List.of_mem_zip hq).1).imp id fun z => ⟨z, PySem.W.cellsFrom_some _ _ _ (.inl z)⟩
  refine codeAny_call_function room.depth (inK _ _ lk) rfl S.co S.gen rfl (PySem.W.codeRec_of inK hcd) (bnd _ _ _ _ (wpAny_newFunctionEnv_cells S.kind kinds fun env he st1 inC => ?_))
  subst he
  refine ⟨nolim.keeps inC.toInCall.keep, codeAny_func ?_⟩
  obtain ⟨t, ht, good⟩ := hbody cd A outer st H vs Q (room.deeper _) gd want
  have I0 : Inv (cxOf CX0 P w K mg base N qual (defScope sd) f cd A outer st H E0) [] (L2.start N vs) H st1 := inv_start S room.hd env0 hl vals inC
  refine wpAny_mono (ht.nox.run [] st1 (L2.start N vs) H _ I0 good) (fun fl st2 hs => ?_) fun e st2 hs => hs
  cases fl with
  | ret u =>
    obtain ⟨v, _, H2, J, rv, q⟩ := hs
    exact ⟨v, H2, J.os, J.bare, J.base, J.hok, rv, q⟩
  | next =>
    obtain ⟨_, H2, J, q⟩ := hs
    exact ⟨.non, H2, J.os, J.bare, J.base, J.hok, rfl, q⟩
  | brk =>
    obtain ⟨_, _, _, q⟩ := hs
    exact q.elim
  | cont =>
    obtain ⟨_, _, _, q⟩ := hs
    exact q.elim
end
section
variable {X : Cx} {k : Nat} {f : Addr} {fd : FuncData} {ps : List Str} {sp : Sp3}
/-- f(e, ..) -/
theorem pe_callG {x : Str} {p pos : Pos} {e : Expr} {es : List Expr} {t : TA} (F : FnG X.prog X.w X.K X.mg X.base k f fd ps sp) (room : Room k X.A) (gd : X.A.guards = some []) (hg : Gl X x) (hm : X.mg x = some (.ref f)) (hk : PySem.W.keepIn X.K (.ref f) = true) (hb : Binds X.K fd ps [])
    (ha : PA X (e :: es) t) (hdb : (x == ("__debug__" : Str)) = false := by decide) (he : starEach (e :: es) X.env = (false, eval e X.env) :: starEach es X.env := by rfl) (hpl : (backTo pos (starEach es X.env)).any (·.1) = false := by rfl) :
    PE X (.Call (.Name x p) (e :: es) [] pos) (fun s H Q => t s H fun vs H1 => sp vs H1 Q) := by
  refine ⟨fun pins st s H Q I h => wpAny_Call_Name_kw (ld_glob I hg hm (PySem.W.callWith_K (h₀ := X.base) I.ok.mod.kin hk (thn (ha.run pos pins st s H _ I h) fun us st1 hq => ?_) he hpl) hdb)⟩
  obtain ⟨vs, H1, I1, r, q⟩ := hq
  refine ⟨I1.kIn, ?_⟩
  have hl : (us ++ ([] : List Value)).length = ps.length := by rw [List.append_nil, ← r.length]; exact F.len _ _ _ q
  have bt := hb st1 us I1.kIn hl
  rw [List.append_nil] at bt
  refine wpAny_call (codeAny_mono (F.run X.A X.stack st1 H1 ⟨us, []⟩ us vs Q room gd I1.env0 bt r q) fun res st2 hq => ?_)
  cases res with
  | error e => exact (show False from hq).elim
  | ok fl =>
    cases fl with
    | ret u => exact I1.after hq
    | next => exact (show False from hq).elim
    | brk => exact (show False from hq).elim
    | cont => exact (show False from hq).elim
end

/-! ### promises by data -/
/-- a value handed back -/
def Back (K : PySem.W.Frag) (F H : Hp) (O : Addr → Prop) (x : Sl) (Q : VK) : Prop := ∀ v F' H', RepS K F' H' x (some v) → x ≠ .no → (∀ t es, x = .own t es → t = none ∧ ∃ a, v = .ref a ∧ H a = none) → Same F' H' → Stp O F H F' H' → Q v H'
/-- a def of n arguments, all data: m tells the answer -/
def spP (K : PySem.W.Frag) (n : Nat) (m : List D → Option Sl) : Sp3 := fun vs H Q => ∃ F ds x, Same F H ∧ DpAll K F vs ds ∧ ds.length = n ∧ m ds = some x ∧ Back K F H Non x Q
/-- a def whose first argument is a list that it changes -/
def spI (K : PySem.W.Frag) (n : Nat) (m : List D → List D → Option (Sl × List D)) : Sp3 := fun vs H Q => ∃ F a xs es ws ds x es', vs = .ref a :: ws ∧ Same F H ∧ F a = none ∧ H a = some (.lst xs) ∧ DpAll K F xs es ∧ DpAll K F ws ds ∧ ds.length + 1 = n ∧ m es ds = some (x, es') ∧
  ∀ v F' H' xs', RepS K F' H' x (some v) → x ≠ .no → (∀ t fs, x = .own t fs → t = none ∧ ∃ b, v = .ref b ∧ H b = none) → Same F' H' → F' a = none → H' a = some (.lst xs') → DpAll K F' xs' es' → Stp (fun b => b = a) F H F' H' → Q v H'
theorem spP_len {K : PySem.W.Frag} {n : Nat} {m : List D → Option Sl} : ∀ vs H Q, spP K n m vs H Q → vs.length = n := fun vs H Q ⟨F, ds, x, _, hp, hl, _⟩ => by rw [dpLen hp, hl]
theorem spI_len {K : PySem.W.Frag} {n : Nat} {m : List D → List D → Option (Sl × List D)} : ∀ vs H Q, spI K n m vs H Q → vs.length = n := fun vs H Q ⟨F, a, xs, es, ws, ds, x, es', e, _, _, _, _, hp, hl, _⟩ => by rw [e, List.length_cons, dpLen hp, hl]

/-! ### a body run from its arguments -/
def runG (f : Fs) (N : Nat) (g : G) : Option (Sl × G) := match f (g ++ List.replicate (N - g.length) .no) with
  | some (.ret x g') => some (x, g')
  | some (.nx g') => some (.v .none, g')
  | _ => none
def fnP (f : Fs) (N : Nat) (ds : List D) : Option Sl := (runG f N (ds.map .v)).map (·.1)
open Classical in
noncomputable def fnI (f : Fs) (N : Nat) (es ds : List D) : Option (Sl × List D) :=
  if h : ∃ r : Sl × List D, ∀ a, ∃ g', runG f N (.own (some a) es :: ds.map .v) = some (r.1, g') ∧ g'[0]? = some (.own (some a) r.2) then some h.choose else none
theorem fnI_of {f : Fs} {N : Nat} {es ds : List D} {x : Sl} {es' : List D} (h : ∀ a, ∃ g', runG f N (.own (some a) es :: ds.map .v) = some (x, g') ∧ g'[0]? = some (.own (some a) es')) : fnI f N es ds = some (x, es') := by
  have hx : ∃ r : Sl × List D, ∀ a, ∃ g', runG f N (.own (some a) es :: ds.map .v) = some (r.1, g') ∧ g'[0]? = some (.own (some a) r.2) := ⟨(x, es'), h⟩
  unfold fnI
  rw [dif_pos hx]
  obtain ⟨g1, e1, q1⟩ := hx.choose_spec (0 : Nat)
  obtain ⟨g2, e2, q2⟩ := h (0 : Nat)
  rw [e1] at e2
  have h1 : hx.choose.1 = x := (Prod.mk.inj (Option.some.inj e2)).1
  have h2 : g1 = g2 := (Prod.mk.inj (Option.some.inj e2)).2
  rw [h2, q2] at q1
  have h3 : es' = hx.choose.2 := by cases q1; rfl
  rw [h3, ← h1]
theorem fnI_inv {f : Fs} {N : Nat} {es ds : List D} {x : Sl} {es' : List D} (h : fnI f N es ds = some (x, es')) (a : Addr) : ∃ g', runG f N (.own (some a) es :: ds.map .v) = some (x, g') ∧ g'[0]? = some (.own (some a) es') := by
  unfold fnI at h
  split at h
  · rename_i hx
    have := hx.choose_spec a
    have e : hx.choose = (x, es') := Option.some.inj h
    rw [e] at this
    exact this
  · cases h
theorem startRep {K : PySem.W.Frag} {F H : Hp} {N : List Str} : ∀ {vs : List V} {ds : List D}, Same F H → DpAll K F vs ds → Rep K F (ds.map .v ++ List.replicate (N.length - ds.length) .no) (L2.start N vs) H := fun {vs ds} fh hp => by
  have hl := dpLen hp
  refine ⟨fh, by unfold L2.start; simp [hl], fun i x o hx ho => ?_, fun i j a t u es fs h1 => ?_⟩
  · unfold L2.start at ho
    by_cases hi : i < ds.length
    · rw [List.getElem?_append_left (by simpa using hi), List.getElem?_map] at hx
      rw [List.getElem?_append_left (by simpa [hl] using hi), List.getElem?_map] at ho
      cases q : ds[i]? with
      | none => rw [q] at hx; cases hx
      | some d =>
        rw [q] at hx; cases hx
        obtain ⟨v, hv, hd⟩ := dpAt hp q
        rw [hv] at ho; cases ho
        exact ⟨v, rfl, hd⟩
    · rw [List.getElem?_append_right (by simpa using hi), List.getElem?_replicate] at hx
      split at hx
      · cases hx; trivial
      · cases hx
  · exfalso
    by_cases hi : i < ds.length
    · rw [List.getElem?_append_left (by simpa using hi), List.getElem?_map] at h1
      cases q : ds[i]? with
      | none => rw [q] at h1; cases h1
      | some d => rw [q] at h1; cases h1
    · rw [List.getElem?_append_right (by simpa using hi), List.getElem?_replicate] at h1
      split at h1 <;> cases h1
section
variable {P : Program} {w : World} {K : PySem.W.Frag} {mg : Str → Option Value} {base : Heap}
/-- THE RULE for a def of data -/
theorem fnP_ok {x qual : Str} {sd : Stmt} {f : Addr} {fd : FuncData} {N ps : List Str} {k : Nat} {b : Fs} {n : Nat} (F : Fun K x qual sd f fd) (S : FnScope N ps (defScope sd)) (hn : ps.length = n)
    (hbody : ∀ (cd : Value) (A : Around) (outer : List Env) (st : Shared) (H : Hp), Room k (BodyCx P w K mg base N qual (defScope sd) f cd A outer st H).A → (BodyCx P w K mg base N qual (defScope sd) f cd A outer st H).A.guards = some [] →
      DSs (BodyCx P w K mg base N qual (defScope sd) f cd A outer st H) (defBody sd) b) : FnG P w K mg base (k + 1) f fd ps (spP K n (fnP b N.length)) := by
  refine fnG_of F S (fun vs H Q h => by rw [hn]; exact spP_len vs H Q h) fun cd A outer st H vs Q room gd h => ⟨_, hbody cd A outer st H room gd, ?_⟩
  obtain ⟨F0, ds, y, fh, hp, hl, e, k⟩ := h
  unfold fnP runG at e
  rw [List.length_map] at e
  have r0 := startRep (N := N) fh hp
  have noOwn : ∀ a, ¬ OwnAt (ds.map .v ++ List.replicate (N.length - ds.length) .no) (L2.start N vs) a := fun a ⟨i, t, es, h1, _⟩ => by
    by_cases hi : i < ds.length
    · rw [List.getElem?_append_left (by simpa using hi), List.getElem?_map] at h1
      cases q : ds[i]? with
      | none => rw [q] at h1; cases h1
      | some d => rw [q] at h1; cases h1
    · rw [List.getElem?_append_right (by simpa using hi), List.getElem?_replicate] at h1
      split at h1 <;> cases h1
  cases q : b (ds.map .v ++ List.replicate (N.length - ds.length) .no) with
  | none => rw [q] at e; cases e
  | some o =>
    rw [q] at e
    refine ⟨F0, _, o, r0, q, ?_⟩
    cases o with
    | bk g' => cases e
    | ct g' => cases e
    | nx g' =>
      cases e
      exact fun F' s' H' t => k .non F' H' ⟨_, rfl, .non⟩ (fun z => nomatch z) (fun _ _ z => nomatch z) t.rep.fh (t.stp.weak fun b hb => noOwn b hb)
    | ret z g' =>
      cases e
      refine fun v F' s' H' hv hz ho t => k v F' H' hv hz (fun tg es ez => ?_) t.rep.fh (t.stp.weak fun b hb => noOwn b hb)
      obtain ⟨e1, a, e2, e3, _⟩ := ho tg es ez
      exact ⟨e1, a, e2, e3.resolve_right (noOwn a)⟩
theorem startRepI {F H : Hp} {N : List Str} {a : Addr} {xs : List V} {es : List D} {vs : List V} {ds : List D} (fh : Same F H) (fa : F a = none) (ha : H a = some (.lst xs)) (hx : DpAll K F xs es) (hp : DpAll K F vs ds) :
    Rep K F (.own (some a) es :: (ds.map .v ++ List.replicate (N.length - (ds.length + 1)) .no)) (L2.start N (.ref a :: vs)) H := by
  have hl := dpLen hp
  have noT : ∀ (i : Nat) (t : Option Addr) (fs : List D), (ds.map Sl.v ++ List.replicate (N.length - (ds.length + 1)) Sl.no)[i]? ≠ some (Sl.own t fs) := fun i t fs h1 => by
    by_cases hi : i < ds.length
    · rw [List.getElem?_append_left (by simpa using hi), List.getElem?_map] at h1
      cases q : ds[i]? with
      | none => rw [q] at h1; cases h1
      | some d => rw [q] at h1; cases h1
    · rw [List.getElem?_append_right (by simpa using hi), List.getElem?_replicate] at h1
      split at h1 <;> cases h1
  refine ⟨fh, by unfold L2.start; simp [hl], fun i x o hxx ho => ?_, fun i j b t u fs gs h1 h2 => ?_⟩
  · cases i with
    | zero =>
      cases hxx
      cases ho
      exact ⟨a, xs, rfl, fa, ha, hx, fun b e => (Option.some.inj e).symm⟩
    | succ i =>
      have hxx : (ds.map Sl.v ++ List.replicate (N.length - (ds.length + 1)) Sl.no)[i]? = some x := by simpa using hxx
      have ho : (vs.map some ++ List.replicate (N.length - (vs.length + 1)) none)[i]? = some o := by
        unfold L2.start at ho
        simpa using ho
      by_cases hi : i < ds.length
      · rw [List.getElem?_append_left (by simpa using hi), List.getElem?_map] at hxx
        rw [List.getElem?_append_left (by simpa [hl] using hi), List.getElem?_map] at ho
        cases q : ds[i]? with
        | none => rw [q] at hxx; cases hxx
        | some d =>
          rw [q] at hxx; cases hxx
          obtain ⟨v, hv, hd⟩ := dpAt hp q
          rw [hv] at ho; cases ho
          exact ⟨v, rfl, hd⟩
      · rw [List.getElem?_append_right (by simpa using hi), List.getElem?_replicate] at hxx
        split at hxx
        · cases hxx; trivial
        · cases hxx
  · cases i with
    | zero =>
      cases j with
      | zero => exact fun _ _ => rfl
      | succ j => exact absurd (by simpa using h2) (noT j u gs)
    | succ i => exact absurd (by simpa using h1) (noT i t fs)
/-- .. of a def whose first argument is a list that it changes -/
theorem fnI_ok {x qual : Str} {sd : Stmt} {f : Addr} {fd : FuncData} {N ps : List Str} {k : Nat} {b : Fs} {n : Nat} (F : Fun K x qual sd f fd) (S : FnScope N ps (defScope sd)) (hn : ps.length = n)
    (hbody : ∀ (cd : Value) (A : Around) (outer : List Env) (st : Shared) (H : Hp), Room k (BodyCx P w K mg base N qual (defScope sd) f cd A outer st H).A → (BodyCx P w K mg base N qual (defScope sd) f cd A outer st H).A.guards = some [] →
      DSs (BodyCx P w K mg base N qual (defScope sd) f cd A outer st H) (defBody sd) b) : FnG P w K mg base (k + 1) f fd ps (spI K n (fnI b N.length)) := by
  refine fnG_of F S (fun vs H Q h => by rw [hn]; exact spI_len vs H Q h) fun cd A outer st H vs Q room gd h => ⟨_, hbody cd A outer st H room gd, ?_⟩
  obtain ⟨F0, a, xs, es, ws, ds, y, es', rfl, fh, fa, ha, hx, hp, hl, e, k⟩ := h
  obtain ⟨gE, e, e0⟩ := fnI_inv e a
  unfold runG at e
  have hlen : (Sl.own (some a) es :: ds.map Sl.v).length = ds.length + 1 := by simp
  rw [hlen] at e
  have r0 := startRepI (N := N) fh fa ha hx hp
  have one : ∀ c, OwnAt (.own (some a) es :: (ds.map .v ++ List.replicate (N.length - (ds.length + 1)) .no)) (L2.start N (.ref a :: ws)) c → c = a := fun c ⟨i, t, fs, h1, h2⟩ => by
    cases i with
    | zero => cases h2; rfl
    | succ i =>
      exfalso
      have h1 : (ds.map Sl.v ++ List.replicate (N.length - (ds.length + 1)) Sl.no)[i]? = some (.own t fs) := by simpa using h1
      by_cases hi : i < ds.length
      · rw [List.getElem?_append_left (by simpa using hi), List.getElem?_map] at h1
        cases q : ds[i]? with
        | none => rw [q] at h1; cases h1
        | some d => rw [q] at h1; cases h1
      · rw [List.getElem?_append_right (by simpa using hi), List.getElem?_replicate] at h1
        split at h1 <;> cases h1
  -- the list behind the body
  have fin : ∀ {F' : Hp} {s' : Sg} {H' : Hp} {g' : G}, g' = gE → Tr K F0 (.own (some a) es :: (ds.map .v ++ List.replicate (N.length - (ds.length + 1)) .no)) (L2.start N (.ref a :: ws)) H F' g' s' H' →
      OwnAt g' s' a ∧ ∃ xs', F' a = none ∧ H' a = some (.lst xs') ∧ DpAll K F' xs' es' := fun {F' s' H' g'} eg t => by
    subst eg
    obtain ⟨o, ho, c, xs', eo, fc, hc, hp', ht⟩ := t.rep.get e0
    have : a = c := ht a rfl
    subst this
    subst eo
    exact ⟨⟨0, _, _, e0, ho⟩, xs', fc, hc, hp'⟩
  have hb : b (.own (some a) es :: (ds.map .v ++ List.replicate (N.length - (ds.length + 1)) .no)) = b ((.own (some a) es :: ds.map .v) ++ List.replicate (N.length - (ds.length + 1)) .no) := rfl
  cases q : b ((.own (some a) es :: ds.map .v) ++ List.replicate (N.length - (ds.length + 1)) .no) with
  | none => rw [q] at e; cases e
  | some o =>
    rw [q] at e
    refine ⟨F0, _, o, r0, hb.trans q, ?_⟩
    cases o with
    | bk g' => cases e
    | ct g' => cases e
    | nx g' =>
      cases e
      intro F' s' H' t
      obtain ⟨_, xs', f1, f2, f3⟩ := fin rfl t
      exact k .non F' H' xs' ⟨_, rfl, .non⟩ (fun z => nomatch z) (fun _ _ z => nomatch z) t.rep.fh f1 f2 f3 (t.stp.weak one)
    | ret z g' =>
      cases e
      intro v F' s' H' hv hz ho t
      obtain ⟨f0, xs', f1, f2, f3⟩ := fin rfl t
      refine k v F' H' xs' hv hz (fun tg es ez => ?_) t.rep.fh f1 f2 f3 (t.stp.weak one)
      obtain ⟨e1, c, e2, e3, e4⟩ := ho tg es ez
      refine ⟨e1, c, e2, e3.resolve_right fun w => ?_⟩
      rw [one c w] at e4
      exact e4 f0
end

/-! ### calls by data -/
section
variable {X : Cx} {k : Nat} {f : Addr} {fd : FuncData} {ps : List Str} {n : Nat}
def eCall (m : List D → Option Sl) (fs : Fa) : Fv := fun g => (fs g).bind fun p => (m p.1).map fun x => (x, p.2)
theorem dv_call {x : Str} {p pos : Pos} {a : Expr} {es : List Expr} {m : List D → Option Sl} {fs : Fa} (F : FnG X.prog X.w X.K X.mg X.base k f fd ps (spP X.K n m)) (room : Room k X.A) (gd : X.A.guards = some []) (hg : Gl X x) (hm : X.mg x = some (.ref f)) (hk : PySem.W.keepIn X.K (.ref f) = true) (hb : Binds X.K fd ps [])
    (ha : DA X (a :: es) fs) (hl : LenA fs n) (hdb : (x == ("__debug__" : Str)) = false := by decide) (he : starEach (a :: es) X.env = (false, eval a X.env) :: starEach es X.env := by rfl) (hpl : (backTo pos (starEach es X.env)).any (·.1) = false := by rfl) :
    DV X (.Call (.Name x p) (a :: es) [] pos) (eCall m fs) := peMono (pe_callG F room gd hg hm hk hb ha hdb he hpl) fun s H Q ⟨Fz, g, y, g', r, e, k⟩ => by
  unfold eCall at e
  cases q : fs g with
  | none => rw [q] at e; cases e
  | some p =>
    rw [q] at e
    have e : (m p.1).map _ = some (y, g') := e
    cases q2 : m p.1 with
    | none => rw [q2] at e; cases e
    | some z =>
      rw [q2] at e; cases e
      refine ⟨Fz, g, p.1, p.2, r, q, fun vs F1 H1 p1 r1 t1 m1 => ⟨F1, p.1, _, r1.fh, p1, hl _ _ _ q, q2, fun v F2 H2 hv hz ho fh t2 => ?_⟩⟩
      refine k v F2 H2 hv (fun tg es ez => ?_) (r1.stepN t2 fh) (t1.andN t2) m1
      obtain ⟨e1, b, e2, e3⟩ := ho tg es ez
      refine ⟨e1, b, e2, ?_⟩
      cases w : H b with
      | none => rfl
      | some o => exact absurd e3 (t1.dom b (by rw [w]; simp))
/-- the first argument the list in slot i, which is changed -/
def eCallI (m : List D → List D → Option (Sl × List D)) (i : Nat) (fs : Fa) : Fv := fun g => (ownD g[i]?).bind fun _ => (fs g).bind fun p => match p.2[i]? with
  | some (.own t es) => (m es p.1).map fun r => (r.1, p.2.set i (.own t r.2))
  | _ => none
theorem turnI {K : PySem.W.Frag} {F H F' H' : Hp} {g : G} {s : Sg} (r : Rep K F g s H) {i : Nat} {t : Option Addr} {es es' : List D} {a : Addr} {ys : List V} (hg : g[i]? = some (.own t es)) (hs : s[i]? = some (some (.ref a))) (st : Stp (fun b => b = a) F H F' H') (fh : Same F' H') (fa : F' a = none) (ha : H' a = some (.lst ys)) (hp : DpAll K F' ys es') :
    Rep K F' (g.set i (.own t es')) s H' ∧ Stp (OwnAt g s) F H F' H' := by
  obtain ⟨o, ho, a', xs, eo, fa0, ha0, hp0, ht⟩ := r.get hg
  rw [hs] at ho; cases ho; cases eo
  have hi : i < g.length := (List.getElem?_eq_some_iff.mp hg).1
  have r0 : Rep K F (g.set i .no) s H := by
    have := r.put i .no (some (.ref a)) trivial (fun _ _ _ e => nomatch e)
    rwa [setSelf hs] at this
  have n0 : ¬ OwnAt (g.set i .no) s a := fun ⟨j, tg, fs, e1, e2⟩ => by
    by_cases z : i = j
    · subst z; rw [List.getElem?_set_self hi] at e1; cases e1
    · rw [List.getElem?_set_ne z] at e1
      exact z (r.uq i j a t tg es fs hg e1 hs e2)
  have r1 : Rep K F' (g.set i .no) s H' := r0.step st (fun b hb z => n0 (by rw [← z]; exact hb)) fh
  refine ⟨?_, st.weak fun b z => by rw [z]; exact ⟨i, t, es, hg, hs⟩⟩
  have := r1.put i (.own t es') (some (.ref a)) ⟨a, ys, rfl, fa, ha, hp, ht⟩ (fun _ _ b _ e => by cases e; exact n0)
  rwa [setSelf hs, List.set_set] at this
theorem dv_callI (i : Nat) {x y : Str} {p py pos : Pos} {es : List Expr} {m : List D → List D → Option (Sl × List D)} {fs : Fa} (F : FnG X.prog X.w X.K X.mg X.base k f fd ps (spI X.K n m)) (room : Room k X.A) (gd : X.A.guards = some []) (hg : Gl X x) (hm : X.mg x = some (.ref f)) (hk : PySem.W.keepIn X.K (.ref f) = true) (hb : Binds X.K fd ps [])
    (ha : DA X es fs) {n' : Nat} (hl : LenA fs n') (hn : n' + 1 = n := by rfl) (hN : X.N[i]? = some y := by rfl) (hv : Vis X.env.scope y := by first | exact Or.inl rfl | exact Or.inr (Or.inl rfl) | exact Or.inr (Or.inr rfl)) (hd : (y == ("__debug__" : Str)) = false := by decide) (hcd : (y == ("__classdict__" : Str)) = false := by decide)
    (hdb : (x == ("__debug__" : Str)) = false := by decide) (he : starEach (.Name y py :: es) X.env = (false, eval (.Name y py) X.env) :: starEach es X.env := by rfl) (hpl : (backTo pos (starEach es X.env)).any (·.1) = false := by rfl) :
    DV X (.Call (.Name x p) (.Name y py :: es) [] pos) (eCallI m i fs) := peMono (pe_callG F room gd hg hm hk hb (pa_cons (pe_var hN hv hd hcd) ha he) hdb he hpl) fun s H Q ⟨Fz, g, y, g', r, e, k⟩ => by
  unfold eCallI at e
  cases q0 : ownD g[i]? with
  | none => rw [q0] at e; cases e
  | some d0 =>
    rw [q0] at e
    have e : (fs g).bind _ = some (y, g') := e
    cases q : fs g with
    | none => rw [q] at e; cases e
    | some p =>
      obtain ⟨ds, g1⟩ := p
      rw [q] at e
      simp only [Option.bind_some] at e
      split at e
      · rename_i t ee hge
        cases q2 : m ee ds with
        | none => rw [q2] at e; cases e
        | some z =>
          obtain ⟨z, ee'⟩ := z
          rw [q2] at e; cases e
          have hw : ∃ a, s[i]? = some (some (V.ref a)) := by
            unfold ownD at q0
            split at q0
            · rename_i t0 ds0 hx0
              obtain ⟨o, ho, a, xs, ea, _⟩ := r.get hx0
              subst ea
              exact ⟨a, ho⟩
            · cases q0
          obtain ⟨a, ha⟩ := hw
          refine ⟨.ref a, ha, Fz, g, ds, g1, r, q, fun vs F1 H1 p1 r1 t1 m1 => ?_⟩
          obtain ⟨o, ho, a', xs, eo, fa, hal, hps, ht⟩ := r1.get hge
          rw [ha] at ho; cases ho; cases eo
          refine ⟨F1, a, xs, ee, vs, ds, z, ee', rfl, r1.fh, fa, hal, hps, p1, by rw [hl _ _ _ q]; exact hn, q2, fun v F2 H2 xs' hv hz hown fh f1 f2 f3 t2 => ?_⟩
          obtain ⟨r2, t2'⟩ := turnI r1 hge ha t2 fh f1 f2 f3
          refine k v F2 H2 hv (fun tg fs' ez => ?_) r2 (t1.two m1 t2') (m1.trans (moSet hge))
          obtain ⟨e1, b, e2, e3⟩ := hown tg fs' ez
          refine ⟨e1, b, e2, ?_⟩
          cases w : H b with
          | none => rfl
          | some o => exact absurd e3 (t1.dom b (by rw [w]; simp))
      · cases e
end
end Dl
set_option Elab.async false
set_option linter.all false
set_option maxRecDepth 100000
namespace Dl
open PySem PySem.Spec PyProof.Rows L2

/-- the law's def is called, nothing tracked but the script -/
theorem lawG {P : Program} {w : World} {K : PySem.W.Frag} {mg mb : Str → Option Value} {k : Nat} {fa a : Addr} {fd : FuncData} {x : Str} {m : List D → Option Sl} {st : Shared} {vs : List Value} {ns : List Int}
    (inK : K.In st.heap) (nsG : st.heap.Ns mainGlobals mg) (nsB : st.heap.Ns builtinsNs mb) (boot : ∀ x : Str, x ≠ "__name__" → mb x = bootBuiltins x) (lim : st.heap.NoLimit) (gens : st.gens = #[])
    (hob : st.heap.get? a = some { cls := .type "list", data := .seq vs.toArray }) (hns : IntsAre vs ns) (hlen : ns.length ≤ sizeLine) (room : Room k callerA)
    (G : ∀ base : Heap, K.In base → base.Ns mainGlobals mg → FnG P w K mg base k fa fd [x] (spP K 1 m)) (bnd : ∀ (s : Shared) (u : Value), BindsTo s fd ⟨[u], []⟩ [(x, u)])
    (good : m [.list (ns.map .int)] = some (.v (.bool true))) :
    codeAny (model P w) callerA (.call (.ref fa) ⟨[.ref a], []⟩) (fun r s' => r = .ok (.ret (.bool true)) ∧ OldK st.heap s'.heap ∧ s'.os = st.os ∧ AllBare s'.gens) st := by
  have vals := vals_ints hns
  have leq := hns.length
  have dps : ∀ H : Hp, DpAll K H (ns.map V.int) (ns.map PyData.int) := fun H => by
    clear hlen leq good vals hns
    induction ns with
    | nil => exact .nil
    | cons n r ih => exact .cons (.int n) ih
  have main : ∀ H : Hp, (∀ b u, H b = some u → b = a ∧ ∃ o ys, u = .frz o (.lst ys)) → SqL K H a (ns.map V.int) → HOk P w H st.heap → (H a ≠ none → K.lookup a = none) →
      codeAny (model P w) callerA (.call (.ref fa) ⟨[.ref a], []⟩) (fun r s' => r = .ok (.ret (.bool true)) ∧ OldK st.heap s'.heap ∧ s'.os = st.os ∧ AllBare s'.gens) st := by
    intro H only hS hok apart
    have hid : ∀ {b : Addr} {o : Obj}, st.heap.get? b = some o → (H b ≠ none → False) → (hidT st.heap H).get? b = some o := fun {b o} e n => hidT_get e (by
      cases q : H b with
      | none => rfl
      | some u => exact (n (by rw [q]; simp)).elim)
    have noDict : ∀ {b : Addr} {o : Obj} {es : Array DictEntry} {ep : Nat}, st.heap.get? b = some o → o.data = .dict es ep → H b ≠ none → False := fun {b o es ep} e d n => by
      cases q : H b with
      | none => exact n q
      | some u =>
        have eb := (only b u q).1
        subst eb
        rw [hob] at e
        cases e
        exact Data.noConfusion (show Data.seq vs.toArray _ = Data.dict es ep from d)
    have nsH : ∀ {b : Addr} {mm : Str → Option Value}, st.heap.Ns b mm → (hidT st.heap H).Ns b mm := fun {b mm} z => by
      obtain ⟨o, es, ep, e, d, q⟩ := z
      exact ⟨o, es, ep, hid e (noDict e d), d, q⟩
    have kH : K.In (hidT st.heap H) := fun b o e => hid (inK b o e) fun n => by
      cases q : H b with
      | none => exact n q
      | some u =>
        have eb := (only b u q).1
        subst eb
        rw [apart n] at e
        cases e
    obtain ⟨mc, l1, l2⟩ := lim
    have md : Mod K mg (hidT st.heap H) := ⟨kH, nsH nsG, ⟨mb, nsH nsB, boot⟩, ⟨mc, nsH l1, l2⟩⟩
    have env0 : Env0 P w K mg (hidT st.heap H) callerA [] st H := ⟨rfl, md, fun b o e => of_hidT e, Nat.le_of_eq (hidT_size _ _), trivial, (fun b hb => by cases hb), hok, .of_eq gens⟩
    have want : spP K 1 m [.ref a] H (fun v H' => v = .bl true) := ⟨H, [.list (ns.map PyData.int)], _, .refl _, .cons (.lst hS (dps H)) .nil, rfl, good, fun v F' H' hv _ _ _ _ => by
      obtain ⟨y, ey, hy⟩ := hv
      cases ey
      cases hy
      rfl⟩
    refine codeAny_mono ((G _ kH (nsH nsG)).run callerA [] st H ⟨[.ref a], []⟩ [.ref a] [.ref a] _ room rfl env0 (bnd st (.ref a)) (.cons rfl .nil) want) fun r s' hr => ?_
    cases r with
    | error e => exact (show False from hr).elim
    | ok fl =>
      cases fl with
      | next => exact (show False from hr).elim
      | brk => exact (show False from hr).elim
      | cont => exact (show False from hr).elim
      | ret u =>
        obtain ⟨v, H', e1, e2, un, hok', rv, hv⟩ := hr
        have hv : v = .bl true := hv
        subst hv
        have hu : u = Value.bool true := rv
        subst hu
        refine ⟨rfl, OldK.of_keep fun b o e => ?_, e1, e2⟩
        cases q : H b with
        | none => exact un.keep b o e q (by intro z; cases z) (by simp)
        | some z =>
          obtain ⟨_, ob, ys, rfl⟩ := only b z q
          obtain ⟨k1, _⟩ := hok b _ q
          obtain ⟨k2, _⟩ := hok' b _ (un.frzs b ob _ q)
          rw [e] at k1
          cases k1
          exact k2
  cases hk : K.lookup a with
  | some o =>
    have e := inK a o hk
    rw [hob] at e
    cases e
    exact main (fun _ => none) (fun b u z => nomatch z) (.inr ⟨_, vs.toArray, _, hk, rfl, rfl, rfl, by rw [List.size_toArray, leq]; exact hlen, by simpa using vals⟩) (fun b u z => nomatch z) fun z => absurd rfl z
  | none =>
    refine main (fun b => if b = a then some (.frz { cls := .type "list", data := .seq vs.toArray } (.lst (ns.map V.int))) else none) (fun b u z => ?_) (.inl (.inr ⟨_, if_pos rfl⟩)) (fun b u z => ?_) fun _ => hk
    · by_cases hb : b = a
      · have z2 := (if_pos hb).symm.trans z
        cases z2; exact ⟨hb, _, _, rfl⟩
      · have z2 := (if_neg hb).symm.trans z
        cases z2
    · by_cases hb : b = a
      · have z2 := (if_pos hb).symm.trans z
        cases z2
        subst hb
        exact ⟨hob, by rw [List.length_map]; exact hlen, vs, _, vals, hob⟩
      · have z2 := (if_neg hb).symm.trans z
        cases z2
/-- the goal that k_head leaves -/
theorem walkG {l : PySem.W.OpenLaw} {n k : Nat} {q : Program} {loose : List Str} {XP : (Str → Option Value) → Heap → Prop} {YP : World → Heap → Prop} {d : DefRec} {K : Params → PySem.W.Frag} {x : Str} {m : List D → Option Sl}
    (hn : l.most = some n) (hn2 : n ≤ sizeLine) (hdf : d.params.defaults = []) (room : Room k callerA) (hY : ∀ (w : World) (h : Heap), YP w h → (K w.params).In h)
    (G : ∀ (w : World) (mg : Str → Option Value) (fa : Addr) (h : Heap), (K w.params).In h → h.Ns mainGlobals mg → mg d.name = some (.ref fa) →
      ∃ fd : FuncData, (∀ (s : Shared) (u : Value), BindsTo s fd ⟨[u], []⟩ [(x, u)]) ∧ ∀ base : Heap, (K w.params).In base → base.Ns mainGlobals mg → FnG l.prog w (K w.params) mg base k fa fd [x] (spP (K w.params) 1 m))
    (good : ∀ ns : List Int, ns.length ≤ n → m [.list (ns.map .int)] = some (.v (.bool true))) :
    PySem.W.WalkO q loose XP YP l.row.toRowW d [] (fun f vs => PySem.call f vs) := by
  refine Att.attach_call hn hdf fun w s0 s1 mg mb fa o pm cd doc a vs ns TT Y ho hd hcd hmg hob hns hlen hgens => ?_
  have inK := hY w _ Y
  obtain ⟨fd, bnd, hG⟩ := G w mg fa _ inK TT.T.g hmg
  exact lawG inK TT.T.g TT.T.b TT.T.builtins TT.T.nolimit hgens hob hns (Nat.le_trans hlen hn2) room hG bnd (good ns hlen)
end Dl
set_option Elab.async false
set_option linter.all false
set_option maxRecDepth 100000
namespace Dl
open PySem PySem.Spec PyProof.Rows L2

/-! ### a def as the head tells it -/
structure Df (K : PySem.W.Frag) (mg : Str → Option Value) (x : Str) (sd : Stmt) (ps : List Str) : Type where
  f : Addr
  fd : FuncData
  F : Fun K x x sd f fd
  g : mg x = some (.ref f)
  b : L2.Binds K fd ps []
  bA : ∀ (s : Shared) (us : List Value), us.length = ps.length → BindsTo s fd ⟨us, []⟩ (ps.zip us)
theorem fun_of {K : PySem.W.Frag} {x qual : Str} {st : Stmt} {f : Addr} {fd : FuncData} (F : FunD K x qual (defArgs st) (defBody st) (defScope st) [] [] f fd) : Fun K x qual st f fd := by
  obtain ⟨oc, od, dV, kV, doc, pm, an, cdv, ct, osl, e, l, c, hd, _⟩ := F.ex
  rcases hd with ⟨_, e2⟩ | ⟨e2, _⟩
  · subst e2
    exact ⟨⟨oc, od, kV, doc, pm, an, cdv, ct, osl, e, l, c⟩, F.kp⟩
  · exact absurd rfl e2
def Df.mk' {K : PySem.W.Frag} {mg : Str → Option Value} {x : Str} {sd : Stmt} {ps : List Str} {f : Addr} (fd : {fd : FuncData // FunD K x x (defArgs sd) (defBody sd) (defScope sd) [] [] f fd}) (g : mg x = some (.ref f))
    (h : ∀ (kV doc pm : Value) (an : Option Addr) (cdv ct : Value) (us : List Value), us.length = ps.length → bindArgs (PySem.W.fnOf x x (defArgs sd) (defBody sd) (defScope sd) .none kV doc pm an cdv ct) ⟨us, []⟩ = pure (ps.zip us)) : Df K mg x sd ps :=
  ⟨f, fd.1, fun_of fd.2, g, fd.2.bindsN h, fun s us e => fd.2.bindsA h s us e⟩

theorem hu64 {k : Nat} {A : Around} (r : Room k A) : A.units + 64 < cLine := r.units
theorem hu65 {k : Nat} {A : Around} (r : Room k A) : A.units + 65 < cLine := by have := r.un; omega

variable {X : Cx}
/-! ### + of ints, tuples, texts -/
def addA : D → D → Option D := fun a b => (addD a b).or ((catTD a b).or (catSD a b))
theorem addA_int (i j : Int) : addA (.int i) (.int j) = some (.int (i + j)) := rfl
theorem addA_tup (xs ys : List D) : addA (.tuple xs) (.tuple ys) = catTD (.tuple xs) (.tuple ys) := by
  unfold addA addD catSD
  simp
theorem de_addA {a b : Expr} {pos : Pos} {fa fb : Fe} (ha : DE X a fa) (hb : DE X b fb) : DE X (.BinOp a .Add b pos) (eBin addA fa fb) :=
  de_op (op_add.or (op_catA.or op_add_str)) (ok_add.or (ok_catT.or ok_catS)) ha hb

/-! ### slices of a list or a tuple -/
def eSlU (fa : Fe) (fl fh : Fo) : Fe := fun g => (fa g).bind fun p => (fl p.2).bind fun l => (fh l.2).bind fun h => match p.1 with
  | .tuple ds => some (.tuple (cutL ds l.1 h.1), h.2)
  | .list ds => some (.list (cutL ds l.1 h.1), h.2)
  | _ => none
/-- a new list, frozen at once -/
theorem newLstF {K : PySem.W.Frag} {F H : Hp} {vs : List V} {ds : List D} {Q : VK} (fh : Same F H) (hp : DpAll K F vs ds) (k : ∀ v F' H', Dp K F' v (.list ds) → Same F' H' → Stp Non F H F' H' → Q v H') : ∀ p, H p = none → Q (.ref p) (upd H p (.lst vs)) := fun p np =>
  k (.ref p) (upd F p (.lst vs)) _ (.lst (SqL.of upd_same) (dpUpd hp (nF fh np))) (sameLaid fh np) (Stp.laid np fh)
theorem de_sl {a : Expr} {lo hi : Option Expr} {p2 pos : Pos} {fa : Fe} {fl fh : Fo} (ha : DE X a fa) (hl : DO X lo fl) (hu : DO X hi fh) : DE X (.Subscript a (.Slice lo hi none p2) pos) (eSlU fa fl fh) := peMono (pe_slice (SlR.or sl_tupA sl_list) ha hl hu) fun s H Q ⟨F, g, d, g', rp, e, k⟩ => by
  unfold eSlU at e
  cases q : fa g with
  | none => rw [q] at e; cases e
  | some p =>
    rw [q] at e
    have e : (fl p.2).bind _ = some (d, g') := e
    cases q2 : fl p.2 with
    | none => rw [q2] at e; cases e
    | some l =>
      rw [q2] at e
      have e : (fh l.2).bind _ = some (d, g') := e
      cases q3 : fh l.2 with
      | none => rw [q3] at e; cases e
      | some h =>
        rw [q3] at e
        obtain ⟨d1, g1⟩ := p
        obtain ⟨l, g2⟩ := l
        obtain ⟨h, g3⟩ := h
        cases d1 with
        | tuple ds =>
          cases e
          refine ⟨F, g, _, g1, rp, q, fun v F1 H1 p1 r1 t1 m1 => ⟨F1, g1, l, g2, r1, q2, fun F2 H2 r2 t2 m2 => ⟨F2, g2, h, g3, r2, q3, fun F3 H3 r3 t3 m3 => .inl ?_⟩⟩⟩
          have p3 := dpMono (t2.fs.trans t3.fs) _ _ p1
          have tt := (t1.two m1 t2).two (m1.trans m2) t3
          have mm := (m1.trans m2).trans m3
          cases p3 with
          | tup hs hp =>
            refine ⟨_, _, rfl, Same.tupS r3.fh hs, fun hw => ?_, fun _ => newTup r3.fh (dpCut hp) fun v F' H' hv fh st => k v F' H' hv (r3.stepN st fh) (tt.andN st) mm⟩
            rw [dpLen hp] at hw
            exact k _ F3 H3 (.tup hs (by rw [cut_whole hw.1 hw.2]; exact hp)) r3 tt mm
        | list ds =>
          cases e
          refine ⟨F, g, _, g1, rp, q, fun v F1 H1 p1 r1 t1 m1 => ⟨F1, g1, l, g2, r1, q2, fun F2 H2 r2 t2 m2 => ⟨F2, g2, h, g3, r2, q3, fun F3 H3 r3 t3 m3 => .inr ?_⟩⟩⟩
          have p3 := dpMono (t2.fs.trans t3.fs) _ _ p1
          have tt := (t1.two m1 t2).two (m1.trans m2) t3
          have mm := (m1.trans m2).trans m3
          cases p3 with
          | lst hs hp => exact ⟨_, _, rfl, r3.fh.seq hs, newLstF r3.fh (dpCut hp) fun v F' H' hv fh st => k v F' H' hv (r3.stepN st fh) (tt.andN st) mm⟩
        | _ => cases e

/-! ### in, not in -/
def rInU (K : PySem.W.Frag) (neg : Bool) : R2 := fun x y H Q => ∃ d ds, Dp K H x d ∧ (Dp K H y (.list ds) ∨ Dp K H y (.tuple ds)) ∧ SeqAt.shaped d = true ∧ SeqAt.shaped (.list ds) = true ∧ Q (.bl (neg ^^ (ds.any fun z => PyData.eqv z d))) H
theorem op_inU (hu : X.A.units + 65 < cLine) : OpR X (compareOp .In) (rInU X.K false) := by
  intro pins s σ H x y v u Q I rx ry h
  obtain ⟨d, ds, hd, he, sd, se, q⟩ := h
  rw [Bool.false_xor] at q
  obtain ⟨as, r1⟩ := Dp.reads I d x v hd rx
  rcases he with he | he
  · obtain ⟨bs, r2⟩ := Dp.reads I (.list ds) y u he ry
    exact SeqAt.in_list_reads r2 r1 (SeqAt.canLay_of_shaped se) (SeqAt.canLay_of_shaped sd) (room_in_shaped sd hu) ⟨.bl _, H, I, rfl, q⟩
  · obtain ⟨bs, r2⟩ := Dp.reads I (.tuple ds) y u he ry
    exact SeqAt.in_tuple_reads r2 r1 (SeqAt.canLay_of_shaped se) (SeqAt.canLay_of_shaped sd) (room_in_shaped sd hu) ⟨.bl _, H, I, rfl, q⟩
theorem op_notInU (hu : X.A.units + 65 < cLine) : OpR X (compareOp .NotIn) (rInU X.K true) := by
  intro pins s σ H x y v u Q I rx ry h
  obtain ⟨d, ds, hd, he, sd, se, q⟩ := h
  rw [Bool.true_xor] at q
  obtain ⟨as, r1⟩ := Dp.reads I d x v hd rx
  rcases he with he | he
  · obtain ⟨bs, r2⟩ := Dp.reads I (.list ds) y u he ry
    exact SeqAt.notIn_list_reads r2 r1 (SeqAt.canLay_of_shaped se) (SeqAt.canLay_of_shaped sd) (room_in_shaped sd hu) ⟨.bl _, H, I, rfl, q⟩
  · obtain ⟨bs, r2⟩ := Dp.reads I (.tuple ds) y u he ry
    exact SeqAt.notIn_tuple_reads r2 r1 (SeqAt.canLay_of_shaped se) (SeqAt.canLay_of_shaped sd) (room_in_shaped sd hu) ⟨.bl _, H, I, rfl, q⟩
def inGD (neg : Bool) : D → D → Option D
  | d, .list ds => if SeqAt.shaped d = true ∧ SeqAt.shaped (.list ds) = true then some (.bool (neg ^^ (ds.any fun z => PyData.eqv z d))) else none
  | d, .tuple ds => if SeqAt.shaped d = true ∧ SeqAt.shaped (.list ds) = true then some (.bool (neg ^^ (ds.any fun z => PyData.eqv z d))) else none
  | _, _ => none
abbrev inD : D → D → Option D := inGD false
abbrev notinD : D → D → Option D := inGD true
theorem ok_inG {neg : Bool} : BinOk X.K (rInU X.K neg) (inGD neg) := fun x y d1 d2 d F H Q fh p1 p2 e k => by
  unfold inGD at e
  split at e
  · split at e
    · rename_i hc
      cases e
      exact ⟨_, _, dpMono fh _ _ p1, .inl (dpMono fh _ _ p2), hc.1, hc.2, fin0 fh (.bl _) k⟩
    · cases e
  · split at e
    · rename_i hc
      cases e
      exact ⟨_, _, dpMono fh _ _ p1, .inr (dpMono fh _ _ p2), hc.1, hc.2, fin0 fh (.bl _) k⟩
    · cases e
  · cases e
theorem isb_inG {neg : Bool} : IsBo (inGD neg) := fun d e c h => by
  unfold inGD at h
  split at h
  · split at h
    · cases h; exact ⟨_, rfl⟩
    · cases h
  · split at h
    · cases h; exact ⟨_, rfl⟩
    · cases h
  · cases h
section
variable {a b : Expr} {pos : Pos} {fa fb : Fe}
theorem de_in (hu : X.A.units + 65 < cLine) (ha : DE X a fa) (hb : DE X b fb) (hm : behindInMarks .In b = false := by rfl) : DE X (.Compare a [.In] [b] pos) (eBin inD fa fb) := de_cmp (op_inU hu) ok_inG hm ha hb
theorem de_notin (hu : X.A.units + 65 < cLine) (ha : DE X a fa) (hb : DE X b fb) (hm : behindInMarks .NotIn b = false := by rfl) : DE X (.Compare a [.NotIn] [b] pos) (eBin notinD fa fb) := de_cmp (op_notInU hu) ok_inG hm ha hb
theorem dt_in (hu : X.A.units + 65 < cLine) (ha : DE X a fa) (hb : DE X b fb) (hm : behindInMarks .In b = false := by rfl) : DT X (.Compare a [.In] [b] pos) (tOf (eBin inD fa fb)) := dt_cmp (op_inU hu) ok_inG isb_inG hm ha hb
theorem dt_notin (hu : X.A.units + 65 < cLine) (ha : DE X a fa) (hb : DE X b fb) (hm : behindInMarks .NotIn b = false := by rfl) : DT X (.Compare a [.NotIn] [b] pos) (tOf (eBin notinD fa fb)) := dt_cmp (op_notInU hu) ok_inG isb_inG hm ha hb
end

/-! ### l.append(e) -/
theorem de_append (i : Nat) {x : Str} {a : Expr} {f : Fv} {pos p1 p2 : Pos} (he : DV X a f) (hN : X.N[i]? = some x := by rfl) (hv : Vis X.env.scope x := by first | exact Or.inl rfl | exact Or.inr (Or.inl rfl) | exact Or.inr (Or.inr rfl)) (hd : (x == ("__debug__" : Str)) = false := by decide)
    (hcd : (x == ("__classdict__" : Str)) = false := by decide) (hbase : attributeBase (.Name x p1) "append" X.env (eval (.Name x p1) X.env) = eval (.Name x p1) X.env := by rfl)
    (hfew : ((backTo pos (starEach [a] X.env)).all (fun x => !x.1) && (backToKw pos (keywordEach [] X.env)).all (fun x => x.1.isSome)
      && decide ([a].length + ([] : List Keyword).length + (if ([] : List Keyword).isEmpty then 0 else 1) < 30)) = true := by rfl)
    (hline : (p2.endLine == pos.line) = true := by rfl) (hs : starEach [a] X.env = (false, eval a X.env) :: starEach [] X.env := by rfl) (hplain : (backTo pos (starEach [] X.env)).any (·.1) = false := by rfl) :
    DE X (.Call (.Attribute (.Name x p1) "append" p2) [a] [] pos) (eApp i f) :=
  de_app i he hN hv hd hcd (pe_bm PySem.F.plainAttrs_list PySem.F.slot_list_append PySem.F.type_list_append mt_append (pe_var hN hv hd hcd) (pa_cons (de_dv he) pa_nil hs) hbase hfew hline hs hplain)

/-! ### a, b = e1, e2 where one is a cell -/
theorem ds_parC (i j : Nat) {x y : Str} {a b : Expr} {f h : Fv} {pos px py pt : Pos} {kt k2 pt2} (hc : X.calm = true) (hN : X.N.Nodup) (ha : DV X a f) (hb : DV X b h) (hi : X.N[i]? = some x := by rfl) (hj : X.N[j]? = some y := by rfl)
    (hx : Loc X.env.scope x := by first | exact Or.inl rfl | exact Or.inr rfl) (hy : Loc X.env.scope y := by first | exact Or.inl rfl | exact Or.inr rfl)
    (hfx : X.fn x = true ∨ X.env.scope.names.lookup x = some .local := by first | exact .inl rfl | exact .inr rfl | assumption) (hfy : X.fn y = true ∨ X.env.scope.names.lookup y = some .local := by first | exact .inl rfl | exact .inr rfl | assumption)
    (hs : swapsWithSole [.Tuple [.Name x px, .Name y py] kt pt] (.Tuple [a, b] k2 pt2) pos.line X.env = pure false := by rfl)
    (hw : swappedStores [.Tuple [.Name x px, .Name y py] kt pt] (.Tuple [a, b] k2 pt2) X.env = pure none := by rfl)
    (hg : (assignEach [.Tuple [.Name x px, .Name y py] kt pt] X.env).map (·.2) = [assign (.Tuple [.Name x px, .Name y py] kt pt) X.env] := by rfl)
    (hn : (assignEach [.Name x px, .Name y py] X.env).length = 2 := by rfl) (hst : (assignEach [.Name x px, .Name y py] X.env).findIdx? (·.1) = none := by rfl)
    (hg1 : (assignEach [.Name x px, .Name y py] X.env).map (·.2) = assign (.Name x px) X.env :: (assignEach [.Name y py] X.env).map (·.2) := by rfl) (hg2 : (assignEach [.Name y py] X.env).map (·.2) = assign (.Name y py) X.env :: (assignEach [] X.env).map (·.2) := by rfl)
    (h1 : starEach [a, b] X.env = (false, eval a X.env) :: starEach [b] X.env := by rfl) (h2 : starEach [b] X.env = (false, eval b X.env) :: starEach [] X.env := by rfl) :
    DS X (.Assign [.Tuple [.Name x px, .Name y py] kt pt] (.Tuple [a, b] k2 pt2) pos) (sPar i j f h) := psMono (ps_asg (pe_tup (pa_cons ha (pa_cons hb pa_nil h2) h1)) (pg_tup hc (pgs_cons (pg_name hN hi hx hfx) (pgs_cons (pg_name hN hj hy hfy) pgs_nil hg2) hg1) hn hst) hs hw hg) fun D s H ⟨F, g, o, r, e, k⟩ => by
  unfold sPar at e
  cases q : f g with
  | none => rw [q] at e; cases e
  | some p =>
    obtain ⟨x1, g1⟩ := p
    rw [q] at e
    have e : (h g1).bind _ = some o := e
    cases q2 : h g1 with
    | none => rw [q2] at e; cases e
    | some p2 =>
      obtain ⟨x2, g2⟩ := p2
      rw [q2] at e
      have e : parOut i j x1 x2 g2 = some o := e
      have hx1 : x1 ≠ .no := fun z => by subst z; cases e
      have hx2 : x2 ≠ .no := fun z => by subst z; cases x1 <;> cases e
      have eo : o = Out.nx ((g2.set i x1).set j x2) := by
        cases x1 <;> cases x2 <;> first | (cases e; rfl) | exact absurd rfl hx1 | exact absurd rfl hx2
      subst eo
      refine ⟨F, g, x1, g1, r, q, fun v F1 H1 hv hn r1 t1 m1 => ⟨F1, g1, x2, g2, r1, q2, fun w F2 H2 hw2 hn2 r2 t2 m2 => ⟨sl1000 (by decide : 2 ≤ 1000), fun p np => ⟨p, [v, w], rfl, SqT.of upd_same, rfl, v, [w], rfl, w, [], rfl, rfl, ?_⟩⟩⟩⟩
      have na : ∀ a, H a = none → ¬ OwnAt g1 s a := fun a ha z => by
        obtain ⟨xs, hx, _⟩ := r.ownSome (m1.own z)
        rw [ha] at hx; cases hx
      have hv2 : RepS X.K F2 H2 x1 (some v) := keepRep r1 hv t2 (fun tg ds z => by
        obtain ⟨_, a, ea, n⟩ := hn tg ds z
        exact ⟨a, ea, na a n⟩) r2.fh
      have t02 := Tr.of r2 (t1.two m1 t2) (m1.trans m2)
      have s1 := par_set i t02 hv2 hx1 fun tg ds z => by
        obtain ⟨e1, a, ea, n⟩ := hn tg ds z
        exact ⟨e1, a, ea, n, fun z2 => na a n (m2.own z2)⟩
      have s2 := par_set j s1 hw2 hx2 fun tg ds z => by
        obtain ⟨e1, a, ea, n⟩ := hn2 tg ds z
        refine ⟨e1, a, ea, ?_, fun z2 => ?_⟩
        · cases z3 : H a with
          | none => rfl
          | some u => exact absurd n (t1.dom a (by rw [z3]; simp))
        · rcases ownIn z2 r2.len with q3 | ⟨_, _, e3, e4⟩
          · obtain ⟨xs, hx, _⟩ := r1.ownSome (m2.own q3)
            rw [n] at hx; cases hx
          · subst e3
            cases e4
            obtain ⟨a', xs, ea', _, ha', _⟩ := hv
            cases ea'
            rw [n] at ha'; cases ha'
      exact k F2 _ _ (s2.trans (Tr.of (s2.rep.stepN (Stp.made np) (sameMade s2.rep.fh np)) (Stp.made np) Mo.refl))

/-! ### the root -/
theorem walkK {l : PySem.W.OpenLaw} {n k : Nat} {q : Program} {loose : List Str} {XP : (Str → Option Value) → Heap → Prop} {YP : World → Heap → Prop} {d : DefRec} {x : Str} {m : List D → Option Sl}
    (hn : l.most = some n) (hn2 : n ≤ sizeLine) (hdf : d.params.defaults = []) (room : Room k callerA)
    (G : ∀ (w : World) (mg : Str → Option Value) (fa : Addr) (h : Heap), YP w h → h.Ns mainGlobals mg → mg d.name = some (.ref fa) →
      ∃ (K : PySem.W.Frag) (fd : FuncData), K.In h ∧ (∀ (s : Shared) (u : Value), BindsTo s fd ⟨[u], []⟩ [(x, u)]) ∧ ∀ base : Heap, K.In base → base.Ns mainGlobals mg → FnG l.prog w K mg base k fa fd [x] (spP K 1 m))
    (good : ∀ ns : List Int, ns.length ≤ n → m [.list (ns.map .int)] = some (.v (.bool true))) :
    PySem.W.WalkO q loose XP YP l.row.toRowW d [] (fun f vs => PySem.call f vs) := by
  refine Att.attach_call hn hdf fun w s0 s1 mg mb fa o pm cd doc a vs ns TT Y ho hd hcd hmg hob hns hlen hgens => ?_
  obtain ⟨K, fd, inK, bnd, hG⟩ := G w mg fa _ Y TT.T.g hmg
  exact lawG inK TT.T.g TT.T.b TT.T.builtins TT.T.nolimit hgens hob hns (Nat.le_trans hlen hn2) room hG bnd (good ns hlen)
end Dl
set_option Elab.async false
set_option linter.all false
set_option maxRecDepth 100000
namespace Dl
open PySem PySem.Spec PyProof.Rows L2
variable {X : Cx}

/-! ### methods of a list of the frame's own, one argument -/
def M1Ok (K : PySem.W.Frag) (r : V → List V → Hp → VK → Prop) (op : List D → D → Option (D × List D)) : Prop := ∀ (l : Addr) (xs : List V) (ds : List D) (y : V) (d : D) (F H : Hp) (res : D) (ds' : List D) (Q : VK), H l = some (.lst xs) → DpAll K F xs ds → Dp K F y d → op ds d = some (res, ds') →
  (∀ v ys, Dp K F v res → DpAll K F ys ds' → Q v (upd H l (.lst ys))) → r (.ref l) [y] H Q
def eM1 (op : List D → D → Option (D × List D)) (i : Nat) (f : Fe) : Fe := fun g => (ownD g[i]?).bind fun _ => (f g).bind fun q => match q.2[i]? with
  | some (.own t ds) => (op ds q.1).map fun r => (r.1, q.2.set i (.own t r.2))
  | _ => none
theorem de_m1 (i : Nat) {x n : Str} {id : String} {a : Expr} {f : Fe} {pos p1 p2 : Pos} {r : V → List V → Hp → VK → Prop} {op : List D → D → Option (D × List D)} (slot : Slot "list" n id) (hty : typeOf (.builtin id) = pure (.type "method_descriptor")) (hm : MtR X id r) (ok : M1Ok X.K r op)
    (he : DE X a f) (hN : X.N[i]? = some x := by rfl) (hv : Vis X.env.scope x := by first | exact Or.inl rfl | exact Or.inr (Or.inl rfl) | exact Or.inr (Or.inr rfl)) (hd : (x == ("__debug__" : Str)) = false := by decide)
    (hcd : (x == ("__classdict__" : Str)) = false := by decide) (hbase : attributeBase (.Name x p1) n X.env (eval (.Name x p1) X.env) = eval (.Name x p1) X.env := by rfl)
    (hfew : ((backTo pos (starEach [a] X.env)).all (fun x => !x.1) && (backToKw pos (keywordEach [] X.env)).all (fun x => x.1.isSome)
      && decide ([a].length + ([] : List Keyword).length + (if ([] : List Keyword).isEmpty then 0 else 1) < 30)) = true := by rfl)
    (hline : (p2.endLine == pos.line) = true := by rfl) (hs : starEach [a] X.env = (false, eval a X.env) :: starEach [] X.env := by rfl) (hplain : (backTo pos (starEach [] X.env)).any (·.1) = false := by rfl) :
    DE X (.Call (.Attribute (.Name x p1) n p2) [a] [] pos) (eM1 op i f) :=
  peMono (pe_bm PySem.F.plainAttrs_list slot hty hm (pe_var hN hv hd hcd) (pa_cons he pa_nil hs) hbase hfew hline hs hplain) fun s H Q ⟨F, g, d, g', r0, e, k⟩ => by
    unfold eM1 at e
    cases q0 : ownD g[i]? with
    | none => rw [q0] at e; cases e
    | some d0 =>
      rw [q0] at e
      have e : (f g).bind _ = some (d, g') := e
      cases q2 : f g with
      | none => rw [q2] at e; cases e
      | some p2 =>
        obtain ⟨dj, g2⟩ := p2
        rw [q2] at e
        simp only [Option.bind_some] at e
        split at e
        · rename_i tg ds hg
          cases q3 : op ds dj with
          | none => rw [q3] at e; cases e
          | some rr =>
            rw [q3] at e
            cases e
            have hw : ∃ w xs, s[i]? = some (some (.ref w)) ∧ H w = some (.lst xs) := by
              unfold ownD at q0
              split at q0
              · rename_i t0 ds0 hx0
                obtain ⟨o, ho, a, xs, ea, _, ha, _⟩ := r0.get hx0
                subst ea
                exact ⟨a, xs, ho, ha⟩
              · cases q0
            obtain ⟨w, xs0, hw, hxs0⟩ := hw
            refine ⟨.ref w, hw, .inl ⟨rfl, _, SqL.of hxs0⟩, F, g, dj, g2, r0, q2, fun vj F2 H2 hpj r2 t2 m2 => ?_⟩
            obtain ⟨o, ho, a, xs, eo, fa, hal, hps, ht⟩ := r2.get hg
            rw [hw] at ho; cases ho; cases eo
            refine ok w xs ds vj dj F2 H2 _ _ Q hal hps hpj q3 fun v ys hv hys => ?_
            have tr := r2.turn hg hw hys
            exact k v F2 _ hv tr.rep (t2.two m2 tr.stp) (m2.trans (moSet hg))
        · cases e
def popD : List D → D → Option (D × List D)
  | ds, .int i => match ixN ds.length i with
    | some k => (ds[k]?).map fun d => (d, ds.eraseIdx k)
    | none => none
  | _, _ => none
theorem dpErase {K : PySem.W.Frag} {H : Hp} : ∀ (n : Nat) {vs : List V} {ds : List D}, DpAll K H vs ds → DpAll K H (vs.eraseIdx n) (ds.eraseIdx n)
  | _, _, [], h => by cases h; exact .nil
  | 0, _, d :: ds, h => by
    cases h with
    | cons h1 h2 => exact h2
  | n + 1, _, d :: ds, h => by
    cases h with
    | cons h1 h2 => exact .cons h1 (dpErase n h2)
theorem ok_pop : M1Ok X.K (fun x vs H Q => rPopAt x vs H Q) (fun ds d => match d with
    | .int i => if -(2 ^ 63) ≤ i ∧ i < 2 ^ 63 then popD ds d else none
    | _ => none) := fun l xs ds y d F H res ds' Q hl hx hy e k => by
  cases d with
  | int i =>
    simp only at e
    split at e
    · rename_i hi
      unfold popD at e
      simp only at e
      split at e
      · rename_i kk hk
        cases q : ds[kk]? with
        | none => rw [q] at e; cases e
        | some d0 =>
          rw [q] at e; cases e
          obtain ⟨v, hv, hd⟩ := dpAt hx q
          refine ⟨l, xs, i, kk, v, rfl, by rw [intOf hy], hl, hi.1, hi.2, ?_, hv, k v _ hd (dpErase kk hx)⟩
          rw [dpLen hx]
          exact (ixN_seq hk).1
      · cases e
    · cases e
  | _ => cases e
def popOp : List D → D → Option (D × List D) := fun ds d => match d with
    | .int i => if -(2 ^ 63) ≤ i ∧ i < 2 ^ 63 then popD ds d else none
    | _ => none
theorem de_pop (i : Nat) {x : Str} {a : Expr} {f : Fe} {pos p1 p2 : Pos} (he : DE X a f) (hN : X.N[i]? = some x := by rfl) (hv : Vis X.env.scope x := by first | exact Or.inl rfl | exact Or.inr (Or.inl rfl) | exact Or.inr (Or.inr rfl)) (hd : (x == ("__debug__" : Str)) = false := by decide)
    (hcd : (x == ("__classdict__" : Str)) = false := by decide) (hbase : attributeBase (.Name x p1) "pop" X.env (eval (.Name x p1) X.env) = eval (.Name x p1) X.env := by rfl)
    (hfew : ((backTo pos (starEach [a] X.env)).all (fun x => !x.1) && (backToKw pos (keywordEach [] X.env)).all (fun x => x.1.isSome)
      && decide ([a].length + ([] : List Keyword).length + (if ([] : List Keyword).isEmpty then 0 else 1) < 30)) = true := by rfl)
    (hline : (p2.endLine == pos.line) = true := by rfl) (hs : starEach [a] X.env = (false, eval a X.env) :: starEach [] X.env := by rfl) (hplain : (backTo pos (starEach [] X.env)).any (·.1) = false := by rfl) :
    DE X (.Call (.Attribute (.Name x p1) "pop" p2) [a] [] pos) (eM1 popOp i f) := de_m1 i PySem.F.slot_list_pop PySem.F.type_list_pop mt_popAt ok_pop he hN hv hd hcd hbase hfew hline hs hplain
end Dl
set_option Elab.async false
set_option linter.all false
set_option maxRecDepth 100000
namespace Dl
open PySem PySem.Spec PyProof.Rows L2
variable {X : Cx}

/-! ### a built-in that makes a list of the frame's own out of one argument -/
def V1Ok (K : PySem.W.Frag) (r : List V → Hp → VK → Prop) (op : D → Option (List D)) : Prop := ∀ (v : V) (d1 : D) (ds : List D) (F H : Hp) (Q : VK), Same F H → BD K F H v d1 → op d1 = some ds →
  (∀ vs p, DpAll K F vs ds → H p = none → Q (.ref p) (upd H p (.lst vs))) → r [v] H Q
def v1 (op : D → Option (List D)) (f : Fe) : Fv := fun g => (f g).bind fun p => (op p.1).map fun ds => (.own none ds, p.2)
theorem v1_of {op : D → Option (List D)} {f : Fe} {g g1 : G} {d : D} {ds : List D} (e : f g = some (d, g1)) (h : op d = some ds) : v1 op f g = some (.own none ds, g1) := by
  unfold v1
  simp only [e, h, Option.bind_some, Option.map_some]
theorem tCV_of {K : PySem.W.Frag} {r : List V → Hp → VK → Prop} {op : D → Option (List D)} {f : Fe} (ok : V1Ok K r op) {s : Sg} {H : Hp} {Q : VK} (h : tV K (v1 op f) s H Q) : tCB r (tCons (tB K f) tNil) s H Q := by
  obtain ⟨F, g, x, g', rp, e, k⟩ := h
  unfold v1 at e
  cases q : f g with
  | none => rw [q] at e; cases e
  | some p =>
    obtain ⟨d1, g1⟩ := p
    rw [q] at e
    have e : (op d1).map _ = some (x, g') := e
    cases q2 : op d1 with
    | none => rw [q2] at e; cases e
    | some ds =>
      rw [q2] at e; cases e
      refine ⟨F, g, d1, _, rp, q, fun v1 F1 H1 p1 r1 t1 m1 => ok v1 d1 ds F1 H1 Q r1.fh p1 q2 fun vs p hvs np => ?_⟩
      exact newLst r1 hvs t1 m1 k p np
theorem dv_b1 {x : Str} {id : String} {p pos : Pos} {a : Expr} {f : Fe} {r : List V → Hp → VK → Prop} {op : D → Option (List D)} (hc : CallR X (.builtin id) r) (ok : V1Ok X.K r op) (hg : Gl X x) (hm : X.mg x = none) (hv : bootBuiltins x = some (.builtin id)) (ha : DB X a f)
    (hn : x ≠ "__name__" := by decide) (hdb : (x == ("__debug__" : Str)) = false := by decide) (he : starEach [a] X.env = (false, eval a X.env) :: starEach [] X.env := by rfl) (hpl : (backTo pos (starEach [] X.env)).any (·.1) = false := by rfl) : DV X (.Call (.Name x p) [a] [] pos) (v1 op f) :=
  peMono (pe_callB hc hg hm hv (pa_cons ha pa_nil he) hn hdb he hpl) fun _ _ _ h => tCV_of ok h
theorem dv_t1 {x : Str} {id : String} {p pos : Pos} {a : Expr} {f : Fe} {r : List V → Hp → VK → Prop} {op : D → Option (List D)} (hc : CallR X (.type id) r) (ok : V1Ok X.K r op) (hg : Gl X x) (hm : X.mg x = none) (hv : bootBuiltins x = some (.type id)) (ha : DB X a f)
    (hn : x ≠ "__name__" := by decide) (hdb : (x == ("__debug__" : Str)) = false := by decide) (he : starEach [a] X.env = (false, eval a X.env) :: starEach [] X.env := by rfl) (hpl : (backTo pos (starEach [] X.env)).any (·.1) = false := by rfl) : DV X (.Call (.Name x p) [a] [] pos) (v1 op f) :=
  peMono (pe_callTy hc hg hm hv (pa_cons ha pa_nil he) hn hdb he hpl) fun _ _ _ h => tCV_of ok h
theorem BD.seq {K : PySem.W.Frag} {F H : Hp} {v : V} {d : D} {ds : List D} (h : BD K F H v d) (fh : Same F H) (e : seqD d = some ds) : ∃ p ys, v = .ref p ∧ (SqL K H p ys ∨ SqT K H p ys) ∧ DpAll K F ys ds := by
  rcases h with h | ⟨es, a, xs, rfl, rfl, ha, hp⟩
  · cases d with
    | list es =>
      cases e
      cases h with
      | lst hs ha => exact ⟨_, _, rfl, .inl (fh.seq hs), ha⟩
    | tuple es =>
      cases e
      cases h with
      | tup hs ha => exact ⟨_, _, rfl, .inr (Same.tupS fh hs), ha⟩
    | _ => cases e
  · cases e
    exact ⟨_, _, rfl, .inl (SqL.of ha), hp⟩
/-- list(x) -/
theorem ok_list : V1Ok X.K (fun xs H Q => ∃ p ys, xs = [.ref p] ∧ (SqL X.K H p ys ∨ SqT X.K H p ys) ∧ ∀ l, H l = none → Q (.ref l) (upd H l (.lst ys))) seqD := fun v d1 ds F H Q fh p e k => by
  obtain ⟨a, ys, rfl, h1, h2⟩ := p.seq fh e
  exact ⟨a, ys, rfl, h1, fun l nl => k ys l h2 nl⟩
theorem dv_list {p pos : Pos} {a : Expr} {f : Fe} (hg : Gl X "list") (hm : X.mg "list" = none) (ha : DB X a f) (he : starEach [a] X.env = (false, eval a X.env) :: starEach [] X.env := by rfl) (hpl : (backTo pos (starEach [] X.env)).any (·.1) = false := by rfl) :
    DV X (.Call (.Name "list" p) [a] [] pos) (v1 seqD f) := dv_t1 call_list_of ok_list hg hm (by decide +kernel) ha (by decide) (by decide) he hpl
/-- sorted of ints -/
def srtI (ns : List Int) : List Int := ns.mergeSort fun a b => decide (a ≤ b)
theorem srt_perm (ns : List Int) : (srtI ns).Perm ns := List.mergeSort_perm ..
theorem srt_sorted (ns : List Int) : (srtI ns).Pairwise (· ≤ ·) := by
  have := List.pairwise_mergeSort (le := fun a b : Int => decide (a ≤ b)) (by intro a b c h1 h2; simp at h1 h2 ⊢; omega) (by intro a b; simp; omega) ns
  exact this.imp fun h => by simpa using h
theorem srt_unique {ms ns : List Int} (h1 : ms.Perm ns) (h2 : ms.Pairwise (· ≤ ·)) : ms = srtI ns :=
  (h1.trans (srt_perm ns).symm).eq_of_pairwise (fun a b _ _ x y => Int.le_antisymm x y) h2 (srt_sorted ns)
def sortD : D → Option (List D)
  | .list ds => (intL ds).map fun ns => (srtI ns).map .int
  | _ => none
theorem dpInts {K : PySem.W.Frag} {F : Hp} : ∀ ns : List Int, DpAll K F (ns.map V.int) (ns.map .int)
  | [] => .nil
  | n :: r => .cons (.int n) (dpInts r)
theorem ok_sorted : V1Ok X.K (rSortedI X.K) sortD := fun v d1 ds F H Q fh p e k => by
  cases d1 with
  | list es =>
    have e : (intL es).map _ = some ds := e
    cases q : intL es with
    | none => rw [q] at e; cases e
    | some ns =>
      rw [q] at e; cases e
      have p' := p.dp fh
      cases p' with
      | lst hs ha =>
        have e2 := intL_of q ha
        subst e2
        exact ⟨_, ns, rfl, hs, fun ns' l hp hsrt nl => by rw [srt_unique hp hsrt]; exact k _ l (dpInts _) nl⟩
  | _ => cases e
theorem dv_sorted {p pos : Pos} {a : Expr} {f : Fe} (hg : Gl X "sorted") (hm : X.mg "sorted" = none) (ha : DB X a f) (he : starEach [a] X.env = (false, eval a X.env) :: starEach [] X.env := by rfl) (hpl : (backTo pos (starEach [] X.env)).any (·.1) = false := by rfl) :
    DV X (.Call (.Name "sorted" p) [a] [] pos) (v1 sortD f) := dv_b1 cr_sortedI ok_sorted hg hm (by decide +kernel) ha (by decide) (by decide) he hpl
end Dl
set_option Elab.async false
set_option linter.all false
set_option maxRecDepth 100000
namespace Dl
open PySem PySem.Spec PyProof.Rows L2

/-! ### zip of a list and a tuple, either way round -/
def Sq (t : Bool) (K : PySem.W.Frag) (H : Hp) (a : Addr) (xs : List V) : Prop := if t = true then SqT K H a xs else SqL K H a xs
def IterAt (t : Bool) (h : Heap) (i a : Addr) (k : Nat) : Prop := if t = true then h.IsTupleIter i a k else h.IsListIter i a k
def PlAt (t : Bool) (h : Heap) (a : Addr) (its : Array Value) : Prop := if t = true then h.IsTuple a its else h.IsList a its
def itObj (t : Bool) (a : Addr) : Obj := if t = true then { cls := .type "tuple_iterator", data := .fields #[.ref a, .int 0 0] } else { cls := .type "list_iterator", data := .fields #[.ref a, .int 0 0] }
theorem drawsX {prog : Program} {w : World} {A : Around} (hh : A.handled = none) (t : Bool) (it a : Addr) (hne : a ≠ it) (items : Array Value) :
    Draws prog w A it [it, a] items.size (fun i v => items[i]? = some v) (fun i h => IterAt t h it a i ∧ PlAt t h a items) := by
  cases t
  · exact Draws.list hh it a hne items
  · exact Draws.tuple hh it a hne items
theorem beginsX (t : Bool) (a : Addr) (items : Array Value) : Begins (.ref a) (itObj t a) fun h => PlAt t h a items := by
  cases t
  · exact begins_list a items
  · exact begins_tuple a items
theorem IterAt.obj {t : Bool} {h : Heap} {i a : Addr} {k : Nat} (x : IterAt t h i a k) : ∃ o, h.get? i = some o ∧ ∀ v, o.data ≠ .cell v := by
  cases t
  · obtain ⟨o, e, _, d⟩ := (show h.IsListIter i a k from x)
    exact ⟨o, e, fun v q => by rw [d] at q; cases q⟩
  · obtain ⟨o, e, _, d⟩ := (show h.IsTupleIter i a k from x)
    exact ⟨o, e, fun v q => by rw [d] at q; cases q⟩
theorem IterAt.at {t : Bool} {h h' : Heap} {i a : Addr} {k : Nat} (x : IterAt t h i a k) (kp : ∀ o, h.get? i = some o → h'.get? i = some o) : IterAt t h' i a k := by
  cases t
  · exact (show h.IsListIter i a k from x).at kp
  · exact (show h.IsTupleIter i a k from x).at kp
theorem IterAt.new {t : Bool} {h : Heap} {i a : Addr} (x : h.get? i = some (itObj t a)) : IterAt t h i a 0 := by
  cases t
  · exact ⟨_, x, rfl, rfl⟩
  · exact ⟨_, x, rfl, rfl⟩
theorem invSq {X : Cx} {pins : List (Addr × Obj)} {σ : L2.St} {H : Hp} {s : Shared} (I : Inv X pins σ H s) {t : Bool} {a : Addr} {xs : List V} (h : Sq t X.K H a xs) : ∃ its : List Value, Vals xs its ∧ PlAt t s.heap a its.toArray ∧ a < s.heap.objs.size := by
  cases t
  · obtain ⟨its, r, p, _⟩ := I.list (show SqL X.K H a xs from h)
    exact ⟨its, r, p.isList, p.lt⟩
  · obtain ⟨its, r, p, _⟩ := I.tuple (show SqT X.K H a xs from h)
    have p' := p
    obtain ⟨o, ho, _⟩ := p'
    exact ⟨its, r, p, Heap.lt_size ho⟩
theorem sqInj {X : Cx} {pins : List (Addr × Obj)} {σ : L2.St} {H : Hp} {s : Shared} (I : Inv X pins σ H s) {t : Bool} {a : Addr} {xs ys : List V} (h : Sq t X.K H a xs) (h2 : Sq t X.K H a ys) : xs = ys := by
  cases t
  · exact I.list_inj (show SqL X.K H a xs from h) (show SqL X.K H a ys from h2)
  · exact I.tuple_inj (show SqT X.K H a xs from h) (show SqT X.K H a ys from h2)
def ItX (K : PySem.W.Frag) (t1 t2 : Bool) (a b : Addr) : It :=
  ⟨fun i H => ∃ (xs ys : List V) (x y : V), Sq t1 K H a xs ∧ Sq t2 K H b ys ∧ xs[i]? = some x ∧ ys[i]? = some y,
    fun i H v H' => ∃ T x y, v = .ref T ∧ H T = none ∧ H' = upd H T (.tup [x, y]) ∧ (∀ xs, Sq t1 K H a xs → xs[i]? = some x) ∧ ∀ ys, Sq t2 K H b ys → ys[i]? = some y,
    fun i H => ∃ xs ys : List V, Sq t1 K H a xs ∧ Sq t2 K H b ys ∧ i = min xs.length ys.length⟩
theorem turnX {P : Program} {w : World} {K : PySem.W.Frag} {elts : List Expr} {kk : Nat} {tpos : Pos} {t1 t2 : Bool} {a b z TI TO i1 i2 : Addr} (S : ZipSep2 z TI TO i1 i2 [i1, a] [i2, b]) (hai : a ≠ i1) (hbi : b ≠ i2) :
    Turn P w K (.Tuple elts kk tpos) (ItX K t1 t2 a b) [z, TI, TO, i1, i2] z (fun i h => IsZip h z TI TO .none ∧ IsTupOf2 h TI (.ref i1) (.ref i2) ∧ (∃ x y, IsTupOf2 h TO x y) ∧ IterAt t1 h i1 a i ∧ IterAt t2 h i2 b i) where
  mem := by simp
  obj := fun i h st c hc => by
    obtain ⟨hz, hTI, ⟨x, y, hTO⟩, h1, h2⟩ := st
    have e' : c = z ∨ c = TI ∨ c = TO ∨ c = i1 ∨ c = i2 := by simpa using hc
    rcases e' with q | q | q | q | q
    · rw [q]; exact ⟨_, hz, fun v q => nomatch q⟩
    · rw [q]; exact ⟨_, hTI, fun v q => nomatch q⟩
    · rw [q]; exact ⟨_, hTO, fun v q => nomatch q⟩
    · rw [q]; exact h1.obj
    · rw [q]; exact h2.obj
  keep := fun i h h' st k => by
    obtain ⟨hz, hTI, ⟨x, y, hTO⟩, h1, h2⟩ := st
    exact ⟨k z (by simp) _ hz, k TI (by simp) _ hTI, ⟨x, y, k TO (by simp) _ hTO⟩, h1.at fun o q => k i1 (by simp) o q, h2.at fun o q => k i2 (by simp) o q⟩
  item := by
    intro X hP hw hK hc i pins s σ H E I hf st hg
    subst hP hw hK
    obtain ⟨hz, hTI, ⟨x0, y0, hTO⟩, h1, h2⟩ := st
    obtain ⟨xs, ys, x, y, hqx, hqy, hx, hy⟩ := hg
    obtain ⟨its, rv, p, _⟩ := invSq I hqx
    obtain ⟨its2, rv2, p2, _⟩ := invSq I hqy
    obtain ⟨u, hu, ru⟩ := rv.get hx
    obtain ⟨u2, hu2, ru2⟩ := rv2.get hy
    have hzl : z < s.heap.objs.size := Heap.lt_size hz
    have l1 : i < its.toArray.size := by
      have := (List.getElem?_eq_some_iff.mp hu).1
      simpa using this
    have l2 : i < its2.toArray.size := by
      have := (List.getElem?_eq_some_iff.mp hu2).1
      simpa using this
    have hh : X.A.in1.handled = none := I.ok.hd hc
    refine wpAny_pyNext_zipD2_item S (drawsX hh t1 i1 a hai its.toArray) (drawsX hh t2 i2 b hbi its2.toArray) hz hTI hTO ⟨h1, p⟩ ⟨h2, p2⟩ l1 l2 fun v1 v2 h' tk e1 e2 z' TO' n1 n2 hT hsz hk => ?_
    have e1 : v1 = u := by
      have : its[i]? = some v1 := by simpa using e1
      rw [hu] at this; exact (Option.some.inj this).symm
    have e2 : v2 = u2 := by
      have : its2[i]? = some v2 := by simpa using e2
      rw [hu2] at this; exact (Option.some.inj this).symm
    subst e1 e2
    refine ⟨_, rfl, wpAny_letOwnedTupleGo_zip (s := { s with heap := h', toks := tk }) z' fun h'' z'' sb => ?_⟩
    have hT2 : h''.get? s.heap.objs.size = some { cls := .type "tuple", data := .seq #[v1, v2] } := (sb.2 _ (Nat.ne_of_gt hzl)).trans hT
    have new : ObjOk X.prog X.w (upd H s.heap.objs.size (.tup [x, y])) h'' s.heap.objs.size (.tup [x, y]) :=
      ⟨by show 2 ≤ sizeLine; decide, [v1, v2], .cons ru (.cons ru2 .nil), ⟨_, hT2, rfl, _, rfl⟩⟩
    have I1 : Inv X pins σ (upd H s.heap.objs.size (.tup [x, y])) { s with heap := h'', toks := tk } :=
      I.turnedNew (t' := tk) (ch := [z, TI, TO, i1, i2]) (fun c o hb q => (sb.2 c (fun q' => hb (by simp [q']))).trans (hk c o (fun q' => hb (by simp [q'])) (fun q' => hb (by simp [q'])) (fun q' => hb (by simp [q'])) (fun q' => hb (by simp [q'])) q)) hf (Nat.le_refl _) new
    refine ⟨.ref s.heap.objs.size, _, I1, rfl, ⟨_, x, y, rfl, I.hok.fresh (Nat.le_refl _), rfl, fun l hl => by rw [sqInj I hl hqx]; exact hx, fun l hl => by rw [sqInj I hl hqy]; exact hy⟩, ⟨z'', ?_, ⟨v1, v2, ?_⟩, ?_, ?_⟩, fun c hcm => ?_⟩
    · exact (sb.2 _ S.TIz).trans (hk _ _ S.TIz S.TITO S.TIi1 S.TIi2 hTI)
    · exact (sb.2 _ S.TOz).trans TO'
    · exact n1.1.at fun o q => (sb.2 _ (Ne.symm S.zi1)).trans q
    · exact n2.1.at fun o q => (sb.2 _ (Ne.symm S.zi2)).trans q
    · have hlt : c < s.heap.objs.size := by
        have e' : c = z ∨ c = TI ∨ c = TO ∨ c = i1 ∨ c = i2 := by simpa using hcm
        rcases e' with q | q | q | q | q
        · rw [q]; exact hzl
        · rw [q]; exact Heap.lt_size hTI
        · rw [q]; exact Heap.lt_size hTO
        · rw [q]; obtain ⟨_, e1, _⟩ := h1.obj; exact Heap.lt_size e1
        · rw [q]; obtain ⟨_, e2, _⟩ := h2.obj; exact Heap.lt_size e2
      rw [upd_ne (Nat.ne_of_lt hlt)]
      exact (hf c hcm).1
  done := by
    intro X hP hw hK hc i pins s σ H E I hf st hg
    subst hP hw hK
    obtain ⟨hz, hTI, ⟨x0, y0, hTO⟩, h1, h2⟩ := st
    obtain ⟨xs, ys, hqx, hqy, hend⟩ := hg
    obtain ⟨its, rv, p, _⟩ := invSq I hqx
    obtain ⟨its2, rv2, p2, _⟩ := invSq I hqy
    have l1 := rv.length
    have l2 := rv2.length
    have hh : X.A.in1.handled = none := I.ok.hd hc
    exact wpAny_pyNext_zipD2_end S (drawsX hh t1 i1 a hai its.toArray) (drawsX hh t2 i2 b hbi its2.toArray) hz hTI hTO ⟨h1, p⟩ ⟨h2, p2⟩ (by simp; omega) (by simp; omega) (by simp; omega) fun h' tk hk => ⟨rfl, I.turnedL (t' := tk) (ch := [z, TI, TO, i1, i2]) (fun c o hb q =>
      hk c o (fun q' => hb (by simp [q'])) (fun q' => hb (by simp [q'])) (fun q' => hb (by simp [q'])) (fun q' => hb (by simp [q'])) q) hf⟩
  self := fun A i s Q E st h => wpAny_pyIter_zip st.1 h
def iZipX (K : PySem.W.Frag) (ta : TA) : TI := fun σ H R => ta σ H fun vs H1 => ∃ (t1 t2 : Bool) (a b : Addr) (xs ys : List V), vs = [.ref a, .ref b] ∧ Sq t1 K H1 a xs ∧ Sq t2 K H1 b ys ∧ R (ItX K t1 t2 a b) H1
theorem pi_zipX {X : Cx} {e e2 : Expr} {ta : TA} {p pos tpos : Pos} {elts : List Expr} {kk : Nat} (hg : Gl X "zip") (hm : X.mg "zip" = none) (ha : PA X [e, e2] ta)
    (hs : starEach [e, e2] X.env = (false, eval e X.env) :: starEach [e2] X.env := by rfl) (hpl : (backTo pos (starEach [e2] X.env)).any (·.1) = false := by rfl) :
    PI X (.Tuple elts kk tpos) (.Call (.Name "zip" p) [e, e2] [] pos) (iZipX X.K ta) := by
  refine ⟨fun pins s σ H R I h => ?_⟩
  refine Call_ (ld_blt I hg hm PyProof.Rows.boot_zip (PyProof.Rows.callWith_type1 (thn (ha.run pos pins s σ H _ I h) fun us s1 ⟨vs, H1, I1, r1, q1⟩ => ?_) hs hpl))
  obtain ⟨t1, t2, a, b, xs, ys, ex, hqx, hqy, q⟩ := q1
  subst ex
  cases r1 with
  | cons r rr =>
    cases rr with
    | cons r' rr =>
      cases rr
      cases r
      cases r'
      have fresh5 : ∀ c, c ∈ [s1.heap.objs.size + 4, s1.heap.objs.size + 2, s1.heap.objs.size + 3, s1.heap.objs.size, s1.heap.objs.size + 1] → FpOk X pins H1 c := fun c hcm => by
        have e' : c = s1.heap.objs.size + 4 ∨ c = s1.heap.objs.size + 2 ∨ c = s1.heap.objs.size + 3 ∨ c = s1.heap.objs.size ∨ c = s1.heap.objs.size + 1 := by simpa using hcm
        have hle : s1.heap.objs.size ≤ c := by
          rcases e' with z | z | z | z | z
          · rw [z]; exact Nat.le_add_right _ _
          · rw [z]; exact Nat.le_add_right _ _
          · rw [z]; exact Nat.le_add_right _ _
          · rw [z]; exact Nat.le_refl _
          · rw [z]; exact Nat.le_add_right _ _
        exact I1.fpOk hle (I1.hok.fresh hle)
      obtain ⟨its, rv, p1, la⟩ := invSq I1 hqx
      obtain ⟨its2, rv2, p2, lb⟩ := invSq I1 hqy
      refine zip_begins2 (beginsX t1 a its.toArray) (beginsX t2 b its2.toArray) p1 p2 fun h' hz hTI hTO h1 h2 hsz hk => wpAny_pyIter_zip hz ?_
      have I2 : Inv X pins σ H1 { s1 with heap := h' } := I1.kept (t' := s1.toks) hk
      exact ⟨s1.heap.objs.size + 4, [s1.heap.objs.size + 4, s1.heap.objs.size + 2, s1.heap.objs.size + 3, s1.heap.objs.size, s1.heap.objs.size + 1], _, _, H1, rfl, I2,
        turnX (t1 := t1) (t2 := t2) (zip_sep2 (N := s1.heap.objs.size) (fp1 := [a]) (fp2 := [b]) (by simpa using la) (by simpa using lb)) (Nat.ne_of_lt la) (Nat.ne_of_lt (Nat.lt_succ_of_lt lb)), ⟨hz, hTI, ⟨_, _, hTO⟩, IterAt.new h1, IterAt.new h2⟩, fresh5, q⟩

variable {X : Cx}
theorem walkX {K : PySem.W.Frag} {t1 t2 : Bool} {a b : Addr} {xs ys : List V} {n : Nat} (hn : n = min xs.length ys.length) : Walk (ItX K t1 t2 a b) n (fun H => Sq t1 K H a xs ∧ Sq t2 K H b ys) (YPair (fun i => xs[i]?) (fun i => ys[i]?)) := by
  subst hn
  refine ⟨fun i _ hi q => ?_, fun _ q => ⟨xs, ys, q.1, q.2, rfl⟩, fun i H v H' _ q y => ?_⟩
  · have h1 : i < xs.length := by omega
    have h2 : i < ys.length := by omega
    exact ⟨xs, ys, xs[i], ys[i], q.1, q.2, by simp [h1], by simp [h2]⟩
  · obtain ⟨T, x, z, h1, h2, h3, h4, h5⟩ := y
    exact ⟨T, x, z, h1, h2, h3, h4 xs q.1, h5 ys q.2⟩
def iZipU (f : Fa) : Fa := fun g => match f g with
  | some ([d, e], g') => (seqD d).bind fun xs => (seqD e).map fun ys => (zipL xs ys, g')
  | _ => none
theorem sqOf {K : PySem.W.Frag} {F H : Hp} {v : V} {d : D} {ds : List D} (h : Dp K F v d) (fh : Same F H) (e : seqD d = some ds) : ∃ t p ys, v = .ref p ∧ (∀ H', Same F H' → Sq t K H' p ys) ∧ DpAll K F ys ds := by
  cases d with
  | list es =>
    cases e
    cases h with
    | lst hs ha => exact ⟨false, _, _, rfl, fun H' q => q.seq hs, ha⟩
  | tuple es =>
    cases e
    cases h with
    | tup hs ha => exact ⟨true, _, _, rfl, fun H' q => Same.tupS q hs, ha⟩
  | _ => cases e
theorem di_zipU {a b : Expr} {p pos tp : Pos} {es : List Expr} {kk : Nat} {f : Fa} (hg : Gl X "zip") (hm : X.mg "zip" = none) (ha : DA X [a, b] f)
    (hs : starEach [a, b] X.env = (false, eval a X.env) :: starEach [b] X.env := by rfl) (hpl : (backTo pos (starEach [b] X.env)).any (·.1) = false := by rfl) :
    DI X (.Tuple es kk tp) (.Call (.Name "zip" p) [a, b] [] pos) (iZipU f) := piMono (pi_zipX hg hm ha hs hpl) fun s H R ⟨F, g, ds, g', r, e, k⟩ => by
  unfold iZipU at e
  split at e
  · rename_i d1 d2 g1 q
    cases q1 : seqD d1 with
    | none => rw [q1] at e; cases e
    | some xs =>
      rw [q1] at e
      have e : (seqD d2).map _ = some (ds, g') := e
      cases q2 : seqD d2 with
      | none => rw [q2] at e; cases e
      | some ys =>
        rw [q2] at e; cases e
        refine ⟨F, g, _, _, r, q, fun vs F1 H1 p1 r1 t1 m1 => ?_⟩
        obtain ⟨v, w, rfl, h1, h2⟩ := dpTwo p1
        obtain ⟨ta, pa, us, rfl, sa, da⟩ := sqOf h1 r1.fh q1
        obtain ⟨tb, pb, ws, rfl, sb, db⟩ := sqOf h2 r1.fh q2
        exact ⟨ta, tb, pa, pb, us, ws, rfl, sa _ r1.fh, sb _ r1.fh, k _ F1 H1 r1 t1 m1 (itdZip rfl da db (fun H q => ⟨sa H q, sb H q⟩) (walkX rfl))⟩
  · cases e
end Dl
set_option Elab.async false
set_option linter.all false
set_option maxRecDepth 100000
namespace Dl
open PySem PySem.Spec PyProof.Rows L2

/-! ### several new cells told by what is true of each -/
def layE (H : Hp) : List (Addr × (Heap → Prop)) → Hp
  | [] => H
  | (a, φ) :: r => upd (layE H r) a (.ext φ)
theorem layE_cases (H : Hp) : ∀ (cs : List (Addr × (Heap → Prop))) (b : Addr), ((∀ p ∈ cs, p.1 ≠ b) ∧ layE H cs b = H b) ∨ ∃ φ, (b, φ) ∈ cs ∧ layE H cs b = some (.ext φ)
  | [], b => .inl ⟨fun p hp => (by cases hp), rfl⟩
  | (a, φ) :: r, b => by
    by_cases e : b = a
    · subst e
      exact .inr ⟨φ, List.mem_cons_self .., by rw [layE, upd_same]⟩
    · rw [layE, upd_ne e]
      rcases layE_cases H r b with ⟨h1, h2⟩ | ⟨ψ, h1, h2⟩
      · exact .inl ⟨fun p hp => by
          rcases List.mem_cons.mp hp with rfl | hp
          · exact fun z => e z.symm
          · exact h1 p hp, h2⟩
      · exact .inr ⟨ψ, List.mem_cons_of_mem _ h1, h2⟩
section
variable {X : Cx} {pins : List (Addr × Obj)} {σ : L2.St} {H : Hp} {s : Shared}
theorem inv_laids {h' : Heap} {t' : Nat} {cs : List (Addr × (Heap → Prop))} (I : Inv X pins σ H s) (k : ∀ b u, s.heap.get? b = some u → h'.get? b = some u) (hp : ∀ p ∈ cs, s.heap.objs.size ≤ p.1)
    (ok : ∀ p ∈ cs, p.2 h' ∧ (∃ o, h'.get? p.1 = some o) ∧ ∀ h1 h2 : Heap, p.2 h1 → (∀ o, h1.get? p.1 = some o → h2.get? p.1 = some o) → p.2 h2) : Inv X pins σ (layE H cs) { s with heap := h', toks := t' } := by
  have old : ∀ b o, H b = some o → layE H cs b = some o := fun b o e => by
    rcases layE_cases H cs b with ⟨_, h2⟩ | ⟨φ, h1, _⟩
    · rw [h2, e]
    · have := I.hok.fresh (hp _ h1)
      rw [this] at e; cases e
  refine I.un ⟨fun b u q _ _ _ => k b u q, fun b u q _ _ _ => ⟨u.slots, k b u q⟩, fun b u q n _ => ?_, fun b u q _ => ⟨u, k b u q⟩, fun b xs q => old _ _ q, fun b u xs q => old _ _ q, fun b ps q => ⟨#[], by rw [old _ _ q]; simp⟩⟩ fun b u e => ?_
  · rcases layE_cases H cs b with ⟨_, h2⟩ | ⟨φ, h1, _⟩
    · rw [h2, n]
    · exact absurd (Nat.lt_of_lt_of_le (Heap.lt_size q) (hp _ h1)) (Nat.lt_irrefl _)
  · rcases layE_cases H cs b with ⟨_, h2⟩ | ⟨φ, h1, h2⟩
    · rw [h2] at e
      exact (I.hok b u e).stay (fun c v _ q => k c v q) (fun c q => old _ _ q) fun c xs q => old _ _ q
    · rw [h2] at e
      cases e
      exact ok _ h1
theorem inv_drops {cs : List (Addr × (Heap → Prop))} : ∀ {H : Hp}, (cs.map (·.1)).Nodup → (∀ p ∈ cs, H p.1 = none) → Inv X pins σ (layE H cs) s → Inv X pins σ H s := by
  induction cs with
  | nil => exact fun _ _ I => I
  | cons p r ih =>
    obtain ⟨a, φ⟩ := p
    intro H nd hn I
    rw [List.map_cons, List.nodup_cons] at nd
    have na : layE H r a = none := by
      rcases layE_cases H r a with ⟨_, h2⟩ | ⟨ψ, h1, _⟩
      · rw [h2]; exact hn _ (List.mem_cons_self ..)
      · exact absurd (List.mem_map.mpr ⟨_, h1, rfl⟩) nd.1
    have I2 := ItX.inv_drop (a := a) (φ := φ) I (by rw [layE, upd_same])
    have e : ItX.dropH (layE H ((a, φ) :: r)) a = layE H r := ItX.dropH_upd na
    rw [e] at I2
    exact ih nd.2 (fun p hp => hn p (List.mem_cons_of_mem _ hp)) I2
theorem fp_drops {cs : List (Addr × (Heap → Prop))} (I : Inv X pins σ (layE H cs) s) (hs : ∀ p ∈ cs, X.s_0.heap.objs.size ≤ p.1) (hn : ∀ p ∈ cs, H p.1 = none) : ∀ p ∈ cs, FpOk X pins H p.1 := fun p hp => by
  have : ∃ u, layE H cs p.1 = some u := by
    rcases layE_cases H cs p.1 with ⟨h1, _⟩ | ⟨φ, _, h2⟩
    · exact absurd rfl (h1 p hp)
    · exact ⟨_, h2⟩
  obtain ⟨u, hu⟩ := this
  obtain ⟨f0, f1, f2, f3, f4, f5⟩ := ItX.inv_fp I hu (hs p hp)
  exact ⟨hn p hp, f1, f2, f3, f4, f5⟩
end

/-! ### a zip kept in a name -/
abbrev zipCells (t1 t2 : Bool) (a b N : Addr) : List (Addr × (Heap → Prop)) :=
  [(N + 4, fun h => IsZip h (N + 4) (N + 2) (N + 3) .none), (N + 2, fun h => IsTupOf2 h (N + 2) (.ref N) (.ref (N + 1))), (N + 3, fun h => IsTupOf2 h (N + 3) .none .none), (N, fun h => IterAt t1 h N a 0), (N + 1, fun h => IterAt t2 h (N + 1) b 0)]
def tZipO (K : PySem.W.Frag) (n : Nat) (ta : TA) : TE := fun σ H Q => ta σ H fun vs H1 => ∃ (t1 t2 : Bool) (a b : Addr) (xs ys : List V), vs = [.ref a, .ref b] ∧ Sq t1 K H1 a xs ∧ Sq t2 K H1 b ys ∧
  ∀ N : Addr, n ≤ N → a < N → b < N → (∀ c, N ≤ c → H1 c = none) → Q (.ref (N + 4)) (layE H1 (zipCells t1 t2 a b N))
theorem pe_zipO {X : Cx} {e e2 : Expr} {ta : TA} {p pos : Pos} (hg : Gl X "zip") (hm : X.mg "zip" = none) (ha : PA X [e, e2] ta)
    (hs : starEach [e, e2] X.env = (false, eval e X.env) :: starEach [e2] X.env := by rfl) (hpl : (backTo pos (starEach [e2] X.env)).any (·.1) = false := by rfl) :
    PE X (.Call (.Name "zip" p) [e, e2] [] pos) (tZipO X.K X.s_0.heap.objs.size ta) := by
  refine ⟨fun pins s σ H Q I h => ?_⟩
  refine Call_ (ld_blt I hg hm PyProof.Rows.boot_zip (PyProof.Rows.callWith_type1 (thn (ha.run pos pins s σ H _ I h) fun us s1 ⟨vs, H1, I1, r1, q1⟩ => ?_) hs hpl))
  obtain ⟨t1, t2, a, b, xs, ys, ex, hqx, hqy, q⟩ := q1
  subst ex
  cases r1 with
  | cons r rr =>
    cases rr with
    | cons r' rr =>
      cases rr
      cases r
      cases r'
      obtain ⟨its, rv, p1, la⟩ := invSq I1 hqx
      obtain ⟨its2, rv2, p2, lb⟩ := invSq I1 hqy
      refine zip_begins2 (beginsX t1 a its.toArray) (beginsX t2 b its2.toArray) p1 p2 fun h' hz hTI hTO h1 h2 hsz hk => ?_
      refine ⟨.ref (s1.heap.objs.size + 4), _, inv_laids (t' := s1.toks) (cs := zipCells t1 t2 a b s1.heap.objs.size) I1 hk (fun p hp => ?_) (fun p hp => ?_), rfl, q _ I1.sz la lb fun c hc => I1.hok.fresh hc⟩
      · simp only [List.mem_cons, List.not_mem_nil, or_false] at hp
        rcases hp with rfl | rfl | rfl | rfl | rfl
        · exact Nat.le_add_right _ _
        · exact Nat.le_add_right _ _
        · exact Nat.le_add_right _ _
        · exact Nat.le_refl _
        · exact Nat.le_add_right _ _
      · simp only [List.mem_cons, List.not_mem_nil, or_false] at hp
        rcases hp with rfl | rfl | rfl | rfl | rfl
        · exact ⟨hz, ⟨_, hz⟩, fun g1 g2 x y => y _ x⟩
        · exact ⟨hTI, ⟨_, hTI⟩, fun g1 g2 x y => y _ x⟩
        · exact ⟨hTO, ⟨_, hTO⟩, fun g1 g2 x y => y _ x⟩
        · exact ⟨IterAt.new h1, ⟨_, h1⟩, fun g1 g2 x y => x.at y⟩
        · exact ⟨IterAt.new h2, ⟨_, h2⟩, fun g1 g2 x y => x.at y⟩
def iZipVar (K : PySem.W.Frag) (n k : Nat) : TI := fun σ H R => ∃ (t1 t2 : Bool) (a b N : Addr) (H0 : Hp), σ[k]? = some (some (.ref (N + 4))) ∧ H = layE H0 (zipCells t1 t2 a b N) ∧ n ≤ N ∧ a < N ∧ b < N ∧ (∀ c, N ≤ c → H0 c = none) ∧ R (ItX K t1 t2 a b) H0
theorem pi_zipVar {X : Cx} {elts : List Expr} {kk k : Nat} {tpos : Pos} {x : Str} {p : Pos} (hN : X.N[k]? = some x) (hv : Vis X.env.scope x) (hd : (x == ("__debug__" : Str)) = false := by decide) (hcd : (x == ("__classdict__" : Str)) = false := by decide) :
    PI X (.Tuple elts kk tpos) (.Name x p) (iZipVar X.K X.s_0.heap.objs.size k) := by
  refine ⟨fun pins s σ H R I h => ?_⟩
  obtain ⟨t1, t2, a, b, N, H0, hs, eH, hn, la, lb, fr, q⟩ := h
  subst eH
  refine thn ((pe_var (pos := p) (i := k) hN hv hd hcd).run pins s σ _ (fun v H1 => v = .ref (N + 4) ∧ H1 = layE H0 (zipCells t1 t2 a b N)) I ⟨.ref (N + 4), hs, rfl, rfl⟩) fun u s1 ⟨v, H1, I1, r1, ev, eH⟩ => ?_
  subst ev
  rw [eH] at I1
  cases r1
  have at' : ∀ p ∈ zipCells t1 t2 a b N, p.2 s1.heap := fun p hp => by
    rcases layE_cases H0 (zipCells t1 t2 a b N) p.1 with ⟨h1, _⟩ | ⟨φ, h1, h2⟩
    · exact absurd rfl (h1 p hp)
    · have e : φ = p.2 := by
        simp only [List.mem_cons, List.not_mem_nil, or_false] at hp h1
        rcases hp with rfl | rfl | rfl | rfl | rfl <;> rcases h1 with h1 | h1 | h1 | h1 | h1 <;> first
          | exact (Prod.mk.inj h1).2
          | (exfalso; have := (Prod.mk.inj h1).1; simp only at this; revert this; show ¬ ((_ : Nat) = _); omega)
      have := (I1.hok _ _ h2)
      obtain ⟨w, _⟩ := this
      rw [e] at w
      exact w
  have nd : ((zipCells t1 t2 a b N).map (·.1)).Nodup := by
    simp only [List.map_cons, List.map_nil, List.nodup_cons, List.mem_cons, List.not_mem_nil, or_false, not_or, not_false_eq_true, List.nodup_nil, and_true]
    refine ⟨⟨?_, ?_, ?_, ?_⟩, ⟨?_, ?_, ?_⟩, ⟨?_, ?_⟩, ?_⟩ <;> (show ¬ ((_ : Nat) = _); omega)
  have hz := at' _ (List.mem_cons_self ..)
  have hTI := at' _ (List.mem_cons_of_mem _ (List.mem_cons_self ..))
  have hTO := at' _ (List.mem_cons_of_mem _ (List.mem_cons_of_mem _ (List.mem_cons_self ..)))
  have h1 := at' _ (List.mem_cons_of_mem _ (List.mem_cons_of_mem _ (List.mem_cons_of_mem _ (List.mem_cons_self ..))))
  have h2 := at' _ (List.mem_cons_of_mem _ (List.mem_cons_of_mem _ (List.mem_cons_of_mem _ (List.mem_cons_of_mem _ (List.mem_cons_self ..)))))
  have hge : ∀ p ∈ zipCells t1 t2 a b N, N ≤ p.1 := fun p hp => by
    simp only [List.mem_cons, List.not_mem_nil, or_false] at hp
    rcases hp with rfl | rfl | rfl | rfl | rfl
    · exact Nat.le_add_right _ _
    · exact Nat.le_add_right _ _
    · exact Nat.le_add_right _ _
    · exact Nat.le_refl _
    · exact Nat.le_add_right _ _
  have I2 := inv_drops (H := H0) nd (fun p hp => fr _ (hge p hp)) I1
  have fp := fp_drops I1 (fun p hp => Nat.le_trans hn (hge p hp)) (fun p hp => fr _ (hge p hp))
  refine wpAny_pyIter_zip hz ?_
  refine ⟨N + 4, [N + 4, N + 2, N + 3, N, N + 1], _, _, H0, rfl, I2, turnX (t1 := t1) (t2 := t2) (zip_sep2 (N := N) (fp1 := [a]) (fp2 := [b]) (by simpa using la) (by simpa using lb)) (Nat.ne_of_lt la) (Nat.ne_of_lt (Nat.lt_succ_of_lt lb)), ⟨hz, hTI, ⟨_, _, hTO⟩, h1, h2⟩, fun c hc => ?_, q⟩
  simp only [List.mem_cons, List.not_mem_nil, or_false] at hc
  rcases hc with rfl | rfl | rfl | rfl | rfl
  · exact fp _ (List.mem_cons_self ..)
  · exact fp _ (List.mem_cons_of_mem _ (List.mem_cons_self ..))
  · exact fp _ (List.mem_cons_of_mem _ (List.mem_cons_of_mem _ (List.mem_cons_self ..)))
  · exact fp _ (List.mem_cons_of_mem _ (List.mem_cons_of_mem _ (List.mem_cons_of_mem _ (List.mem_cons_self ..))))
  · exact fp _ (List.mem_cons_of_mem _ (List.mem_cons_of_mem _ (List.mem_cons_of_mem _ (List.mem_cons_of_mem _ (List.mem_cons_self ..)))))
end Dl
set_option Elab.async false
set_option linter.all false
set_option maxRecDepth 100000
namespace Dl
open PySem PySem.Spec PyProof.Rows L2

/-! ### x = zip(a, b), then return f([.. for .. in x]) -/
def sZr (i : Nat) (fz : Fa) (op : D → Option D) (t : Fg) (c : Ft) (f : Fe) (vs : List Nat) : Fs := fun g => (fz g).bind fun p => match p.2[i]? with
  | some .no => sRet (vE (eUn op (eV (vLc (fun _ => some (p.1, p.2)) t c f vs)))) p.2
  | _ => none
theorem noSet {g : G} {i : Nat} (h : g[i]? = some .no) : g.set i .no = g := by
  obtain ⟨hi, e⟩ := List.getElem?_eq_some_iff.mp h
  rw [← e, List.set_getElem_self]
section
variable {X : Cx}
theorem zr_core {K : PySem.W.Frag} {r : List V → Hp → VK → Prop} {op : D → Option D} (ok : C1Ok K r op) {wi : TI} {t : Fg} {ws : List Nat} {c : Ft} {f : Fe} {vs : List Nat} (hw : ∀ i ∈ ws, i ∈ vs) {s : Sg} {F H : Hp} {g : G} {ds : List D} {o : Out} {D0 : Ends}
    (hwi : ∀ R : It → Hp → Prop, (∀ J F' H', Rep K F' g s H' → Stp (OwnAt g s) F H F' H' → Mo g g → Itd K F' J ds → R J H') → wi s H R) (rp : Rep K F g s H)
    (e : sRet (vE (eUn op (eV (vLc (fun _ => some (ds, g)) t c f vs)))) g = some o) (k : endS K F g s H D0 o) : tRet (tCB r (tCons (tLc wi (tG K t ws) (tT K c) (tD K f) vs) tNil)) D0 s H := by
  cases q : vLc (fun _ => some (ds, g)) t c f vs g with
  | none =>
    unfold sRet vE eUn eV at e
    rw [q] at e; cases e
  | some p =>
    obtain ⟨x, g'⟩ := p
    have hx : ∃ es, x = .own none es := by
      unfold vLc at q
      simp only [Option.bind_some] at q
      split at q
      · cases q2 : lcGo t c f vs ds (wipeG g vs) with
        | none => rw [q2] at q; cases q
        | some p2 =>
          rw [q2] at q
          simp only [Option.bind_some] at q
          split at q
          · cases q; exact ⟨_, rfl⟩
          · cases q
      · cases q
    obtain ⟨es, rfl⟩ := hx
    have e2 : (op (.list es)).bind (fun d => some (Out.ret (.v d) g')) = some o := by
      unfold sRet vE eUn eV at e
      rw [q] at e
      cases q3 : op (.list es) with
      | none => simp [dat, q3] at e
      | some d => simpa [dat, q3] using e
    cases q3 : op (.list es) with
    | none => rw [q3] at e2; cases e2
    | some d =>
      rw [q3] at e2
      cases e2
      show tLc wi (tG K t ws) (tT K c) (tD K f) vs s H fun x H1 => r [x] H1 D0.rt
      refine tLc_ofX hw hwi rp q fun v F1 H1 hv hn r1 t1 m1 => ?_
      obtain ⟨a, xs, ea, fa, ha, hp, _⟩ := hv
      cases ea
      refine ok (.ref a) (.list es) d F1 H1 _ r1.fh (.inr ⟨es, a, xs, rfl, rfl, ha, hp⟩) q3 fun v F2 H2 p2 fh t2 => ?_
      exact k v F2 s H2 ⟨v, rfl, p2⟩ (fun z => nomatch z) (fun _ _ z => nomatch z) (Tr.of (r1.stepN t2 fh) (t1.andN t2) m1)
/-- the two rows, f a type (tuple) -/
theorem dss_zipRetT (i : Nat) {x y : Str} {id : String} {px pz p1 p2 pt p3 rpos lpos spos : Pos} {a b elt : Expr} {elts : List Expr} {kk : Nat} {tp : Pos} {ifs : List Expr} {scope : Scope} (own : List (Str × Nat)) {r : List V → Hp → VK → Prop} {op : D → Option D} {fA : Fa} {t : Fg} {ws : List Nat} {c : Ft} {f : Fe}
    (hcr : CallR X (.type id) r) (ok1 : C1Ok X.K r op) (hgy : Gl X y) (hmy : X.mg y = none) (hvy : bootBuiltins y = some (.type id)) (hc : X.calm = true) (hN : X.N.Nodup) (hg0 : Gl X "zip") (hm0 : X.mg "zip" = none) (ha : DA X [a, b] fA) (ok : blkC X.N X.env.scope scope own = true)
    (hg : ∀ st H C cl fp, DG (Blk X scope st H C cl fp) (.Tuple elts kk tp) t ws) (ht : ∀ st H C cl fp, DCs (Blk X scope st H C cl fp) ifs c) (he : ∀ st H C cl fp, DE (Blk X scope st H C cl fp) elt f) (hi : X.N[i]? = some x := by rfl) (hx : Loc X.env.scope x := by first | exact Or.inl rfl | exact Or.inr rfl)
    (hv : Vis X.env.scope x := by first | exact Or.inl rfl | exact Or.inr (Or.inl rfl) | exact Or.inr (Or.inr rfl)) (hf : X.fn x = true ∨ X.env.scope.names.lookup x = some .local := by first | exact .inl rfl | exact .inr rfl | assumption) (hd : (x == ("__debug__" : Str)) = false := by decide) (hcd : (x == ("__classdict__" : Str)) = false := by decide)
    (hw : ∀ i ∈ ws, i ∈ own.map (·.2) := by decide) (hfs : ∀ z, foldedSetIterable (.Name x px) X.env z = pure z := by intro _; rfl) (hsw : swapsWith (.Call (.Name "zip" pz) [a, b] [] p1) (some (.Name x p2)) spos.line X.env = pure false := by rfl)
    (hs : starEach [a, b] X.env = (false, eval a X.env) :: starEach [b] X.env := by rfl) (hpl : (backTo p1 (starEach [b] X.env)).any (·.1) = false := by rfl) (hny : y ≠ "__name__" := by decide) (hdy : (y == ("__debug__" : Str)) = false := by decide)
    (hs2 : starEach [.ListComp elt [⟨.Tuple elts kk tp, .Name x px, ifs, 0⟩] scope lpos] X.env = (false, eval (.ListComp elt [⟨.Tuple elts kk tp, .Name x px, ifs, 0⟩] scope lpos) X.env) :: starEach [] X.env := by rfl) (hpl2 : (backTo p3 (starEach [] X.env)).any (·.1) = false := by rfl) :
    DSs X [.Assign [.Name x p2] (.Call (.Name "zip" pz) [a, b] [] p1) spos, .Return (some (.Call (.Name y pt) [.ListComp elt [⟨.Tuple elts kk tp, .Name x px, ifs, 0⟩] scope lpos] [] p3)) rpos] (sZr i (iZipU fA) op t c f (own.map (·.2))) :=
  pssMono (pss_cons (ps_set hN hi hx (pe_zipO hg0 hm0 ha hs hpl) hsw hf) (pss_one (ps_ret (pe_callTy hcr hgy hmy hvy (pa_cons (pe_lc (g := tG X.K t ws) (tt := tT X.K c) (te := tD X.K f) hc hN (pi_zipVar hi hv hd hcd) (blkOk_by ok) hg ht he hfs) pa_nil hs2) hny hdy hs2 hpl2)))) fun D0 s H ⟨F, g, o, rp, e, k⟩ => by
    unfold sZr at e
    cases q : iZipU fA g with
    | none => rw [q] at e; cases e
    | some p =>
      obtain ⟨ds, g1⟩ := p
      rw [q] at e
      simp only [Option.bind_some] at e
      split at e
      · rename_i hno
        unfold iZipU at q
        split at q
        · rename_i d1 d2 g2 qa
          cases q1 : seqD d1 with
          | none => rw [q1] at q; cases q
          | some xs =>
            rw [q1] at q
            have q : (seqD d2).map _ = some (ds, g1) := q
            cases q2 : seqD d2 with
            | none => rw [q2] at q; cases q
            | some ys =>
              rw [q2] at q; cases q
              refine ⟨F, g, _, _, rp, qa, fun vs F1 H1 p1 r1 t1 m1 => ?_⟩
              obtain ⟨v, w, rfl, h1, h2⟩ := dpTwo p1
              obtain ⟨ta, pa, us, rfl, sa, da⟩ := sqOf h1 r1.fh q1
              obtain ⟨tb, pb, ws', rfl, sb, db⟩ := sqOf h2 r1.fh q2
              refine ⟨ta, tb, pa, pb, us, ws', rfl, sa _ r1.fh, sb _ r1.fh, fun N hn la lb fr => ?_⟩
              have hlen : i < s.length := by
                rw [← r1.len]
                exact (List.getElem?_eq_some_iff.mp hno).1
              have rep2 : Rep X.K F1 g1 (s.set i (some (.ref (N + 4)))) H1 := by
                have := r1.put i .no (some (.ref (N + 4))) trivial (fun _ _ _ z => nomatch z)
                rwa [noSet hno] at this
              have tr2 : Tr X.K F g s H F1 g1 (s.set i (some (.ref (N + 4)))) H1 := (Tr.of r1 t1 m1).trans ⟨rep2, Stp.refl, fun b hb => by
                have hb : OwnAt (g1.set i .no) (s.set i (some (.ref (N + 4)))) b := by rw [noSet hno]; exact hb
                rcases ownIn hb r1.len with z | ⟨_, _, z, _⟩
                · exact .inl z
                · cases z⟩
              have hz := zr_core (wi := fun _ H' R => R (ItX X.K ta tb pa pb) H') (F := F1) (H := H1) (g := g1) (s := s.set i (some (.ref (N + 4)))) ok1 hw (fun R hR => hR _ F1 H1 rep2 Stp.refl Mo.refl (itdZip rfl da db (fun H q => ⟨sa H q, sb H q⟩) (walkX rfl))) rep2 e (k.back tr2)
              exact ⟨ta, tb, pa, pb, N, H1, List.getElem?_set_self hlen, rfl, hn, la, lb, fr, hz⟩
        · cases q
      · cases e
end
end Dl
set_option Elab.async false
set_option linter.all false
set_option maxRecDepth 100000
namespace Dl
open PySem PySem.Spec PyProof.Rows L2
variable {X : Cx}

/-! ### list(range(a)), tuple(range(a)) -/
def rg1 : D → Option (List D)
  | .int j => if -(2 ^ 62) ≤ j ∧ j ≤ 1000000 then some (rangeL 0 j.toNat) else none
  | _ => none
theorem rgV_dp {K : PySem.W.Frag} {F : Hp} {j : Int} : DpAll K F (rgV 0 j) (rangeL 0 j.toNat) := by
  unfold rgV rangeL
  rw [Int.sub_zero]
  have : ∀ l : List Nat, DpAll K F (l.map fun (i : Nat) => V.int (0 + (i : Nat))) (l.map fun (i : Nat) => PyData.int (0 + (i : Nat))) := fun l => by
    induction l with
    | nil => exact .nil
    | cons a r ih => exact .cons (.int _) ih
  exact this _
theorem rg1_inv {d : D} {ds : List D} (h : rg1 d = some ds) : ∃ j, d = .int j ∧ RgOk 0 j ∧ ds = rangeL 0 j.toNat := by
  unfold rg1 at h
  split at h
  · rename_i j
    split at h
    · rename_i hj
      cases h
      refine ⟨j, rfl, ⟨by omega, by omega, hj.1, by omega, by omega⟩, rfl⟩
    · cases h
  · cases h
theorem dv_listRg {a : Expr} {f : Fe} {p pr pos pos2 : Pos} (hc : X.calm = true) (hg : Gl X "list") (hm : X.mg "list" = none) (hg2 : Gl X "range") (hm2 : X.mg "range" = none) (ha : DE X a f) (na : starEach [a] X.env = (false, eval a X.env) :: starEach [] X.env := by rfl)
    (na2 : starEach [.Call (.Name "range" pr) [a] [] pos2] X.env = (false, eval (.Call (.Name "range" pr) [a] [] pos2) X.env) :: starEach [] X.env := by rfl) : DV X (.Call (.Name "list" p) [.Call (.Name "range" pr) [a] [] pos2] [] pos) (v1 rg1 f) :=
  peMono (pe_listRg hc hg hm (prg_1 hg2 hm2 ha na) na2) fun s H Q ⟨F, g, x, g', rp, e, k⟩ => by
    unfold v1 at e
    cases q : f g with
    | none => rw [q] at e; cases e
    | some pp =>
      obtain ⟨d1, g1⟩ := pp
      rw [q] at e
      have e : (rg1 d1).map _ = some (x, g') := e
      cases q2 : rg1 d1 with
      | none => rw [q2] at e; cases e
      | some ds =>
        rw [q2] at e; cases e
        obtain ⟨j, rfl, hj, rfl⟩ := rg1_inv q2
        exact ⟨F, g, _, _, rp, q, fun v F1 H1 p1 r1 t1 m1 => ⟨j, intOf p1, hj, newLst r1 rgV_dp t1 m1 k⟩⟩
theorem de_tupRg {a : Expr} {f : Fe} {p pr pos pos2 : Pos} (hc : X.calm = true) (hg : Gl X "tuple") (hm : X.mg "tuple" = none) (hg2 : Gl X "range") (hm2 : X.mg "range" = none) (ha : DE X a f) (na : starEach [a] X.env = (false, eval a X.env) :: starEach [] X.env := by rfl)
    (na2 : starEach [.Call (.Name "range" pr) [a] [] pos2] X.env = (false, eval (.Call (.Name "range" pr) [a] [] pos2) X.env) :: starEach [] X.env := by rfl) : DE X (.Call (.Name "tuple" p) [.Call (.Name "range" pr) [a] [] pos2] [] pos) (eUn (fun d => (rg1 d).map .tuple) f) :=
  peMono (pe_tupRg hc hg hm (prg_1 hg2 hm2 ha na) na2) fun s H Q ⟨F, g, d, g', rp, e, k⟩ => by
    obtain ⟨d1, e1, e2⟩ := eUn_inv e
    cases q2 : rg1 d1 with
    | none => rw [q2] at e2; cases e2
    | some ds =>
      rw [q2] at e2; cases e2
      obtain ⟨j, rfl, hj, rfl⟩ := rg1_inv q2
      refine ⟨F, g, _, _, rp, e1, fun v F1 H1 p1 r1 t1 m1 => ⟨j, intOf p1, hj, ?_⟩⟩
      exact newTup r1.fh rgV_dp fun v F' H' hv fh st => k v F' H' hv (r1.stepN st fh) (t1.andN st) m1

/-! ### min, max of two ints -/
def eInt2 (op : Int → Int → Int) (f : Fa) : Fe := fun g => match f g with
  | some ([.int i, .int j], g') => some (.int (op i j), g')
  | _ => none
def min2 (i j : Int) : Int := if j < i then j else i
def max2 (i j : Int) : Int := if j > i then j else i
theorem de_min2 {a b : Expr} {f : Fa} {p pos : Pos} (hc : X.calm = true) (hg : Gl X "min") (hm : X.mg "min" = none) (ha : DA X [a, b] f) (he : starEach [a, b] X.env = (false, eval a X.env) :: starEach [b] X.env := by rfl) (hpl : (backTo pos (starEach [b] X.env)).any (·.1) = false := by rfl) :
    DE X (.Call (.Name "min" p) [a, b] [] pos) (eInt2 min2 f) := peMono (pe_callB (call_min2 hc) hg hm (by decide +kernel) ha (by decide) (by decide) he hpl) fun s H Q ⟨F, g, d, g', rp, e, k⟩ => by
  unfold eInt2 at e
  split at e
  · rename_i i j g1 q
    cases e
    exact ⟨F, g, _, _, rp, q, fun vs F1 H1 p1 r1 t1 m1 => ⟨i, j, dp2 p1, k _ F1 H1 (.int _) r1 t1 m1⟩⟩
  · cases e
theorem de_max2 {a b : Expr} {f : Fa} {p pos : Pos} (hc : X.calm = true) (hg : Gl X "max") (hm : X.mg "max" = none) (ha : DA X [a, b] f) (he : starEach [a, b] X.env = (false, eval a X.env) :: starEach [b] X.env := by rfl) (hpl : (backTo pos (starEach [b] X.env)).any (·.1) = false := by rfl) :
    DE X (.Call (.Name "max" p) [a, b] [] pos) (eInt2 max2 f) := peMono (pe_callB (call_max2 hc) hg hm (by decide +kernel) ha (by decide) (by decide) he hpl) fun s H Q ⟨F, g, d, g', rp, e, k⟩ => by
  unfold eInt2 at e
  split at e
  · rename_i i j g1 q
    cases e
    exact ⟨F, g, _, _, rp, q, fun vs F1 H1 p1 r1 t1 m1 => ⟨i, j, dp2 p1, k _ F1 H1 (.int _) r1 t1 m1⟩⟩
  · cases e

/-! ### l.extend(a new list) -/
def eExt (i : Nat) (f : Fv) : Fe := fun g => (ownD g[i]?).bind fun _ => (f g).bind fun q => match q.2[i]?, q.1 with
  | some (.own t ds), .own none es => if ds.length + es.length ≤ 1000000 then some (.none, q.2.set i (.own t (ds ++ es))) else none
  | _, _ => none
theorem de_ext (i : Nat) {x : Str} {a : Expr} {f : Fv} {pos p1 p2 : Pos} (he : DV X a f) (hN : X.N[i]? = some x := by rfl) (hv : Vis X.env.scope x := by first | exact Or.inl rfl | exact Or.inr (Or.inl rfl) | exact Or.inr (Or.inr rfl)) (hd : (x == ("__debug__" : Str)) = false := by decide)
    (hcd : (x == ("__classdict__" : Str)) = false := by decide) (hbase : attributeBase (.Name x p1) "extend" X.env (eval (.Name x p1) X.env) = eval (.Name x p1) X.env := by rfl)
    (hfew : ((backTo pos (starEach [a] X.env)).all (fun x => !x.1) && (backToKw pos (keywordEach [] X.env)).all (fun x => x.1.isSome)
      && decide ([a].length + ([] : List Keyword).length + (if ([] : List Keyword).isEmpty then 0 else 1) < 30)) = true := by rfl)
    (hline : (p2.endLine == pos.line) = true := by rfl) (hs : starEach [a] X.env = (false, eval a X.env) :: starEach [] X.env := by rfl) (hplain : (backTo pos (starEach [] X.env)).any (·.1) = false := by rfl) :
    DE X (.Call (.Attribute (.Name x p1) "extend" p2) [a] [] pos) (eExt i f) :=
  peMono (pe_bm PySem.F.plainAttrs_list PySem.F.slot_list_extend PySem.F.type_list_extend mt_extend (pe_var hN hv hd hcd) (pa_cons he pa_nil hs) hbase hfew hline hs hplain) fun s H Q ⟨F, g, d, g', r0, e, k⟩ => by
    unfold eExt at e
    cases q0 : ownD g[i]? with
    | none => rw [q0] at e; cases e
    | some d0 =>
      rw [q0] at e
      have e : (f g).bind _ = some (d, g') := e
      cases q2 : f g with
      | none => rw [q2] at e; cases e
      | some p2 =>
        obtain ⟨dj, g2⟩ := p2
        rw [q2] at e
        simp only [Option.bind_some] at e
        split at e
        · rename_i tg ds es hg
          split at e
          · rename_i hl
            cases e
            have hw : ∃ w xs, s[i]? = some (some (.ref w)) ∧ H w = some (.lst xs) := by
              unfold ownD at q0
              split at q0
              · rename_i t0 ds0 hx0
                obtain ⟨o, ho, a, xs, ea, _, ha, _⟩ := r0.get hx0
                subst ea
                exact ⟨a, xs, ho, ha⟩
              · cases q0
            obtain ⟨w, xs0, hw, hxs0⟩ := hw
            refine ⟨.ref w, hw, .inl ⟨rfl, _, SqL.of hxs0⟩, F, g, _, g2, r0, q2, fun vj F2 H2 hpj _ r2 t2 m2 => ?_⟩
            obtain ⟨b, ys, eb, fb, hb, hys, _⟩ := hpj
            cases eb
            obtain ⟨o, ho, a, xs, eo, fa, hal, hps, ht⟩ := r2.get hg
            rw [hw] at ho; cases ho; cases eo
            have tr := r2.turn hg hw (dpApp hps hys)
            show rExtend _ _ _ _
            exact ⟨w, b, xs, ys, rfl, rfl, hal, hb, by rw [dpLen hps, dpLen hys]; exact Nat.le_trans hl million, k .non F2 _ .non tr.rep (t2.two m2 tr.stp) (m2.trans (moSet hg))⟩
          · cases e
        · cases e
/-! ### l.insert(i, e) -/
def eIns (i : Nat) (f : Fa) : Fe := fun g => (ownD g[i]?).bind fun _ => (f g).bind fun q => match q.2[i]?, q.1 with
  | some (.own t ds), [.int k, d] => if ds.length < 1000000 ∧ 0 ≤ k ∧ k ≤ 1000000 then some (.none, q.2.set i (.own t (ds.take k.toNat ++ [d] ++ ds.drop k.toNat))) else none
  | _, _ => none
theorem de_ins (i : Nat) {x : Str} {a b : Expr} {f : Fa} {pos p1 p2 : Pos} (he : DA X [a, b] f) (hN : X.N[i]? = some x := by rfl) (hv : Vis X.env.scope x := by first | exact Or.inl rfl | exact Or.inr (Or.inl rfl) | exact Or.inr (Or.inr rfl)) (hd : (x == ("__debug__" : Str)) = false := by decide)
    (hcd : (x == ("__classdict__" : Str)) = false := by decide) (hbase : attributeBase (.Name x p1) "insert" X.env (eval (.Name x p1) X.env) = eval (.Name x p1) X.env := by rfl)
    (hfew : ((backTo pos (starEach [a, b] X.env)).all (fun x => !x.1) && (backToKw pos (keywordEach [] X.env)).all (fun x => x.1.isSome)
      && decide ([a, b].length + ([] : List Keyword).length + (if ([] : List Keyword).isEmpty then 0 else 1) < 30)) = true := by rfl)
    (hline : (p2.endLine == pos.line) = true := by rfl) (hs : starEach [a, b] X.env = (false, eval a X.env) :: starEach [b] X.env := by rfl) (hplain : (backTo pos (starEach [b] X.env)).any (·.1) = false := by rfl) :
    DE X (.Call (.Attribute (.Name x p1) "insert" p2) [a, b] [] pos) (eIns i f) :=
  peMono (pe_bm PySem.F.plainAttrs_list PySem.F.slot_list_insert PySem.F.type_list_insert mt_insert (pe_var hN hv hd hcd) he hbase hfew hline hs hplain) fun s H Q ⟨F, g, d, g', r0, e, k⟩ => by
    unfold eIns at e
    cases q0 : ownD g[i]? with
    | none => rw [q0] at e; cases e
    | some d0 =>
      rw [q0] at e
      have e : (f g).bind _ = some (d, g') := e
      cases q2 : f g with
      | none => rw [q2] at e; cases e
      | some p2 =>
        obtain ⟨dj, g2⟩ := p2
        rw [q2] at e
        simp only [Option.bind_some] at e
        split at e
        · rename_i tg ds kk dd hg
          split at e
          · rename_i hl
            cases e
            have hw : ∃ w xs, s[i]? = some (some (.ref w)) ∧ H w = some (.lst xs) := by
              unfold ownD at q0
              split at q0
              · rename_i t0 ds0 hx0
                obtain ⟨o, ho, a, xs, ea, _, ha, _⟩ := r0.get hx0
                subst ea
                exact ⟨a, xs, ho, ha⟩
              · cases q0
            obtain ⟨w, xs0, hw, hxs0⟩ := hw
            refine ⟨.ref w, hw, .inl ⟨rfl, _, SqL.of hxs0⟩, F, g, _, g2, r0, q2, fun vs F2 H2 hps2 r2 t2 m2 => ?_⟩
            obtain ⟨v1, v2, rfl, h1, h2⟩ := dpTwo hps2
            obtain ⟨o, ho, a, xs, eo, fa, hal, hps, ht⟩ := r2.get hg
            rw [hw] at ho; cases ho; cases eo
            have tr := r2.turn hg hw (dpApp (dpApp (dpTake kk.toNat hps) (.cons h2 .nil)) (dpDrop kk.toNat hps))
            exact ⟨w, xs, kk, v2, rfl, by rw [intOf h1], hal, by rw [dpLen hps]; exact Nat.lt_of_lt_of_le hl.1 million, hl.2.1, by omega, k .non F2 _ .non tr.rep (t2.two m2 tr.stp) (m2.trans (moSet hg))⟩
          · cases e
        · cases e
end Dl
set_option Elab.async false
set_option linter.all false
set_option maxRecDepth 100000
namespace Dl
open PySem PySem.Spec PyProof.Rows L2
variable {X : Cx}

/-! ### a def that calls itself: nothing is promised at depth nought -/
theorem FnG.none {P : Program} {w : World} {K : PySem.W.Frag} {mg : Str → Option Value} {base : Heap} {k : Nat} {f : Addr} {fd : FuncData} {ps : List Str} {n : Nat} (hn : ps.length = n) : FnG P w K mg base k f fd ps (spP K n fun _ => Option.none) :=
  ⟨fun vs H Q h => by rw [hn]; exact spP_len vs H Q h, fun A outer st H args us vs Q _ _ _ _ _ h => by
    obtain ⟨F, ds, x, _, _, _, e, _⟩ := h
    cases e⟩
/-- a def as the head tells it, its place named otherwise than the def -/
structure Dk (K : PySem.W.Frag) (mg : Str → Option Value) (y x : Str) (sd : Stmt) (ps : List Str) : Type where
  f : Addr
  fd : FuncData
  F : Fun K x x sd f fd
  g : mg y = some (.ref f)
  b : L2.Binds K fd ps []
  bA : ∀ (s : Shared) (us : List Value), us.length = ps.length → BindsTo s fd ⟨us, []⟩ (ps.zip us)
def Dk.mk' {K : PySem.W.Frag} {mg : Str → Option Value} {y x : Str} {sd : Stmt} {ps : List Str} {f : Addr} (fd : {fd : FuncData // FunD K x x (defArgs sd) (defBody sd) (defScope sd) [] [] f fd}) (g : mg y = some (.ref f))
    (h : ∀ (kV doc pm : Value) (an : Option Addr) (cdv ct : Value) (us : List Value), us.length = ps.length → bindArgs (PySem.W.fnOf x x (defArgs sd) (defBody sd) (defScope sd) .none kV doc pm an cdv ct) ⟨us, []⟩ = pure (ps.zip us)) : Dk K mg y x sd ps :=
  ⟨f, fd.1, fun_of fd.2, g, fd.2.bindsN h, fun s us e => fd.2.bindsA h s us e⟩

/-! ### a, b, c = e1, e2, e3 of data -/
def sPar3 (i j l : Nat) (f : Fa) : Fs := fun g => match f g with
  | some ([x, y, z], g') => some (.nx (((g'.set i (.v x)).set j (.v y)).set l (.v z)))
  | _ => none
theorem ds_par3 (i j l : Nat) {x y z : Str} {a b c : Expr} {f : Fa} {px py pz pt pos : Pos} {kt k2 pt2} (hc : X.calm = true) (hN : X.N.Nodup) (ha : DA X [a, b, c] f) (hi : X.N[i]? = some x := by rfl) (hj : X.N[j]? = some y := by rfl) (hl : X.N[l]? = some z := by rfl)
    (hij : i ≠ j := by decide) (hil : i ≠ l := by decide) (hjl : j ≠ l := by decide)
    (hx : X.env.scope.names.lookup x = some .local := by rfl) (hy : X.env.scope.names.lookup y = some .local := by rfl) (hz : X.env.scope.names.lookup z = some .local := by rfl)
    (hw : swappedStores [.Tuple [.Name x px, .Name y py, .Name z pz] kt pt] (.Tuple [a, b, c] k2 pt2) X.env = pure (some [x, y, z]) := by rfl)
    (hs : swapsWithSole [.Tuple [.Name x px, .Name y py, .Name z pz] kt pt] (.Tuple [a, b, c] k2 pt2) pos.line X.env = pure false := by rfl) :
    DS X (.Assign [.Tuple [.Name x px, .Name y py, .Name z pz] kt pt] (.Tuple [a, b, c] k2 pt2) pos) (sPar3 i j l f) := psMono (ps_par3 hc hN hi hj hl hij hil hjl hx hy hz ha hw hs) fun D0 s H ⟨F, g, o, r, e, k⟩ => by
  unfold sPar3 at e
  split at e
  · rename_i d1 d2 d3 g1 q
    cases e
    refine ⟨F, g, _, g1, r, q, fun vs F1 H1 p1 r1 t1 m1 => ?_⟩
    cases p1 with
    | cons h1 p2 =>
      obtain ⟨v2, v3, rfl, h2, h3⟩ := dpTwo p2
      refine ⟨_, _, _, rfl, ?_⟩
      have t := Tr.of r1 t1 m1
      have a1 := t.trans (t.rep.setV i h1)
      have a2 := a1.trans (a1.rep.setV j h2)
      have a3 := a2.trans (a2.rep.setV l h3)
      exact k F1 _ H1 a3
  · cases e

/-! ### is, is not of bools -/
def isBD : D → D → Option D
  | .bool a, .bool b => some (.bool (decide (a = b)))
  | _, _ => none
def notBD : D → D → Option D
  | .bool a, .bool b => some (.bool (!decide (a = b)))
  | _, _ => none
theorem ok_isB : BinOk X.K rIsB isBD := fun x y d1 d2 d F H Q fh p1 p2 e k => by
  unfold isBD at e
  split at e
  · cases e
    cases p1; cases p2
    exact ⟨_, _, rfl, rfl, fin0 fh (.bl _) k⟩
  · cases e
theorem ok_notB : BinOk X.K rNotB notBD := fun x y d1 d2 d F H Q fh p1 p2 e k => by
  unfold notBD at e
  split at e
  · cases e
    cases p1; cases p2
    exact ⟨_, _, rfl, rfl, fin0 fh (.bl _) k⟩
  · cases e
theorem isb_isB : IsBo isBD := fun d1 d2 d e => by
  unfold isBD at e
  split at e
  · cases e; exact ⟨_, rfl⟩
  · cases e
theorem isb_notB : IsBo notBD := fun d1 d2 d e => by
  unfold notBD at e
  split at e
  · cases e; exact ⟨_, rfl⟩
  · cases e
section
variable {a b : Expr} {pos : Pos} {fa fb : Fe}
theorem de_isBl (ha : DE X a fa) (hb : DE X b fb) : DE X (.Compare a [.Is] [b] pos) (eBin isBD fa fb) := de_cmp op_isBl ok_isB (nomark _) ha hb
theorem de_notBl (ha : DE X a fa) (hb : DE X b fb) : DE X (.Compare a [.IsNot] [b] pos) (eBin notBD fa fb) := de_cmp op_notBl ok_notB (nomark _) ha hb
theorem dt_isBl (ha : DE X a fa) (hb : DE X b fb) : DT X (.Compare a [.Is] [b] pos) (tOf (eBin isBD fa fb)) := dt_cmp op_isBl ok_isB isb_isB (nomark _) ha hb
theorem dt_notBl (ha : DE X a fa) (hb : DE X b fb) : DT X (.Compare a [.IsNot] [b] pos) (tOf (eBin notBD fa fb)) := dt_cmp op_notBl ok_notB isb_notB (nomark _) ha hb
end
end Dl
set_option Elab.async false
set_option linter.all false
set_option maxRecDepth 100000
namespace Dl
open PySem PySem.Spec PyProof.Rows L2

/-! ### the next pair of a zip whose last pair is still held -/
section
variable {prog : Program} {w : World} {A : Around} {E : Value → Shared → Prop} {s : Shared} {z TI TO T i1 i2 : Addr} {fp1 fp2 : List Addr} {n1 n2 i : Nat} {P1 P2 : Nat → Value → Prop} {St1 St2 : Nat → Heap → Prop} {f : Bool} {oT : Obj}
theorem held_item {Q : Value → Shared → Prop} (S : ZipSep2 z TI TO i1 i2 fp1 fp2) (D1 : Draws prog w A i1 fp1 n1 P1 St1) (D2 : Draws prog w A i2 fp2 n2 P2 St2) (hz : IsZipHeld s.heap z TI TO T f) (hT : s.heap.get? T = some oT) (hTI : IsTupOf2 s.heap TI (.ref i1) (.ref i2))
    (st1 : St1 i s.heap) (st2 : St2 i s.heap) (l1 : i < n1) (l2 : i < n2)
    (hQ : ∀ x y h' tk, P1 i x → P2 i y → IsZipHeld h' z TI TO T true → St1 (i + 1) h' → St2 (i + 1) h' → IsTupOf2 h' s.heap.objs.size x y → h'.objs.size = s.heap.objs.size + 1 → (∀ c o, c ≠ z → c ≠ i1 → c ≠ i2 → s.heap.get? c = some o → h'.get? c = some o) → Q (.ref s.heap.objs.size) { s with heap := h', toks := tk }) :
    wpAny (model prog w) A (Builtin.«zip.__next__» ⟨[.ref z], []⟩) (fun fin s' => ∃ v, fin = .done (.ret v) ∧ Q v s') E s := by
  obtain ⟨hp, gg, dd, tk0, os⟩ := s
  show wpAny _ _ (field (.ref z) 2 >>= _) _ _ _
  refine wpAny_bind (wpAny_field hz rfl (x := .bool false) rfl ?_)
  show wpAny _ _ (field (.ref z) 3 >>= _) _ _ _
  refine wpAny_bind (wpAny_field hz rfl (x := .ref TI) rfl ?_)
  refine wpAny_bind (wpAny_seqItems hTI rfl ?_)
  show wpAny _ _ (Builtin.SmallTypes.ownedTupleIsFree (.ref z) >>= _) _ _ _
  refine wpAny_bind (wpAny_tupleHeld_zip hz hT fun ha za sa => ?_)
  replace sa : Heap.SameBut z hp ha := sa
  simp only [Bool.false_eq_true, if_false]
  refine wpAny_bind ?_
  rw [← Array.forIn_toList]
  simp only [List.forIn_cons, List.forIn_nil]
  refine wpAny_bind (wpAny_bind (wpAny_holding ?_))
  show wpAny _ _ (Builtin.SmallTypes.nextOf (.ref i1) >>= _) _ _ _
  refine wpAny_bind (D1.item i _ _ _ l1 (D1.over st1 sa S.zf1) fun x hb tkb px sb1 sb => wpAny_pure ?_)
  replace sb : Heap.SameBut i1 ha hb := sb
  refine wpAny_pure ?_
  refine wpAny_bind (wpAny_bind (wpAny_holding ?_))
  show wpAny _ _ (Builtin.SmallTypes.nextOf (.ref i2) >>= _) _ _ _
  refine wpAny_bind (D2.item i _ _ _ l2 (D2.over (D2.over st2 sa S.zf2) sb S.sep1_2) fun y hc tkc py sc2 sc => wpAny_pure ?_)
  replace sc : Heap.SameBut i2 hb hc := sc
  refine wpAny_pure (wpAny_pure ?_)
  show wpAny _ _ (newTuple [x, y] >>= _) _ _ _
  refine wpAny_bind (wpAny_newTuple ?_)
  have size : hc.objs.size = hp.objs.size := by rw [sc.1, sb.1, sa.1]
  have zc : IsZipHeld hc z TI TO T true := sc.extBut _ _ S.zi2 (sb.extBut _ _ S.zi1 za)
  have keeps : ∀ c o, c ≠ z → c ≠ i1 → c ≠ i2 → hp.get? c = some o → hc.get? c = some o := fun c o a b d e => sc.extBut _ _ d (sb.extBut _ _ b (sa.extBut _ _ a e))
  have t1 : St1 (i + 1) hc := D1.over sb1 sc S.sep2_1
  refine wpAny_pure ⟨_, rfl, ?_⟩
  show Q (.ref hc.objs.size) _
  have pr : IsTupOf2 (hc.push { cls := .type "tuple", data := .seq #[x, y] }) hc.objs.size x y := Heap.get?_push_size _ rfl
  have sz : (hc.push { cls := .type "tuple", data := .seq #[x, y] }).objs.size = hc.objs.size + 1 := Heap.size_push ..
  rw [size] at pr sz ⊢
  exact hQ x y _ _ px py (Heap.get?_push_of_some _ zc) (D1.frame _ _ _ t1 fun b _ o e => Heap.get?_push_of_some _ e) (D2.frame _ _ _ sc2 fun b _ o e => Heap.get?_push_of_some _ e) pr sz fun c o a b d e => Heap.get?_push_of_some _ (keeps c o a b d e)
theorem held_end {Q : Fin → Shared → Prop} (S : ZipSep2 z TI TO i1 i2 fp1 fp2) (D1 : Draws prog w A i1 fp1 n1 P1 St1) (D2 : Draws prog w A i2 fp2 n2 P2 St2) (hz : IsZipHeld s.heap z TI TO T f) (hT : s.heap.get? T = some oT) (hTI : IsTupOf2 s.heap TI (.ref i1) (.ref i2))
    (st1 : St1 i s.heap) (st2 : St2 i s.heap) (l1 : i ≤ n1) (l2 : i ≤ n2) (hend : i = n1 ∨ i = n2)
    (hE : ∀ h' tk e, (∀ c o, c ≠ z → c ≠ i1 → c ≠ i2 → s.heap.get? c = some o → h'.get? c = some o) → (∃ o, h'.get? e = some o ∧ o.cls = .type "StopIteration") → E (.ref e) { s with heap := h', toks := tk }) :
    wpAny (model prog w) A (Builtin.«zip.__next__» ⟨[.ref z], []⟩) Q E s := by
  obtain ⟨hp, gg, dd, tk0, os⟩ := s
  show wpAny _ _ (field (.ref z) 2 >>= _) _ _ _
  refine wpAny_bind (wpAny_field hz rfl (x := .bool false) rfl ?_)
  show wpAny _ _ (field (.ref z) 3 >>= _) _ _ _
  refine wpAny_bind (wpAny_field hz rfl (x := .ref TI) rfl ?_)
  refine wpAny_bind (wpAny_seqItems hTI rfl ?_)
  show wpAny _ _ (Builtin.SmallTypes.ownedTupleIsFree (.ref z) >>= _) _ _ _
  refine wpAny_bind (wpAny_tupleHeld_zip hz hT fun ha za sa => ?_)
  replace sa : Heap.SameBut z hp ha := sa
  simp only [Bool.false_eq_true, if_false]
  refine wpAny_bind ?_
  rw [← Array.forIn_toList]
  simp only [List.forIn_cons, List.forIn_nil]
  refine wpAny_bind (wpAny_bind (wpAny_holding ?_))
  show wpAny _ _ (Builtin.SmallTypes.nextOf (.ref i1) >>= _) _ _ _
  by_cases e1 : i = n1
  · subst e1
    refine wpAny_bind (D1.done _ _ _ (D1.over st1 sa S.zf1) fun hb e sb he => ?_)
    exact hE hb tk0 e (fun c o a b _ x => sb _ _ b (sa.extBut _ _ a x)) he
  · have e2 : i = n2 := hend.resolve_left e1
    subst e2
    refine wpAny_bind (D1.item i _ _ _ (by omega) (D1.over st1 sa S.zf1) fun x hb tkb px sb1 sb => wpAny_pure ?_)
    replace sb : Heap.SameBut i1 ha hb := sb
    refine wpAny_pure ?_
    refine wpAny_bind (wpAny_bind (wpAny_holding ?_))
    show wpAny _ _ (Builtin.SmallTypes.nextOf (.ref i2) >>= _) _ _ _
    refine wpAny_bind (D2.done _ _ _ (D2.over (D2.over st2 sa S.zf2) sb S.sep1_2) fun hc e sc he => ?_)
    exact hE hc tkb e (fun c o a b d x => sc _ _ d (sb.extBut _ _ b (sa.extBut _ _ a x))) he
theorem held_next {Q : Option Value → Shared → Prop} (S : ZipSep2 z TI TO i1 i2 fp1 fp2) (D1 : Draws prog w A.in1 i1 fp1 n1 P1 St1) (D2 : Draws prog w A.in1 i2 fp2 n2 P2 St2) (hz : IsZipHeld s.heap z TI TO T f) (hT : s.heap.get? T = some oT) (hTI : IsTupOf2 s.heap TI (.ref i1) (.ref i2))
    (st1 : St1 i s.heap) (st2 : St2 i s.heap) (l1 : i < n1) (l2 : i < n2)
    (hQ : ∀ x y h' tk, P1 i x → P2 i y → IsZipHeld h' z TI TO T true → St1 (i + 1) h' → St2 (i + 1) h' → IsTupOf2 h' s.heap.objs.size x y → h'.objs.size = s.heap.objs.size + 1 → (∀ c o, c ≠ z → c ≠ i1 → c ≠ i2 → s.heap.get? c = some o → h'.get? c = some o) → Q (some (.ref s.heap.objs.size)) { s with heap := h', toks := tk }) :
    wpAny (model prog w) A (pyNext (.ref z)) Q E s := by
  have ty : s.TypeIs (.ref z) "zip" := ⟨_, hz, rfl⟩
  unfold pyNext
  exact wpAny_bind (wpAny_attempt (wpAny_callSpecial?_slot (name := Str.ofString "__next__") ty F.slot_zip_next (wpAny_call_entry F.slot_zip_next ty F.entry_zip_next
    (held_item S D1 D2 hz hT hTI st1 st2 l1 l2 fun x y h' tk a b c d e g k m => wpAny_pure (hQ x y h' tk a b c d e g k m)) (F.args_zip_next_1 _))))
theorem held_stop {Q : Option Value → Shared → Prop} (S : ZipSep2 z TI TO i1 i2 fp1 fp2) (D1 : Draws prog w A.in1 i1 fp1 n1 P1 St1) (D2 : Draws prog w A.in1 i2 fp2 n2 P2 St2) (hz : IsZipHeld s.heap z TI TO T f) (hT : s.heap.get? T = some oT) (hTI : IsTupOf2 s.heap TI (.ref i1) (.ref i2))
    (st1 : St1 i s.heap) (st2 : St2 i s.heap) (l1 : i ≤ n1) (l2 : i ≤ n2) (hend : i = n1 ∨ i = n2)
    (hQ : ∀ h' tk, (∀ c o, c ≠ z → c ≠ i1 → c ≠ i2 → s.heap.get? c = some o → h'.get? c = some o) → Q none { s with heap := h', toks := tk }) : wpAny (model prog w) A (pyNext (.ref z)) Q E s := by
  have ty : s.TypeIs (.ref z) "zip" := ⟨_, hz, rfl⟩
  unfold pyNext
  refine wpAny_bind (wpAny_attempt (wpAny_callSpecial?_slot (name := Str.ofString "__next__") ty F.slot_zip_next (wpAny_call_entry F.slot_zip_next ty F.entry_zip_next
    (held_end S D1 D2 hz hT hTI st1 st2 l1 l2 hend fun h' tk e hk he => ?_) (F.args_zip_next_1 _))))
  obtain ⟨o, ho, hc⟩ := he
  refine wpAny_bind (wpAny_isInstance (T := "StopIteration") (b := true) ⟨o, ho, hc⟩ isSubtype_stop ?_)
  exact wpAny_pure (hQ _ _ hk)
end
end Dl
set_option Elab.async false
set_option linter.all false
set_option maxRecDepth 100000
namespace Dl
open PySem PySem.Spec PyProof.Rows L2

/-! ### list(zip(a, b)) -/
theorem zip_no_len : typeLookup (.type "zip") "__len__" = pure none := am_miss_of_fast (by decide +kernel)
theorem zip_no_hint : typeLookup (.type "zip") "__length_hint__" = pure none := am_miss_of_fast (by decide +kernel)
section
variable {prog : Program} {w : World} {A : Around} {E : Value → Shared → Prop} {s : Shared} {r : Addr} {Q : Bool → Shared → Prop}
theorem hint_zip (hT : s.TypeIs (.ref r) "zip") (h : Q true s) : wpAny (model prog w) A (Builtin.List.listLengthHint (.ref r)) Q E s := by
  unfold Builtin.List.listLengthHint
  refine wpAny_bind (wpAny_specialOf hT zip_no_len ?_)
  simp only [Option.isSome_none, Bool.false_eq_true, if_false]
  exact wpAny_bind (wpAny_specialOf hT zip_no_hint (wpAny_pure h))
end
end Dl
set_option Elab.async false
set_option linter.all false
set_option maxRecDepth 100000
namespace Dl
open PySem PySem.Spec PyProof.Rows L2

/-! ### list.extend over a zip -/
structure LZ (t1 t2 : Bool) (a b z TI TO i1 i2 S : Addr) (its1 its2 : List Value) (N0 : Nat) (h0 : Heap) (h : Heap) (i : Nat) (Ts : List Addr) : Prop where
  z0 : i = 0 → IsZip h z TI TO .none ∧ ∃ x y, IsTupOf2 h TO x y
  zh : 0 < i → ∃ T f oT, IsZipHeld h z TI TO T f ∧ h.get? T = some oT ∧ N0 ≤ T
  ti : IsTupOf2 h TI (.ref i1) (.ref i2)
  p1 : IterAt t1 h i1 a i ∧ PlAt t1 h a its1.toArray
  p2 : IterAt t2 h i2 b i ∧ PlAt t2 h b its2.toArray
  ls : ∃ c, h.get? S = some { cls := .type "list", dict := none, data := .seq (Ts.map Value.ref).toArray c, slots := #[] }
  len : Ts.length = i
  ps : ∀ (j : Nat) (T : Addr), Ts[j]? = some T → N0 ≤ T ∧ T < h.objs.size ∧ ∃ x y, its1[j]? = some x ∧ its2[j]? = some y ∧ IsTupOf2 h T x y
  nd : Ts.Nodup
  kp : ∀ q o, q ≠ S → q ≠ z → q ≠ TO → q ≠ i1 → q ≠ i2 → h0.get? q = some o → h.get? q = some o
  sz : N0 ≤ h.objs.size
theorem PlAt.at {t : Bool} {h h' : Heap} {a : Addr} {its : Array Value} (x : PlAt t h a its) (kp : ∀ o, h.get? a = some o → h'.get? a = some o) : PlAt t h' a its := by
  cases t
  · exact (show h.IsList a its from x).at kp
  · exact (show h.IsTuple a its from x).at kp
section
variable {prog : Program} {w : World} {A : Around} {E : Value → Shared → Prop} {t1 t2 : Bool} {a b z TI TO i1 i2 S : Addr} {its1 its2 : List Value} {N0 : Nat} {h0 : Heap} (SP : ZipSep2 z TI TO i1 i2 [i1, a] [i2, b]) (hai : a ≠ i1) (hbi : b ≠ i2)
  (lS : S < N0) (lz : z < N0) (lTI : TI < N0) (lTO : TO < N0) (l1 : i1 < N0) (l2 : i2 < N0) (la : a < N0) (lb : b < N0) (hSz : S ≠ z) (hST : S ≠ TI) (hSO : S ≠ TO) (hS1 : S ≠ i1) (hS2 : S ≠ i2) (hSa : S ≠ a) (hSb : S ≠ b)
include SP hai hbi lS lz lTI lTO l1 l2 la lb
theorem lz_next {s : Shared} {i : Nat} {Ts : List Addr} {Q : Option Value → Shared → Prop} (hh : A.in1.handled = none) (L : LZ t1 t2 a b z TI TO i1 i2 S its1 its2 N0 h0 s.heap i Ts) (hi : i < min its1.length its2.length)
    (hQ : ∀ x y h' tk, its1[i]? = some x → its2[i]? = some y → (∃ T f oT, IsZipHeld h' z TI TO T f ∧ h'.get? T = some oT ∧ N0 ≤ T) → IterAt t1 h' i1 a (i + 1) ∧ PlAt t1 h' a its1.toArray → IterAt t2 h' i2 b (i + 1) ∧ PlAt t2 h' b its2.toArray →
      IsTupOf2 h' s.heap.objs.size x y → h'.objs.size = s.heap.objs.size + 1 → (∀ q o, q ≠ z → q ≠ TO → q ≠ i1 → q ≠ i2 → s.heap.get? q = some o → h'.get? q = some o) → Q (some (.ref s.heap.objs.size)) { s with heap := h', toks := tk }) :
    wpAny (model prog w) A (pyNext (.ref z)) Q E s := by
  have n1 : i < its1.toArray.size := by rw [List.size_toArray]; omega
  have n2 : i < its2.toArray.size := by rw [List.size_toArray]; omega
  have far : ∀ {T : Addr}, N0 ≤ T → T ≠ z ∧ T ≠ TO ∧ T ≠ i1 ∧ T ≠ i2 := fun hT => ⟨Nat.ne_of_gt (Nat.lt_of_lt_of_le lz hT), Nat.ne_of_gt (Nat.lt_of_lt_of_le lTO hT), Nat.ne_of_gt (Nat.lt_of_lt_of_le l1 hT), Nat.ne_of_gt (Nat.lt_of_lt_of_le l2 hT)⟩
  by_cases h : i = 0
  · obtain ⟨hz, x0, y0, hTO⟩ := L.z0 h
    refine wpAny_pyNext_zipD2_item SP (drawsX hh t1 i1 a hai its1.toArray) (drawsX hh t2 i2 b hbi its2.toArray) hz L.ti hTO L.p1 L.p2 n1 n2 fun x y h' tk e1 e2 z' TO' q1 q2 hT hsz hk => ?_
    exact hQ x y h' tk (by simpa using e1) (by simpa using e2) ⟨_, false, _, z', hT, L.sz⟩ q1 q2 hT hsz hk
  · obtain ⟨T, f, oT, hz, hT, hN⟩ := L.zh (Nat.pos_of_ne_zero h)
    obtain ⟨f1, f2, f3, f4⟩ := far hN
    refine held_next SP (drawsX hh t1 i1 a hai its1.toArray) (drawsX hh t2 i2 b hbi its2.toArray) hz hT L.ti L.p1 L.p2 n1 n2 fun x y h' tk e1 e2 z' q1 q2 hT' hsz hk => ?_
    exact hQ x y h' tk (by simpa using e1) (by simpa using e2) ⟨T, true, oT, z', hk _ _ f1 f3 f4 hT, hN⟩ q1 q2 hT' hsz fun q o a1 _ a3 a4 e => hk q o a1 a3 a4 e
theorem lz_stop {s : Shared} {i : Nat} {Ts : List Addr} {Q : Option Value → Shared → Prop} (hh : A.in1.handled = none) (L : LZ t1 t2 a b z TI TO i1 i2 S its1 its2 N0 h0 s.heap i Ts) (hi : i = min its1.length its2.length)
    (hQ : ∀ h' tk, (∀ q o, q ≠ z → q ≠ TO → q ≠ i1 → q ≠ i2 → s.heap.get? q = some o → h'.get? q = some o) → Q none { s with heap := h', toks := tk }) : wpAny (model prog w) A (pyNext (.ref z)) Q E s := by
  have m1 : i ≤ its1.toArray.size := by rw [List.size_toArray]; omega
  have m2 : i ≤ its2.toArray.size := by rw [List.size_toArray]; omega
  have m3 : i = its1.toArray.size ∨ i = its2.toArray.size := by rw [List.size_toArray, List.size_toArray]; omega
  by_cases h : i = 0
  · obtain ⟨hz, x0, y0, hTO⟩ := L.z0 h
    exact wpAny_pyNext_zipD2_end SP (drawsX hh t1 i1 a hai its1.toArray) (drawsX hh t2 i2 b hbi its2.toArray) hz L.ti hTO L.p1 L.p2 m1 m2 m3 hQ
  · obtain ⟨T, f, oT, hz, hT, hN⟩ := L.zh (Nat.pos_of_ne_zero h)
    exact held_stop SP (drawsX hh t1 i1 a hai its1.toArray) (drawsX hh t2 i2 b hbi its2.toArray) hz hT L.ti L.p1 L.p2 m1 m2 m3 fun h' tk hk => hQ h' tk fun q o a1 _ a3 a4 e => hk q o a1 a3 a4 e
include hSz hST hSO hS1 hS2 hSa hSb
theorem lz_loop {R : Result → Shared → Prop} (hh : A.handled = none) (res : Value) (hn : min its1.length its2.length ≤ sizeLine) (s0 : Shared)
    (hR : ∀ (h' : Heap) (tk : Nat) (Ts : List Addr) (c : Nat), Ts.length = min its1.length its2.length → Ts.Nodup → (∀ (j : Nat) (T : Addr), Ts[j]? = some T → N0 ≤ T ∧ T < h'.objs.size ∧ ∃ x y, its1[j]? = some x ∧ its2[j]? = some y ∧ IsTupOf2 h' T x y) →
      h'.get? S = some { cls := .type "list", dict := none, data := .seq (Ts.map Value.ref).toArray c, slots := #[] } → (∀ q o, q ≠ S → q ≠ z → q ≠ TO → q ≠ i1 → q ≠ i2 → h0.get? q = some o → h'.get? q = some o) → R (.ok (.ret res)) { s0 with heap := h', toks := tk }) :
    ∀ (k i : Nat) (h : Heap) (tk : Nat) (Ts : List Addr), min its1.length its2.length - i = k → i ≤ min its1.length its2.length → LZ t1 t2 a b z TI TO i1 i2 S its1 its2 N0 h0 h i Ts →
    codeAny (model prog w) A (.builtin "list.extend.loop" ⟨[.ref S, .ref z, res], []⟩) R { s0 with heap := h, toks := tk } := by
  intro k
  induction k with
  | zero =>
    intro i h tk Ts hk hi L
    obtain ⟨c, hls⟩ := L.ls
    have hin : i = min its1.length its2.length := by omega
    refine codeAny_builtin PySem.F.entry_extend_loop ?_
    rw [Around.under_plainId PySem.F.plain_extend_loop _]
    show wpAny _ A.in1 (pyNext (.ref z) >>= _) _ _ _
    refine wpAny_bind (lz_stop SP hai hbi lS lz lTI lTO l1 l2 la lb (A := A.in1) (s := { s0 with heap := h, toks := tk }) hh L hin fun h' tk' kp => ?_)
    have far : ∀ {T : Addr}, N0 ≤ T → T ≠ z ∧ T ≠ TO ∧ T ≠ i1 ∧ T ≠ i2 := fun hT => ⟨Nat.ne_of_gt (Nat.lt_of_lt_of_le lz hT), Nat.ne_of_gt (Nat.lt_of_lt_of_le lTO hT), Nat.ne_of_gt (Nat.lt_of_lt_of_le l1 hT), Nat.ne_of_gt (Nat.lt_of_lt_of_le l2 hT)⟩
    refine wpAny_pure (hR h' tk' Ts c (by rw [L.len, hin]) L.nd (fun j T e => ?_) (kp _ _ hSz hSO hS1 hS2 hls) fun q o e1 e2 e3 e4 e5 e => kp q o e2 e3 e4 e5 (L.kp q o e1 e2 e3 e4 e5 e))
    obtain ⟨g1, g2, x, y, g3, g4, g5⟩ := L.ps j T e
    obtain ⟨f1, f2, f3, f4⟩ := far g1
    have g6 := kp _ _ f1 f2 f3 f4 g5
    exact ⟨g1, Heap.lt_size g6, x, y, g3, g4, g6⟩
  | succ k ih =>
    intro i h tk Ts hk hi L
    obtain ⟨c, hls⟩ := L.ls
    have hlt : i < min its1.length its2.length := by omega
    refine codeAny_builtin PySem.F.entry_extend_loop ?_
    rw [Around.under_plainId PySem.F.plain_extend_loop _]
    show wpAny _ A.in1 (pyNext (.ref z) >>= _) _ _ _
    refine wpAny_bind (lz_next SP hai hbi lS lz lTI lTO l1 l2 la lb (A := A.in1) (s := { s0 with heap := h, toks := tk }) hh L hlt fun x y h' tk' e1 e2 zh q1 q2 hT hsz kp => ?_)
    have hT : IsTupOf2 h' h.objs.size x y := hT
    have hsz : h'.objs.size = h.objs.size + 1 := hsz
    have kp : ∀ q o, q ≠ z → q ≠ TO → q ≠ i1 → q ≠ i2 → h.get? q = some o → h'.get? q = some o := kp
    have ls' := kp _ _ hSz hSO hS1 hS2 hls
    have far : ∀ {T : Addr}, N0 ≤ T → T ≠ z ∧ T ≠ TO ∧ T ≠ i1 ∧ T ≠ i2 ∧ T ≠ S := fun hT => ⟨Nat.ne_of_gt (Nat.lt_of_lt_of_le lz hT), Nat.ne_of_gt (Nat.lt_of_lt_of_le lTO hT), Nat.ne_of_gt (Nat.lt_of_lt_of_le l1 hT), Nat.ne_of_gt (Nat.lt_of_lt_of_le l2 hT), Nat.ne_of_gt (Nat.lt_of_lt_of_le lS hT)⟩
    show wpAny _ A.in1 (updateSeq S (·.push (.ref h.objs.size)) >>= _) _ _ _
    refine wpAny_bind ?_
    have oth : ∀ {f : Obj → Obj} {q : Addr} {o : Obj}, q ≠ S → h'.get? q = some o → (h'.update S f).get? q = some o := fun hq e => (Heap.get?_update_other _ _ (Ne.symm hq)).trans e
    refine wpAny_updateSeq ls' rfl (wpAny_pure ⟨plainId_quiet PySem.F.plain_extend_loop _, ih (i + 1) _ tk' (Ts ++ [h.objs.size]) (by omega) hlt ⟨fun z => absurd z (Nat.succ_ne_zero i), fun _ => ?_, oth (Ne.symm hST) (kp _ _ SP.TIz SP.TITO SP.TIi1 SP.TIi2 L.ti), ⟨q1.1.at fun o e => oth (Ne.symm hS1) e, q1.2.at fun o e => oth (Ne.symm hSa) e⟩, ⟨q2.1.at fun o e => oth (Ne.symm hS2) e, q2.2.at fun o e => oth (Ne.symm hSb) e⟩, ?_, by simp [L.len], fun j T e => ?_, ?_, fun q o g1 g2 g3 g4 g5 e => oth g1 (kp q o g2 g3 g4 g5 (L.kp q o g1 g2 g3 g4 g5 e)), ?_⟩⟩) ?_ ?_
    · obtain ⟨T, f, oT, u1, u2, u3⟩ := zh
      exact ⟨T, f, oT, oth (Ne.symm hSz) u1, oth (far u3).2.2.2.2 u2, u3⟩
    · have e : ((Ts ++ [h.objs.size]).map Value.ref).toArray = (Ts.map Value.ref).toArray.push (.ref h.objs.size) := by simp
      rw [e]
      exact ⟨_, Heap.get?_update_self _ ls' rfl⟩
    · have hup : ∀ f : Obj → Obj, (h'.update S f).objs.size = h.objs.size + 1 := fun f => by simp [hsz]
      rcases Nat.lt_or_ge j Ts.length with hj | hj
      · rw [List.getElem?_append_left hj] at e
        obtain ⟨g1, g2, x', y', g3, g4, g5⟩ := L.ps j T e
        obtain ⟨f1, f2, f3, f4, f5⟩ := far g1
        exact ⟨g1, Nat.lt_of_lt_of_eq (Nat.lt_succ_of_lt g2) (hup _).symm, x', y', g3, g4, oth f5 (kp _ _ f1 f2 f3 f4 g5)⟩
      · rw [List.getElem?_append_right hj] at e
        have hj0 : j = Ts.length := by
          rcases Nat.eq_zero_or_pos (j - Ts.length) with h0 | h0
          · omega
          · rw [List.getElem?_eq_none (by simp; omega)] at e; cases e
        subst hj0
        rw [Nat.sub_self] at e
        have e' : h.objs.size = T := by simpa using e
        subst e'
        rw [L.len]
        exact ⟨L.sz, Nat.lt_of_lt_of_eq (Nat.lt_succ_self _) (hup _).symm, x, y, e1, e2, oth (far L.sz).2.2.2.2 hT⟩
    · refine List.nodup_append.mpr ⟨L.nd, by simp, fun p hp q hq => ?_⟩
      obtain ⟨j, hj⟩ := List.getElem?_of_mem hp
      have := (L.ps j p hj).2.1
      have hq' : q = h.objs.size := by simpa using hq
      exact Nat.ne_of_lt (Nat.lt_of_lt_of_eq this hq'.symm)
    · have hup : ∀ f : Obj → Obj, (h'.update S f).objs.size = h.objs.size + 1 := fun f => by simp [hsz]
      exact Nat.le_trans (Nat.le_succ_of_le L.sz) (Nat.le_of_eq (hup _).symm)
    · have e : (Ts.map Value.ref).toArray.size = i := by simp [L.len]
      rw [e]; first | omega | (show i + 1 ≤ sizeLine + 1; omega)
    · have e : ((Ts.map Value.ref).toArray.push (.ref h.objs.size)).size = i + 1 := by simp [L.len]
      rw [e]; first | omega | (show i + 1 ≤ sizeLine + 1; omega)
end
end Dl
set_option Elab.async false
set_option linter.all false
set_option maxRecDepth 100000
namespace Dl
open PySem PySem.Spec PyProof.Rows L2

theorem lz_ar {N S a b : Nat} (la : a < N) (lb : b < N) (h : N + 5 ≤ S) : N + 4 < S + 1 ∧ N + 2 < S + 1 ∧ N + 3 < S + 1 ∧ N < S + 1 ∧ N + 1 < S + 1 ∧ a < S + 1 ∧ b < S + 1 ∧ S ≠ N + 4 ∧ S ≠ N + 2 ∧ S ≠ N + 3 ∧ S ≠ N ∧ S ≠ N + 1 ∧ S ≠ a ∧ S ≠ b := by omega
/-! ### the call list(z) of a fresh zip z -/
structure ZCells (t1 t2 : Bool) (a b N : Addr) (its1 its2 : List Value) (h : Heap) : Prop where
  z : IsZip h (N + 4) (N + 2) (N + 3) .none
  ti : IsTupOf2 h (N + 2) (.ref N) (.ref (N + 1))
  to : ∃ x y, IsTupOf2 h (N + 3) x y
  p1 : IterAt t1 h N a 0 ∧ PlAt t1 h a its1.toArray
  p2 : IterAt t2 h (N + 1) b 0 ∧ PlAt t2 h b its2.toArray
theorem ZCells.at {t1 t2 : Bool} {a b N : Addr} {its1 its2 : List Value} {h h' : Heap} (x : ZCells t1 t2 a b N its1 its2 h) (la : a < N) (lb : b < N) (kp : ∀ q o, q < N + 5 → h.get? q = some o → h'.get? q = some o) : ZCells t1 t2 a b N its1 its2 h' := by
  obtain ⟨z, ti, ⟨u, v, to⟩, p1, p2⟩ := x
  have l : ∀ {q : Nat}, q < N → q < N + 5 := fun h => Nat.lt_of_lt_of_le h (Nat.le_add_right _ _)
  exact ⟨kp _ _ (Nat.lt_succ_self (N + 4)) z, kp _ _ (Nat.add_lt_add_left (by decide) N) ti, ⟨u, v, kp _ _ (Nat.add_lt_add_left (by decide) N) to⟩, ⟨p1.1.at fun o e => kp _ _ (Nat.lt_add_of_pos_right (by decide)) e, p1.2.at fun o e => kp _ _ (l la) e⟩,
    ⟨p2.1.at fun o e => kp _ _ (Nat.add_lt_add_left (by decide) N) e, p2.2.at fun o e => kp _ _ (l lb) e⟩⟩
section
variable {prog : Program} {w : World} {A : Around} {E : Value → Shared → Prop} {t1 t2 : Bool} {a b N : Addr} {its1 its2 : List Value}
theorem lz_start {h : Heap} {S : Addr} {c : Nat} (x : ZCells t1 t2 a b N its1 its2 h) (hS : h.get? S = some { cls := .type "list", data := .seq #[] c }) : LZ t1 t2 a b (N + 4) (N + 2) (N + 3) N (N + 1) S its1 its2 (S + 1) h h 0 [] :=
  ⟨fun _ => ⟨x.z, x.to⟩, fun z => absurd z (Nat.lt_irrefl 0), x.ti, x.p1, x.p2, ⟨c, hS⟩, rfl, fun j T e => by simp at e, List.nodup_nil, fun q o _ _ _ _ _ e => e, Nat.succ_le_of_lt (Heap.lt_size hS)⟩
theorem lz_run {R : Result → Shared → Prop} (hh : A.handled = none) (res : Value) (hn : min its1.length its2.length ≤ sizeLine) (la : a < N) (lb : b < N) {S : Addr} (lS : N + 5 ≤ S) {h0 : Heap} {tk c : Nat} (s0 : Shared) (x : ZCells t1 t2 a b N its1 its2 h0)
    (hS : h0.get? S = some { cls := .type "list", data := .seq #[] c })
    (hR : ∀ (h' : Heap) (tk : Nat) (Ts : List Addr) (c : Nat), Ts.length = min its1.length its2.length → Ts.Nodup → (∀ (j : Nat) (T : Addr), Ts[j]? = some T → S + 1 ≤ T ∧ T < h'.objs.size ∧ ∃ x y, its1[j]? = some x ∧ its2[j]? = some y ∧ IsTupOf2 h' T x y) →
      h'.get? S = some { cls := .type "list", dict := none, data := .seq (Ts.map Value.ref).toArray c, slots := #[] } → (∀ q o, q ≠ S → q ≠ N + 4 → q ≠ N + 3 → q ≠ N → q ≠ N + 1 → h0.get? q = some o → h'.get? q = some o) → R (.ok (.ret res)) { s0 with heap := h', toks := tk }) :
    codeAny (model prog w) A (.builtin "list.extend.loop" ⟨[.ref S, .ref (N + 4), res], []⟩) R { s0 with heap := h0, toks := tk } := by
  obtain ⟨g1, g2, g3, g4, g5, g6, g7, n1, n2, n3, n4, n5, n6, n7⟩ := lz_ar la lb lS
  exact lz_loop (zip_sep2 (N := N) (fp1 := [a]) (fp2 := [b]) (by simpa using la) (by simpa using lb)) (Nat.ne_of_lt la) (Nat.ne_of_lt (Nat.lt_succ_of_lt lb))
    (Nat.lt_succ_self S) g1 g2 g3 g4 g5 g6 g7 n1 n2 n3 n4 n5 n6 n7
    hh res hn s0 hR _ 0 h0 tk [] rfl (Nat.zero_le _) (lz_start x hS)
end
end Dl
set_option Elab.async false
set_option linter.all false
set_option maxRecDepth 100000
namespace Dl
open PySem PySem.Spec PyProof.Rows L2

/-! ### the call list(z) of a fresh zip z, from the call on -/
abbrev ZOut (N S : Addr) (its1 its2 : List Value) (h0 h' : Heap) (Ts : List Addr) (c : Nat) : Prop :=
  Ts.length = min its1.length its2.length ∧ Ts.Nodup ∧ (∀ (j : Nat) (T : Addr), Ts[j]? = some T → S + 1 ≤ T ∧ T < h'.objs.size ∧ ∃ x y, its1[j]? = some x ∧ its2[j]? = some y ∧ IsTupOf2 h' T x y) ∧
  h'.get? S = some { cls := .type "list", dict := none, data := .seq (Ts.map Value.ref).toArray c, slots := #[] } ∧ ∀ q o, q ≠ S → q ≠ N + 4 → q ≠ N + 3 → q ≠ N → q ≠ N + 1 → h0.get? q = some o → h'.get? q = some o
section
variable {prog : Program} {w : World} {A : Around} {E : Value → Shared → Prop} {s : Shared} {t1 t2 : Bool} {a b N : Addr} {its1 its2 : List Value}
theorem lz_extend {R : Result → Shared → Prop} (hh : A.handled = none) (res : Value) (hn : min its1.length its2.length ≤ sizeLine) (la : a < N) (lb : b < N) {S : Addr} (lS : N + 5 ≤ S) {c₀ : Nat} (x : ZCells t1 t2 a b N its1 its2 s.heap)
    (hS : s.heap.get? S = some { cls := .type "list", data := .seq #[] c₀ }) (hR : ∀ h' tk Ts c, ZOut N S its1 its2 s.heap h' Ts c → R (.ok (.ret res)) { s with heap := h', toks := tk }) :
    wpAny (model prog w) A.in1 (Builtin.List.listExtendWith (.ref S) (.ref (N + 4)) res)
      (fun fin s' => match fin with | .done f => R (.ok f) s' | .again c' => c'.quiet = true ∧ codeAny (model prog w) A c' R s') (fun e s' => R (.error e) s') s := by
  obtain ⟨g1, g2, g3, g4, g5, g6, g7, n1, n2, n3, n4, n5, n6, n7⟩ := lz_ar la lb lS
  have key : ∀ (h : Heap) (c₁ tk : Nat), (∀ q o, q ≠ S → s.heap.get? q = some o → h.get? q = some o) → h.get? S = some { cls := .type "list", data := .seq #[] c₁ } →
      codeAny (model prog w) A (.builtin "list.extend.loop" ⟨[.ref S, .ref (N + 4), res], []⟩) R { s with heap := h, toks := tk } := by
    intro h c₁ tk hk hS₁
    refine lz_run hh res hn la lb lS s (x.at la lb fun q o hq e => hk q o (Nat.ne_of_lt (Nat.lt_of_lt_of_le hq lS)) e) hS₁ fun h' tk' Ts c o1 o2 o3 o4 o5 => ?_
    exact hR h' tk' Ts c ⟨o1, o2, o3, o4, fun q o e1 e2 e3 e4 e5 e => o5 q o e1 e2 e3 e4 e5 (hk q o e1 e)⟩
  have hT : s.TypeIs (.ref (N + 4)) "zip" := ⟨_, x.z, rfl⟩
  unfold Builtin.List.listExtendWith
  refine wpAny_bind (wpAny_typeOf (T := "zip") hT ?_)
  have h1 : Builtin.List.listSameRef (.ref S) (.ref (N + 4)) = false := by simp [Builtin.List.listSameRef, n1]
  have z1 : (Value.type "zip" == Value.type "list") = false := by decide
  have z2 : (Value.type "zip" == Value.type "tuple") = false := by decide
  simp only [h1, z1, z2, Bool.or_false, Bool.false_eq_true, if_false]
  refine wpAny_bind (wpAny_pyIter_zip x.z ?_)
  refine wpAny_bind (wpAny_holding (hint_zip hT ?_))
  refine wpAny_ite_split (fun _ => ?_) (fun _ => wpAny_pure ⟨plainId_quiet PySem.F.plain_extend_loop _, key _ c₀ _ (fun b o _ e => e) hS⟩)
  refine wpAny_bind (wpAny_rule ?_)
  refine wpAny_bind ?_
  show wpAny _ _ (updateSeq S (·.push .none) >>= fun _ => updateSeq S (·.pop)) _ _ _
  refine wpAny_bind (wpAny_updateSeq hS rfl ?_)
  have hS₂ := Heap.get?_update_self (Obj.mapSeq (·.push Value.none)) hS rfl
  refine wpAny_updateSeq (hz := by seq_fits) hS₂ rfl ?_
  have hS₃ := Heap.get?_update_self (Obj.mapSeq (·.pop)) hS₂ rfl
  refine wpAny_pure ⟨plainId_quiet PySem.F.plain_extend_loop _, key _ _ _ (fun b o hb e => ?_) hS₃⟩
  exact (Heap.get?_update_other _ _ (Ne.symm hb)).trans ((Heap.get?_update_other _ _ (Ne.symm hb)).trans e)
theorem lz_init {R : Result → Shared → Prop} (hh : A.handled = none) (hn : min its1.length its2.length ≤ sizeLine) (la : a < N) (lb : b < N) {S : Addr} (lS : N + 5 ≤ S) (x : ZCells t1 t2 a b N its1 its2 s.heap)
    (hS : s.heap.get? S = some { cls := .type "list", data := .seq #[] }) (hR : ∀ h' tk Ts c, ZOut N S its1 its2 s.heap h' Ts c → R (.ok (.ret .none)) { s with heap := h', toks := tk }) :
    wpAny (model prog w) A.in1 (Builtin.«list.__init__» ⟨[.ref S, .ref (N + 4)], []⟩)
      (fun fin s' => match fin with | .done f => R (.ok f) s' | .again c' => c'.quiet = true ∧ codeAny (model prog w) A c' R s') (fun e s' => R (.error e) s') s := by
  show wpAny _ _ (do let old ← Builtin.List.listItems (.ref S); Builtin.List.listUpdate (.ref S) (fun _ => #[]); letGo old.toList.reverse; Builtin.List.listExtendWith (.ref S) (.ref (N + 4)) .none) _ _ s
  refine wpAny_bind ?_
  unfold Builtin.List.listItems
  refine wpAny_bind (wpAny_seqItems hS rfl (wpAny_pure ?_))
  show wpAny _ _ (updateSeq S (fun _ => #[]) >>= fun _ => letGo (#[] : Array Value).toList.reverse >>= fun _ => Builtin.List.listExtendWith (.ref S) (.ref (N + 4)) .none) _ _ s
  refine wpAny_bind (wpAny_updateSeq hS rfl ?_)
  have hS₂ := Heap.get?_update_self (Obj.mapSeq (fun _ => (#[] : Array Value))) hS rfl
  have oth : ∀ b o, b ≠ S → s.heap.get? b = some o → (s.heap.update S (Obj.mapSeq (fun _ => (#[] : Array Value)))).get? b = some o :=
    fun b o hb e => (Heap.get?_update_other _ _ (Ne.symm hb)).trans e
  refine wpAny_bind (wpAny_letGo ?_)
  refine lz_extend hh .none hn la lb lS (x.at la lb fun q o hq e => oth q o (Nat.ne_of_lt (Nat.lt_of_lt_of_le hq lS)) e) hS₂ fun h' tk Ts c o => ?_
  exact hR h' tk Ts c ⟨o.1, o.2.1, o.2.2.1, o.2.2.2.1, fun q u e1 e2 e3 e4 e5 e => o.2.2.2.2 q u e1 e2 e3 e4 e5 (oth q u e1 e)⟩
theorem lz_call {Q : Value → Shared → Prop} (hh : A.handled = none) (hn : min its1.length its2.length ≤ sizeLine) (la : a < N) (lb : b < N) (lS : N + 5 ≤ s.heap.objs.size) (x : ZCells t1 t2 a b N its1 its2 s.heap)
    (hQ : ∀ h' tk Ts c, ZOut N s.heap.objs.size its1 its2 s.heap h' Ts c → Q (.ref s.heap.objs.size) { s with heap := h', toks := tk }) :
    wpAny (model prog w) A (call (.type "list") [.ref (N + 4)]) Q E s := by
  refine callType_codes (Q₁ := fun obj s₁ => obj = .ref s.heap.objs.size ∧ s₁ = { s with heap := s.heap.push { cls := .type "list", data := .seq #[] } }) PySem.F.called_list (PySem.F.typeCall_list_1 _) PySem.F.entry_list_init
    (code_list_new _ ⟨rfl, rfl⟩) fun obj s₁ h₁ => ?_
  obtain ⟨rfl, rfl⟩ := h₁
  have hS : (s.heap.push { cls := .type "list", data := .seq #[] }).get? s.heap.objs.size = some { cls := .type "list", data := .seq #[] } := Heap.get?_push_size _ rfl
  refine ⟨⟨_, hS, rfl⟩, PySem.F.args_list_init_2 _ _, lz_init (A := A.in1) hh hn la lb lS (x.at la lb fun q o _ e => Heap.get?_push_of_some _ e) hS fun h' tk Ts c o => ?_⟩
  exact ⟨rfl, hQ h' tk Ts c ⟨o.1, o.2.1, o.2.2.1, o.2.2.2.1, fun q u e1 e2 e3 e4 e5 e => o.2.2.2.2 q u e1 e2 e3 e4 e5 (Heap.get?_push_of_some _ e)⟩⟩
end
end Dl
set_option Elab.async false
set_option linter.all false
set_option maxRecDepth 100000
namespace Dl
open PySem PySem.Spec PyProof.Rows L2

/-! ### several new cells of any kind laid at once -/
def layH (H : Hp) : List (Addr × HO) → Hp
  | [] => H
  | (a, o) :: r => upd (layH H r) a o
theorem layH_cases (H : Hp) : ∀ (cs : List (Addr × HO)) (b : Addr), ((∀ p ∈ cs, p.1 ≠ b) ∧ layH H cs b = H b) ∨ ∃ o, (b, o) ∈ cs ∧ layH H cs b = some o
  | [], b => .inl ⟨fun p hp => (by cases hp), rfl⟩
  | (a, φ) :: r, b => by
    by_cases e : b = a
    · subst e
      exact .inr ⟨φ, List.mem_cons_self .., by rw [layH, upd_same]⟩
    · rw [layH, upd_ne e]
      rcases layH_cases H r b with ⟨h1, h2⟩ | ⟨ψ, h1, h2⟩
      · exact .inl ⟨fun p hp => by
          rcases List.mem_cons.mp hp with rfl | hp
          · exact fun z => e z.symm
          · exact h1 p hp, h2⟩
      · exact .inr ⟨ψ, List.mem_cons_of_mem _ h1, h2⟩
theorem layH_none {H : Hp} {cs : List (Addr × HO)} {b : Addr} (h : H b = none) (n : ∀ p ∈ cs, p.1 ≠ b) : layH H cs b = none := by
  rcases layH_cases H cs b with ⟨_, h2⟩ | ⟨o, h1, _⟩
  · rw [h2, h]
  · exact absurd rfl (n _ h1)
section
variable {X : Cx} {pins : List (Addr × Obj)} {σ : L2.St} {H : Hp} {s : Shared}
theorem inv_layH {h' : Heap} {t' : Nat} {cs : List (Addr × HO)} (I : Inv X pins σ H s) (k : ∀ b u, s.heap.get? b = some u → h'.get? b = some u) (hp : ∀ p ∈ cs, s.heap.objs.size ≤ p.1)
    (ok : ∀ p ∈ cs, ObjOk X.prog X.w (layH H cs) h' p.1 p.2) : Inv X pins σ (layH H cs) { s with heap := h', toks := t' } := by
  have old : ∀ b o, H b = some o → layH H cs b = some o := fun b o e => by
    rcases layH_cases H cs b with ⟨_, h2⟩ | ⟨φ, h1, _⟩
    · rw [h2, e]
    · have := I.hok.fresh (hp _ h1)
      rw [this] at e; cases e
  refine I.un ⟨fun b u q _ _ _ => k b u q, fun b u q _ _ _ => ⟨u.slots, k b u q⟩, fun b u q n _ => ?_, fun b u q _ => ⟨u, k b u q⟩, fun b xs q => old _ _ q, fun b u xs q => old _ _ q, fun b ps q => ⟨#[], by rw [old _ _ q]; simp⟩⟩ fun b u e => ?_
  · rcases layH_cases H cs b with ⟨_, h2⟩ | ⟨φ, h1, _⟩
    · rw [h2, n]
    · exact absurd (Nat.lt_of_lt_of_le (Heap.lt_size q) (hp _ h1)) (Nat.lt_irrefl _)
  · rcases layH_cases H cs b with ⟨_, h2⟩ | ⟨φ, h1, h2⟩
    · rw [h2] at e
      exact (I.hok b u e).stay (fun c v _ q => k c v q) (fun c q => old _ _ q) fun c xs q => old _ _ q
    · rw [h2] at e
      cases e
      exact ok _ h1
end
/-- many new tuples -/
def tupsOf (cs : List (Addr × List V)) : List (Addr × HO) := cs.map fun p => (p.1, .tup p.2)
inductive DpRows (K : PySem.W.Frag) (F : Hp) : List (Addr × List V) → List (List D) → Prop
  | nil : DpRows K F [] []
  | cons {p : Addr × List V} {ds : List D} {cs : List (Addr × List V)} {dss : List (List D)} : DpAll K F p.2 ds → DpRows K F cs dss → DpRows K F (p :: cs) (ds :: dss)
theorem newTups {K : PySem.W.Frag} {R : Prop} : ∀ (cs : List (Addr × List V)) (dss : List (List D)) {F H : Hp}, Same F H → DpRows K F cs dss → (cs.map (·.1)).Nodup → (∀ p ∈ cs, H p.1 = none) →
    (∀ F', DpAll K F' (cs.map fun p => .ref p.1) (dss.map .tuple) → Same F' (layH H (tupsOf cs)) → Stp Non F H F' (layH H (tupsOf cs)) → R) → R
  | _, _, F, H, fh, .nil, _, _, k => k F .nil fh Stp.refl
  | (a, vs) :: cs, ds :: dss, F, H, fh, .cons h r, nd, hn, k => by
    rw [List.map_cons, List.nodup_cons] at nd
    refine newTups cs dss fh r nd.2 (fun p hp => hn p (List.mem_cons_of_mem _ hp)) fun F' h1 h2 h3 => ?_
    have na : layH H (tupsOf cs) a = none := layH_none (hn _ (List.mem_cons_self ..)) fun p hp e => by
      obtain ⟨q, hq, rfl⟩ := List.mem_map.mp hp
      exact nd.1 (List.mem_map.mpr ⟨q, hq, e⟩)
    refine newTup (Q := fun v H' => v = .ref a ∧ H' = layH H (tupsOf ((a, vs) :: cs)) → R) h2 (dpMonos h3.fs _ _ h) (fun v F2 H2 g1 g2 g3 ⟨e1, e2⟩ => ?_) a na ⟨rfl, rfl⟩
    subst e1
    subst e2
    exact k F2 (.cons g1 (dpMonos g3.fs _ _ h1)) g2 (h3.andN g3)
end Dl
set_option Elab.async false
set_option linter.all false
set_option maxRecDepth 100000
namespace Dl
open PySem PySem.Spec PyProof.Rows L2

/-! ### list(zip(a, b)) -/
def pairC : List Addr → List V → List V → List (Addr × List V)
  | T :: Ts, x :: xs, y :: ys => (T, [x, y]) :: pairC Ts xs ys
  | _, _, _ => []
def pairD : List D → List D → List (List D)
  | x :: xs, y :: ys => [x, y] :: pairD xs ys
  | _, _ => []
theorem pairD_zip : ∀ (xs ys : List D), (pairD xs ys).map .tuple = zipL xs ys
  | [], _ => by simp [pairD, zipL]
  | _ :: _, [] => by simp [pairD, zipL]
  | x :: xs, y :: ys => by simp [pairD, zipL, pairD_zip xs ys]
theorem pairC_fst : ∀ (Ts : List Addr) (xs ys : List V), Ts.length = min xs.length ys.length → (pairC Ts xs ys).map (·.1) = Ts
  | [], _, _, _ => by simp [pairC]
  | T :: Ts, [], ys, h => by simp at h
  | T :: Ts, x :: xs, [], h => by simp at h
  | T :: Ts, x :: xs, y :: ys, h => by
    have h' : Ts.length = min xs.length ys.length := by simp only [List.length_cons] at h; omega
    simp [pairC, pairC_fst Ts xs ys h']
theorem pairC_mem : ∀ {Ts : List Addr} {xs ys : List V} {p : Addr × List V}, p ∈ pairC Ts xs ys → ∃ (j : Nat) (x y : V), Ts[j]? = some p.1 ∧ xs[j]? = some x ∧ ys[j]? = some y ∧ p.2 = [x, y]
  | [], _, _, _, h => by simp [pairC] at h
  | T :: Ts, [], ys, _, h => by simp [pairC] at h
  | T :: Ts, x :: xs, [], _, h => by simp [pairC] at h
  | T :: Ts, x :: xs, y :: ys, p, h => by
    rw [pairC] at h
    rcases List.mem_cons.mp h with rfl | h
    · exact ⟨0, x, y, rfl, rfl, rfl, rfl⟩
    · obtain ⟨j, u, v, a, b, c, d⟩ := pairC_mem h
      exact ⟨j + 1, u, v, a, b, c, d⟩
theorem pairRows {K : PySem.W.Frag} {F : Hp} : ∀ {Ts : List Addr} {xs ys : List V} {ds es : List D}, Ts.length = min xs.length ys.length → DpAll K F xs ds → DpAll K F ys es → DpRows K F (pairC Ts xs ys) (pairD ds es)
  | [], _, _, _, _, h, .nil, _ => by simp [pairC, pairD]; exact .nil
  | [], _, _, _, _, h, .cons a b, .nil => by simp [pairC, pairD]; exact .nil
  | [], _, _, _, _, h, .cons a b, .cons c d => by simp at h
  | T :: Ts, _, _, _, _, h, .nil, _ => by simp at h
  | T :: Ts, _, _, _, _, h, .cons a b, .nil => by simp at h
  | T :: Ts, x :: xs, y :: ys, _, _, h, .cons a b, .cons c d => by
    have h' : Ts.length = min xs.length ys.length := by simp only [List.length_cons] at h; omega
    rw [pairC, pairD]
    exact .cons (.cons a (.cons c .nil)) (pairRows h' b d)
theorem relRefs : ∀ (Ts : List Addr), Vals (Ts.map V.ref) (Ts.map Value.ref)
  | [] => .nil
  | T :: Ts => .cons rfl (relRefs Ts)
theorem invSqZ {X : Cx} {pins : List (Addr × Obj)} {σ : L2.St} {H : Hp} {s : Shared} (I : Inv X pins σ H s) {t : Bool} {a : Addr} {xs : List V} (h : Sq t X.K H a xs) : ∃ its : List Value, Vals xs its ∧ PlAt t s.heap a its.toArray ∧ a < s.heap.objs.size ∧ xs.length ≤ sizeLine := by
  cases t
  · obtain ⟨its, r, p, z⟩ := I.list (show SqL X.K H a xs from h)
    exact ⟨its, r, p.isList, p.lt, z⟩
  · obtain ⟨its, r, p, z⟩ := I.tuple (show SqT X.K H a xs from h)
    have p' := p
    obtain ⟨o, ho, _⟩ := p'
    exact ⟨its, r, p, Heap.lt_size ho, z⟩
def tLZ (K : PySem.W.Frag) (ta : TA) : TE := fun σ H Q => ta σ H fun vs H1 => ∃ (t1 t2 : Bool) (a b : Addr) (xs ys : List V), vs = [.ref a, .ref b] ∧ Sq t1 K H1 a xs ∧ Sq t2 K H1 b ys ∧
  ∀ (S : Addr) (Ts : List Addr), Ts.length = min xs.length ys.length → Ts.Nodup → (∀ T ∈ Ts, S ≠ T ∧ H1 T = none) → H1 S = none → Q (.ref S) (upd (layH H1 (tupsOf (pairC Ts xs ys))) S (.lst (Ts.map V.ref)))
theorem pe_listZip {X : Cx} {e e2 : Expr} {ta : TA} {p pos p2 pos2 : Pos} (hc : X.calm = true) (hgl : Gl X "list") (hml : X.mg "list" = none) (hg : Gl X "zip") (hm : X.mg "zip" = none) (ha : PA X [e, e2] ta)
    (hs : starEach [e, e2] X.env = (false, eval e X.env) :: starEach [e2] X.env := by rfl) (hpl : (backTo pos2 (starEach [e2] X.env)).any (·.1) = false := by rfl) :
    PE X (.Call (.Name "list" p) [.Call (.Name "zip" p2) [e, e2] [] pos2] [] pos) (tLZ X.K ta) := by
  refine ⟨fun pins s σ H Q I h => ?_⟩
  have hh : X.A.handled = none := I.ok.hd hc
  refine Call_ (ld_blt I hgl hml PyProof.Rows.boot_list (PyProof.Rows.callWith_type1 ?_))
  show wpAny _ _ (spliced [(false, eval (.Call (.Name "zip" p2) [e, e2] [] pos2) X.env)]) _ _ s
  refine Calls.spliced_cons ?_
  refine Call_ (ld_blt I hg hm PyProof.Rows.boot_zip (PyProof.Rows.callWith_type1 (thn (ha.run pos2 pins s σ H _ I h) fun us s1 ⟨vs, H1, I1, r1, q1⟩ => ?_) hs hpl))
  obtain ⟨t1, t2, a, b, xs, ys, ex, hqx, hqy, q⟩ := q1
  subst ex
  cases r1 with
  | cons r rr =>
    cases rr with
    | cons r' rr =>
      cases rr
      cases r
      cases r'
      obtain ⟨its, rv, p1, la, zx⟩ := invSqZ I1 hqx
      obtain ⟨its2, rv2, p2, lb, zy⟩ := invSqZ I1 hqy
      have e1 := rv.length
      have e2 := rv2.length
      refine zip_begins2 (beginsX t1 a its.toArray) (beginsX t2 b its2.toArray) p1 p2 fun h' hz hTI hTO h1 h2 hsz hk => ?_
      refine Calls.spliced_nil ?_
      refine lz_call (s := { s1 with heap := h' }) hh (by rw [← e1, ← e2]; omega) la lb (Nat.le_of_eq hsz.symm) ⟨hz, hTI, ⟨_, _, hTO⟩, ⟨IterAt.new h1, p1.at fun o e => hk _ _ e⟩, ⟨IterAt.new h2, p2.at fun o e => hk _ _ e⟩⟩ fun h'' tk Ts c o => ?_
      obtain ⟨o1, o2, o3, o4, o5⟩ := o
      rw [← e1, ← e2] at o1
      have hS : s1.heap.objs.size ≤ h'.objs.size := by rw [hsz]; exact Nat.le_add_right _ _
      have big : ∀ T ∈ Ts, h'.objs.size + 1 ≤ T := fun T hT => by
        obtain ⟨j, hj⟩ := List.getElem?_of_mem hT
        exact (o3 j T hj).1
      have keep : ∀ q u, s1.heap.get? q = some u → h''.get? q = some u := fun q u e => by
        have l := Heap.lt_size e
        exact o5 q u (Nat.ne_of_lt (Nat.lt_of_lt_of_le l hS)) (Nat.ne_of_lt (Nat.lt_of_lt_of_le l (Nat.le_add_right _ _))) (Nat.ne_of_lt (Nat.lt_of_lt_of_le l (Nat.le_add_right _ _))) (Nat.ne_of_lt l) (Nat.ne_of_lt (Nat.lt_succ_of_lt l)) (hk q u e)
      refine ⟨.ref h'.objs.size, _, inv_layH (s := s1) (t' := tk) (cs := (h'.objs.size, .lst (Ts.map V.ref)) :: tupsOf (pairC Ts xs ys)) I1 keep (fun p hp => ?_) (fun p hp => ?_), rfl, q _ Ts o1 o2 (fun T hT => ⟨Nat.ne_of_lt (big T hT), I1.hok.fresh (Nat.le_trans hS (Nat.le_of_succ_le (big T hT)))⟩) (I1.hok.fresh hS)⟩
      · rcases List.mem_cons.mp hp with rfl | hp
        · exact hS
        · obtain ⟨r, hr, rfl⟩ := List.mem_map.mp hp
          obtain ⟨j, x, y, g1, _⟩ := pairC_mem hr
          exact Nat.le_trans hS (Nat.le_of_succ_le (o3 j _ g1).1)
      · rcases List.mem_cons.mp hp with rfl | hp
        · exact ⟨by rw [List.length_map, o1]; omega, _, _, relRefs Ts, o4⟩
        · obtain ⟨r, hr, rfl⟩ := List.mem_map.mp hp
          obtain ⟨j, x, y, g1, g2, g3, g4⟩ := pairC_mem hr
          obtain ⟨_, _, u, v, k1, k2, k3⟩ := o3 j _ g1
          obtain ⟨u', k1', ru⟩ := rv.get g2
          obtain ⟨v', k2', rv'⟩ := rv2.get g3
          rw [k1] at k1'; cases k1'
          rw [k2] at k2'; cases k2'
          show ObjOk _ _ _ _ r.1 (.tup r.2)
          rw [g4]
          exact ⟨by rw [sizeLine_eq]; simp, [u, v], .cons ru (.cons rv' .nil), ⟨_, k3, rfl, _, rfl⟩⟩
/-- list(zip(a, b)) as a list of the frame's own -/
def vZip (f : Fa) : Fv := fun g => (iZipU f g).map fun p => (.own none p.1, p.2)
theorem dv_listZip {X : Cx} {a b : Expr} {p pos p2 pos2 : Pos} {f : Fa} (hc : X.calm = true) (hgl : Gl X "list") (hml : X.mg "list" = none) (hg : Gl X "zip") (hm : X.mg "zip" = none) (ha : DA X [a, b] f)
    (hs : starEach [a, b] X.env = (false, eval a X.env) :: starEach [b] X.env := by rfl) (hpl : (backTo pos2 (starEach [b] X.env)).any (·.1) = false := by rfl) :
    DV X (.Call (.Name "list" p) [.Call (.Name "zip" p2) [a, b] [] pos2] [] pos) (vZip f) := peMono (pe_listZip hc hgl hml hg hm ha hs hpl) fun s H Q ⟨F, g, x, g', r, e, k⟩ => by
  unfold vZip iZipU at e
  split at e
  · rename_i d1 d2 g1 q
    cases q1 : seqD d1 with
    | none => rw [q1] at e; cases e
    | some xs =>
      rw [q1] at e
      cases q2 : seqD d2 with
      | none =>
        have e : Option.map _ ((seqD d2).map _) = some (x, g') := e
        rw [q2] at e; cases e
      | some ys =>
        have e : Option.map _ ((seqD d2).map _) = some (x, g') := e
        rw [q2] at e; cases e
        refine ⟨F, g, _, _, r, q, fun vs F1 H1 p1 r1 t1 m1 => ?_⟩
        obtain ⟨v, w, rfl, h1, h2⟩ := dpTwo p1
        obtain ⟨ta, pa, us, rfl, sa, da⟩ := sqOf h1 r1.fh q1
        obtain ⟨tb, pb, ws, rfl, sb, db⟩ := sqOf h2 r1.fh q2
        refine ⟨ta, tb, pa, pb, us, ws, rfl, sa _ r1.fh, sb _ r1.fh, fun S Ts hl nd hT hS => ?_⟩
        have fst := pairC_fst Ts us ws hl
        refine newTups (K := X.K) (pairC Ts us ws) (pairD xs ys) r1.fh (pairRows hl da db) (by rw [fst]; exact nd) (fun p hp => ?_) fun F2 g1 g2 g3 => ?_
        · exact (hT p.1 (by rw [← fst]; exact List.mem_map.mpr ⟨p, hp, rfl⟩)).2
        · rw [pairD_zip] at g1
          have e3 : (pairC Ts us ws).map (fun p => V.ref p.1) = Ts.map V.ref := by rw [← fst, List.map_map]; rw [fst]; rfl
          rw [e3] at g1
          refine newLst (r1.stepN g3 g2) g1 (t1.andN g3) m1 k S (layH_none hS fun p hp e => ?_)
          obtain ⟨q, hq, rfl⟩ := List.mem_map.mp hp
          exact (hT q.1 (by rw [← fst]; exact List.mem_map.mpr ⟨q, hq, rfl⟩)).1 e.symm
  · cases e
end Dl
set_option Elab.async false
set_option linter.all false
set_option maxRecDepth 100000
namespace Dl
open PySem PySem.Spec PyProof.Rows L2

theorem log_lt {n k : Nat} (hk : 0 < k) (h : n < 2 ^ k) : n.log2 < k := by
  by_cases e : n = 0
  · subst e; simpa using hk
  · exact (Nat.log2_lt e).mpr h
/-! ### loops told by what stays -/
theorem forGo_inv {t : Fg} {b : Fs} (E : G → Prop) : ∀ (ds : List D), (∀ d ∈ ds, ∀ g, E g → ∃ g1 g2, t d g = some g1 ∧ b g1 = some (.nx g2) ∧ E g2) → ∀ g, E g → ∃ g', forGo t b ds g = some (.nx g') ∧ E g'
  | [], _, g, e => ⟨g, rfl, e⟩
  | d :: r, h, g, e => by
    obtain ⟨g1, g2, h1, h2, h3⟩ := h d (List.mem_cons_self ..) g e
    obtain ⟨g', h4, h5⟩ := forGo_inv E r (fun d hd => h d (List.mem_cons_of_mem _ hd)) g2 h3
    exact ⟨g', by simp [forGo, h1, h2, h4], h5⟩
/-- a loop that looks for the first thing to hand back -/
theorem forGo_find {t : Fg} {b : Fs} (E : G → Prop) (p : D → Option Sl) : ∀ (ds : List D),
    (∀ d ∈ ds, ∀ g, E g → ∃ g1, t d g = some g1 ∧ ((p d = none ∧ ∃ g2, b g1 = some (.nx g2) ∧ E g2) ∨ ∃ x g2, p d = some x ∧ b g1 = some (.ret x g2))) →
    ∀ g, E g → (ds.findSome? p = none ∧ ∃ g', forGo t b ds g = some (.nx g') ∧ E g') ∨ ∃ x g', ds.findSome? p = some x ∧ forGo t b ds g = some (.ret x g')
  | [], _, g, e => .inl ⟨rfl, g, rfl, e⟩
  | d :: r, h, g, e => by
    obtain ⟨g1, h1, h2⟩ := h d (List.mem_cons_self ..) g e
    rcases h2 with ⟨hp, g2, h2, h3⟩ | ⟨x, g2, hp, h2⟩
    · rcases forGo_find E p r (fun d hd => h d (List.mem_cons_of_mem _ hd)) g2 h3 with ⟨h4, g', h5, h6⟩ | ⟨x, g', h4, h5⟩
      · exact .inl ⟨by simp [List.findSome?_cons, hp, h4], g', by simp [forGo, h1, h2, h5], h6⟩
      · exact .inr ⟨x, g', by simp [List.findSome?_cons, hp, h4], by simp [forGo, h1, h2, h5]⟩
    · exact .inr ⟨x, g2, by simp [List.findSome?_cons, hp], by simp [forGo, h1, h2]⟩
/-- by what is left -/
theorem forGo_rest {t : Fg} {b : Fs} (P : List D → G → Prop) (h : ∀ d r g, P (d :: r) g → ∃ g1 g2, t d g = some g1 ∧ b g1 = some (.nx g2) ∧ P r g2) : ∀ (ds : List D) (g : G), P ds g → ∃ g', forGo t b ds g = some (.nx g') ∧ P [] g'
  | [], g, e => ⟨g, rfl, e⟩
  | d :: r, g, e => by
    obtain ⟨g1, g2, h1, h2, h3⟩ := h d r g e
    obtain ⟨g', h4, h5⟩ := forGo_rest P h r g2 h3
    exact ⟨g', by simp [forGo, h1, h2, h4], h5⟩
/-- a loop that gathers -/
theorem forGo_acc {α β : Type} {t : Fg} {b : Fs} (enc : α → D) (h : α → β) (E : List β → G → Prop) (M : Nat) : ∀ (xs : List α) (acc : List β) (g : G), acc.length + xs.length ≤ M →
    (∀ x ∈ xs, ∀ acc g, acc.length < M → E acc g → ∃ g1 g2, t (enc x) g = some g1 ∧ b g1 = some (.nx g2) ∧ E (acc ++ [h x]) g2) → E acc g → ∃ g', forGo t b (xs.map enc) g = some (.nx g') ∧ E (acc ++ xs.map h) g'
  | [], acc, g, _, _, e => ⟨g, rfl, by simpa using e⟩
  | x :: r, acc, g, hl, H, e => by
    simp only [List.length_cons] at hl
    obtain ⟨g1, g2, h1, h2, h3⟩ := H x (List.mem_cons_self ..) acc g (by omega) e
    obtain ⟨g', h4, h5⟩ := forGo_acc enc h E M r (acc ++ [h x]) g2 (by simp; omega) (fun x hx => H x (List.mem_cons_of_mem _ hx)) h3
    refine ⟨g', by simp [forGo, h1, h2, h4], ?_⟩
    simpa using h5
/-- a loop whose state is told apart from the tag -/
theorem forGo_uni {σ : Type} {tg : Fg} {b : Fs} (enc : Option Addr → σ → G) (I : Nat → σ → Prop) (M : Nat) : ∀ (ds : List D) (m : Nat) (s : σ), m + ds.length ≤ M → I m s →
    (∀ d ∈ ds, ∀ m s, m < M → I m s → ∃ s', I (m + 1) s' ∧ ∀ t, ∃ g1, tg d (enc t s) = some g1 ∧ b g1 = some (.nx (enc t s'))) → ∃ s', I (m + ds.length) s' ∧ ∀ t, forGo tg b ds (enc t s) = some (.nx (enc t s'))
  | [], m, s, _, h, _ => ⟨s, h, fun t => rfl⟩
  | d :: r, m, s, hM, h, H => by
    simp only [List.length_cons] at hM
    obtain ⟨s1, h1, h2⟩ := H d (List.mem_cons_self ..) m s (by omega) h
    obtain ⟨s', h3, h4⟩ := forGo_uni enc I M r (m + 1) s1 (by omega) h1 fun d hd => H d (List.mem_cons_of_mem _ hd)
    refine ⟨s', by rw [List.length_cons, Nat.add_comm r.length, ← Nat.add_assoc]; exact h3, fun t => ?_⟩
    obtain ⟨g1, k1, k2⟩ := h2 t
    simp [forGo, k1, k2, h4 t]
/-! ### step by step -/
theorem fnP_ret {f : Fs} {N : Nat} {ds : List D} {x : Sl} {g' : G} (g0 : G) (hg : ds.map Sl.v ++ List.replicate (N - ds.length) .no = g0) (h : f g0 = some (.ret x g')) : fnP f N ds = some x := by
  unfold fnP runG
  rw [List.length_map, hg, h]
  rfl
theorem fnP_nx {f : Fs} {N : Nat} {ds : List D} {g' : G} (g0 : G) (hg : ds.map Sl.v ++ List.replicate (N - ds.length) .no = g0) (h : f g0 = some (.nx g')) : fnP f N ds = some (.v .none) := by
  unfold fnP runG
  rw [List.length_map, hg, h]
  rfl
theorem seq_nx {f h : Fs} {g g1 : G} {o : Option Out} (e : f g = some (.nx g1)) (e2 : h g1 = o) : sSeq f h g = o := by
  unfold sSeq
  rw [e]
  exact e2
theorem seq_ret {f h : Fs} {g g1 : G} {x : Sl} (e : f g = some (.ret x g1)) : sSeq f h g = some (.ret x g1) := by
  unfold sSeq
  rw [e]
  rfl
theorem if_t {t : Ft} {f h : Fs} {g g1 : G} {o : Option Out} (e : t g = some (true, g1)) (e2 : f g1 = o) : sIf t f h g = o := by
  unfold sIf
  rw [e]
  exact e2
theorem if_f {t : Ft} {f h : Fs} {g g1 : G} {o : Option Out} (e : t g = some (false, g1)) (e2 : h g1 = o) : sIf t f h g = o := by
  unfold sIf
  rw [e]
  exact e2
theorem set_v {i : Nat} {f : Fv} {g g1 : G} {d : D} (e : f g = some (.v d, g1)) : sSet i f g = some (.nx (g1.set i (.v d))) := by
  unfold sSet
  rw [e]
  rfl
theorem set_o {i : Nat} {f : Fv} {g g1 : G} {ds : List D} (e : f g = some (.own none ds, g1)) : sSet i f g = some (.nx (g1.set i (.own none ds))) := by
  unfold sSet
  rw [e]
  rfl
theorem ret_v {f : Fv} {g g1 : G} {d : D} (e : f g = some (.v d, g1)) : sRet f g = some (.ret (.v d) g1) := by
  unfold sRet
  rw [e]
  rfl
theorem ret_o {f : Fv} {g g1 : G} {t : Option Addr} {ds : List D} (e : f g = some (.own t ds, g1)) : sRet f g = some (.ret (.own t ds) g1) := by
  unfold sRet
  rw [e]
  rfl
theorem ex_of {f : Fe} {g g1 : G} {d : D} (e : f g = some (d, g1)) : sEx f g = some (.nx g1) := by
  unfold sEx
  rw [e]
  rfl
theorem for_of {f : Fa} {t : Fg} {b : Fs} {g g1 : G} {ds : List D} {o : Option Out} (e : f g = some (ds, g1)) (e2 : forGo t b ds g1 = o) : sFor f t b g = o := by
  unfold sFor
  rw [e]
  exact e2
theorem vE_of {f : Fe} {g g1 : G} {d : D} (e : f g = some (d, g1)) : vE f g = some (.v d, g1) := by
  unfold vE
  rw [e]
  rfl
theorem eV_v {f : Fv} {g g1 : G} {d : D} (e : f g = some (.v d, g1)) : eV f g = some (d, g1) := by
  unfold eV
  rw [e]
  rfl
theorem eV_o {f : Fv} {g g1 : G} {t : Option Addr} {ds : List D} (e : f g = some (.own t ds, g1)) : eV f g = some (.list ds, g1) := by
  unfold eV
  rw [e]
  rfl
theorem eUn_of {op : D → Option D} {f : Fe} {g g1 : G} {d d2 : D} (e : f g = some (d, g1)) (h : op d = some d2) : eUn op f g = some (d2, g1) := by
  unfold eUn
  rw [e]
  show (op d).map _ = _
  rw [h]
  rfl
theorem eBin_of {op : D → D → Option D} {f h : Fe} {g g1 g2 : G} {d d2 d3 : D} (e : f g = some (d, g1)) (e2 : h g1 = some (d2, g2)) (k : op d d2 = some d3) : eBin op f h g = some (d3, g2) := by
  unfold eBin
  rw [e]
  show (h g1).bind _ = _
  rw [e2]
  show (op d d2).map _ = _
  rw [k]
  rfl
theorem eCall_of {m : List D → Option Sl} {f : Fa} {g g1 : G} {ds : List D} {x : Sl} (e : f g = some (ds, g1)) (h : m ds = some x) : eCall m f g = some (x, g1) := by
  unfold eCall
  rw [e]
  show (m ds).map _ = _
  rw [h]
  rfl
theorem tOf_b {f : Fe} {g g1 : G} {b : Bool} (e : f g = some (.bool b, g1)) : tOf f g = some (b, g1) := by
  unfold tOf
  rw [e]
  rfl
theorem tNot_of {f : Ft} {g g1 : G} {b : Bool} (e : f g = some (b, g1)) : Dl.tNotT f g = some (!b, g1) := by
  unfold Dl.tNotT
  rw [e]
  rfl
theorem tOr_t {f h : Ft} {g g1 : G} (e : f g = some (true, g1)) : Dl.tOrT f h g = some (true, g1) := by
  unfold Dl.tOrT
  rw [e]
  rfl
theorem tOr_f {f h : Ft} {g g1 : G} {o : Option (Bool × G)} (e : f g = some (false, g1)) (e2 : h g1 = o) : Dl.tOrT f h g = o := by
  unfold Dl.tOrT
  rw [e]
  exact e2
theorem tAnd_f {f h : Ft} {g g1 : G} (e : f g = some (false, g1)) : Dl.tAndT f h g = some (false, g1) := by
  unfold Dl.tAndT
  rw [e]
  rfl
theorem tAnd_t {f h : Ft} {g g1 : G} {o : Option (Bool × G)} (e : f g = some (true, g1)) (e2 : h g1 = o) : Dl.tAndT f h g = o := by
  unfold Dl.tAndT
  rw [e]
  exact e2
theorem eAnd_t {f h : Fe} {g g1 : G} {o : Option (D × G)} (e : f g = some (.bool true, g1)) (e2 : h g1 = o) : eAnd f h g = o := by
  unfold eAnd
  rw [e]
  exact e2
theorem eAnd_f {f h : Fe} {g g1 : G} (e : f g = some (.bool false, g1)) : eAnd f h g = some (.bool false, g1) := by
  unfold eAnd
  rw [e]
  rfl
theorem eOr_t {f h : Fe} {g g1 : G} (e : f g = some (.bool true, g1)) : eOr f h g = some (.bool true, g1) := by
  unfold eOr
  rw [e]
  rfl
theorem eOr_f {f h : Fe} {g g1 : G} {o : Option (D × G)} (e : f g = some (.bool false, g1)) (e2 : h g1 = o) : eOr f h g = o := by
  unfold eOr
  rw [e]
  exact e2
theorem ar_nil {g : G} : aNil g = some ([], g) := rfl
theorem ar_cons {f : Fe} {fs : Fa} {g g1 g2 : G} {d : D} {ds : List D} (e : f g = some (d, g1)) (e2 : fs g1 = some (ds, g2)) : aCons f fs g = some (d :: ds, g2) := by
  unfold aCons
  rw [e]
  show (fs g1).map _ = _
  rw [e2]
  rfl
theorem eTup_of {f : Fa} {g g1 : G} {ds : List D} (e : f g = some (ds, g1)) : eTup f g = some (.tuple ds, g1) := by
  unfold eTup
  rw [e]
  rfl
theorem vLst_of {f : Fa} {g g1 : G} {ds : List D} (e : f g = some (ds, g1)) : vLst f g = some (.own none ds, g1) := by
  unfold vLst
  rw [e]
  rfl
theorem ixV_v {i : Nat} {f : Fe} {g g1 : G} {a b d d2 : D} (e0 : slD g[i]? = some a) (e : f g = some (d, g1)) (e1 : slD g1[i]? = some b) (k : atD b d = some d2) : eIxV i f g = some (d2, g1) := by
  unfold eIxV
  rw [e0]
  show (f g).bind _ = _
  rw [e]
  show (slD g1[i]?).bind _ = _
  rw [e1]
  show (atD b d).map _ = _
  rw [k]
  rfl
theorem par_of {i j : Nat} {f h : Fv} {g g1 g2 : G} {x y : D} (e : f g = some (.v x, g1)) (e2 : h g1 = some (.v y, g2)) : sPar i j f h g = some (.nx ((g2.set i (.v x)).set j (.v y))) := by
  unfold sPar
  rw [e]
  show (h g1).bind _ = _
  rw [e2]
  rfl
theorem iSeq_of {f : Fe} {g g1 : G} {d : D} {ds : List D} (e : f g = some (d, g1)) (h : seqD d = some ds) : iSeq f g = some (ds, g1) := by
  unfold iSeq
  rw [e]
  show (seqD d).map _ = _
  rw [h]
  rfl
theorem eIf_t {t : Ft} {f h : Fe} {g g1 : G} {o : Option (D × G)} (e : t g = some (true, g1)) (e2 : f g1 = o) : eIf t f h g = o := by
  unfold eIf
  rw [e]
  exact e2
theorem eIf_f {t : Ft} {f h : Fe} {g g1 : G} {o : Option (D × G)} (e : t g = some (false, g1)) (e2 : h g1 = o) : eIf t f h g = o := by
  unfold eIf
  rw [e]
  exact e2
theorem app_of {i : Nat} {f : Fv} {g g1 : G} {t : Option Addr} {ds ds0 : List D} {d : D} (e0 : ownD g[i]? = some ds0) (e : eV f g = some (d, g1)) (e1 : g1[i]? = some (.own t ds)) (hl : ds.length < 1000000) : eApp i f g = some (.none, g1.set i (.own t (ds ++ [d]))) := by
  unfold eApp
  simp only [e0, e, e1, hl, Option.bind_some, if_true]
theorem callI_of {m : List D → List D → Option (Sl × List D)} {i : Nat} {f : Fa} {g g1 : G} {t : Option Addr} {es0 es es' ds : List D} {x : Sl} (e0 : ownD g[i]? = some es0) (e : f g = some (ds, g1)) (e1 : g1[i]? = some (.own t es)) (k : m es ds = some (x, es')) : eCallI m i f g = some (x, g1.set i (.own t es')) := by
  unfold eCallI
  simp only [e0, e, e1, k, Option.bind_some, Option.map_some]
theorem put_of {i : Nat} {fj : Fe} {f : Fv} {g g1 g2 : G} {t : Option Addr} {ds : List D} {d : D} {k : Int} {j : Nat} (e : eV f g = some (d, g1)) (e0 : g1[i]? = some (.own t ds)) (e1 : fj g1 = some (.int k, g2)) (e2 : g2[i]? = some (.own t ds)) (e3 : L2.ixN ds.length k = some j) : sPut i fj f g = some (.nx (g2.set i (.own t (ds.set j d)))) := by
  unfold sPut
  simp only [e, e0, e1, e2, e3, Option.bind_some, Option.map_some, slD]
theorem retV_v {i : Nat} {g : G} {d : D} (e : g[i]? = some (.v d)) : sRetV i g = some (.ret (.v d) g) := by
  unfold sRetV
  rw [e]
theorem retV_o {i : Nat} {g : G} {ds : List D} (e : g[i]? = some (.own none ds)) : sRetV i g = some (.ret (.own none ds) (g.set i .no)) := by
  unfold sRetV
  rw [e]
theorem ltD_ii (i j : Int) : ltD (.int i) (.int j) = some (.bool (decide (i < j))) := rfl
theorem gtD_ii (i j : Int) : gtD (.int i) (.int j) = some (.bool (decide (j < i))) := rfl
theorem geD_ii (i j : Int) : geD (.int i) (.int j) = some (.bool (decide (j ≤ i))) := rfl
theorem leD_ii (i j : Int) : leD (.int i) (.int j) = some (.bool (decide (i ≤ j))) := rfl
theorem ltD_t {i j : Int} (h : i < j) : ltD (.int i) (.int j) = some (.bool true) := by rw [ltD_ii, decide_eq_true h]
theorem ltD_f {i j : Int} (h : ¬ i < j) : ltD (.int i) (.int j) = some (.bool false) := by rw [ltD_ii, decide_eq_false h]
theorem gtD_t {i j : Int} (h : j < i) : gtD (.int i) (.int j) = some (.bool true) := by rw [gtD_ii, decide_eq_true h]
theorem gtD_f {i j : Int} (h : ¬ j < i) : gtD (.int i) (.int j) = some (.bool false) := by rw [gtD_ii, decide_eq_false h]
theorem geD_t {i j : Int} (h : j ≤ i) : geD (.int i) (.int j) = some (.bool true) := by rw [geD_ii, decide_eq_true h]
theorem geD_f {i j : Int} (h : ¬ j ≤ i) : geD (.int i) (.int j) = some (.bool false) := by rw [geD_ii, decide_eq_false h]
theorem leD_t {i j : Int} (h : i ≤ j) : leD (.int i) (.int j) = some (.bool true) := by rw [leD_ii, decide_eq_true h]
theorem leD_f {i j : Int} (h : ¬ i ≤ j) : leD (.int i) (.int j) = some (.bool false) := by rw [leD_ii, decide_eq_false h]
theorem mulD_of {i j : Int} (h : Dl.MulOk i j = true) : mulD (.int i) (.int j) = some (.int (i * j)) := by
  unfold mulD
  simp only [h, if_true]
theorem mulOk_r {i j : Int} (h : j.natAbs < 2 ^ 64) : Dl.MulOk i j = true := by
  unfold Dl.MulOk
  simp [h]
theorem mulOk_l {i j : Int} (h : i.natAbs < 2 ^ 64) : Dl.MulOk i j = true := by
  unfold Dl.MulOk
  simp [h]
theorem modD_of {i j : Int} (h : j ≠ 0) : modD (.int i) (.int j) = some (.int (i.fmod j)) := by
  unfold modD
  simp only [h, if_false]
theorem fdivD_of {i j : Int} (h : Dl.DivOk j = true) : fdivD (.int i) (.int j) = some (.int (i.fdiv j)) := by
  unfold fdivD
  simp only [h, if_true]
theorem divOk_s {j : Int} (h0 : j ≠ 0) (h : j.natAbs < 2 ^ 64) : Dl.DivOk j = true := by
  have := log_lt (by decide) h
  unfold Dl.DivOk
  simp [h0]
  omega
theorem fnI_ret {f : Fs} {N : Nat} {es ds : List D} {x : Sl} {es' : List D} (h : ∀ a : Addr, ∃ g', f (.own (some a) es :: (ds.map Sl.v ++ List.replicate (N - (ds.length + 1)) .no)) = some (.ret x g') ∧ g'[0]? = some (.own (some a) es')) : fnI f N es ds = some (x, es') := by
  refine fnI_of fun a => ?_
  obtain ⟨g', h1, h2⟩ := h a
  refine ⟨g', ?_, h2⟩
  unfold runG
  have e : (Sl.own (some a) es :: ds.map Sl.v) ++ List.replicate (N - (Sl.own (some a) es :: ds.map Sl.v).length) .no = .own (some a) es :: (ds.map Sl.v ++ List.replicate (N - (ds.length + 1)) .no) := by simp
  rw [e, h1]
theorem cutL_map {α : Type} {f : α → D} {l : List α} {lo hi : Option Int} : cutL (l.map f) lo hi = (cutL l lo hi).map f := by
  unfold cutL
  simp [List.map_take, List.map_drop]
theorem eSlU_of {fa : Fe} {fl fh : Fo} {g g1 g2 g3 : G} {ds : List D} {lo hi : Option Int} (e : fa g = some (.tuple ds, g1)) (e2 : fl g1 = some (lo, g2)) (e3 : fh g2 = some (hi, g3)) : eSlU fa fl fh g = some (.tuple (cutL ds lo hi), g3) := by
  unfold eSlU
  simp only [e, e2, e3, Option.bind_some]
theorem eSlU_ofL {fa : Fe} {fl fh : Fo} {g g1 g2 g3 : G} {ds : List D} {lo hi : Option Int} (e : fa g = some (.list ds, g1)) (e2 : fl g1 = some (lo, g2)) (e3 : fh g2 = some (hi, g3)) : eSlU fa fl fh g = some (.list (cutL ds lo hi), g3) := by
  unfold eSlU
  simp only [e, e2, e3, Option.bind_some]
theorem oSome_of {f : Fe} {g g1 : G} {i : Int} (e : f g = some (.int i, g1)) : oSome f g = some (some i, g1) := by
  unfold oSome
  rw [e]
theorem cut_take {α : Type} {l : List α} {i : Nat} (h : i ≤ l.length) : cutL l none (some (i : Int)) = l.take i := by
  unfold cutL
  rw [HT.sIx_none, HT.sIx_nat, Nat.min_eq_left h]
  simp
theorem cut_drop {α : Type} {l : List α} {i : Nat} (h : i ≤ l.length) : cutL l (some (i : Int)) none = l.drop i := by
  unfold cutL
  rw [HT.sIx_none, HT.sIx_nat, Nat.min_eq_left h]
  exact List.take_of_length_le (by simp)
theorem addA_cat {xs ys : List D} (h : xs.length + ys.length ≤ 1000000) : addA (.tuple xs) (.tuple ys) = some (.tuple (xs ++ ys)) := by
  rw [addA_tup]
  unfold catTD
  simp only [h, if_true]
theorem vLc_of {fi : Fa} {tg : Fg} {c : Ft} {f : Fe} {vs : List Nat} {g g0 g' : G} {ds ds' : List D} (hi : fi g = some (ds, g0)) (ok : okW g0 vs = true) (h : lcGo tg c f vs ds (wipeG g0 vs) = some (ds', g')) (hl : ds'.length ≤ 1000000) : vLc fi tg c f vs g = some (.own none ds', backG g0 g' vs) := by
  unfold vLc
  simp only [hi, Option.bind_some, ok, if_true, h, hl]
theorem asg_of {f : Fe} {tg : Fg} {g g1 g2 : G} {d : D} (e : f g = some (d, g1)) (h : tg d g1 = some g2) : sAsg f tg g = some (.nx g2) := by
  unfold sAsg
  simp only [e, Option.bind_some, h, Option.map_some]
theorem parO_of {i j : Nat} {f h : Fv} {g g1 g2 : G} {x y : List D} (e : f g = some (.own none x, g1)) (e2 : h g1 = some (.own none y, g2)) : sPar i j f h g = some (.nx ((g2.set i (.own none x)).set j (.own none y))) := by
  unfold sPar
  simp only [e, Option.bind_some, e2]
  rfl
theorem atI_last {l : List D} {d : D} : L2.atI (l ++ [d]) (-1) = some d := by
  unfold L2.atI L2.ixN
  have h1 : -(((l ++ [d]).length : Nat) : Int) ≤ -1 := by simp; omega
  rw [if_neg (by decide), if_pos h1]
  have h2 : (-1 + (((l ++ [d]).length : Nat) : Int)).toNat = l.length := by simp; omega
  rw [h2]
  simp
theorem rng_of {f : Fa} {g g1 : G} {n : Nat} (e : f g = some ([.int (n : Int)], g1)) (h : n < 1000000) : iRange1 f g = some ((List.range n).map fun (i : Nat) => .int (i : Int), g1) := by
  have hs : SmI (n : Int) := by unfold SmI; omega
  unfold iRange1
  simp only [e, hs, if_true, Int.toNat_natCast]
  simp [rangeL]
theorem enum_of {f : Fa} {g g1 : G} {d : D} {ds : List D} (e : f g = some ([d], g1)) (h : seqD d = some ds) : iEnum' f g = some (pairL 0 ds, g1) := by
  unfold iEnum'
  simp only [e, h, Option.map_some]
/-! ### comprehensions -/
theorem lcGo_pure {t : Fg} {c : Ft} {f : Fe} {vs : List Nat} {g : G} (h : D → D) : ∀ (ds : List D), (∀ d ∈ ds, ∃ g1 g2, t d g = some g1 ∧ c g1 = some (true, g1) ∧ f g1 = some (h d, g2) ∧ wipeG g2 vs = g) → lcGo t c f vs ds g = some (ds.map h, g)
  | [], _ => rfl
  | d :: r, H => by
    obtain ⟨g1, g2, h1, h2, h3, h4⟩ := H d (List.mem_cons_self ..)
    have ih := lcGo_pure h r fun d hd => H d (List.mem_cons_of_mem _ hd)
    simp [lcGo, h1, h2, h3, h4, ih]
theorem vLc_pure {fi : Fa} {t : Fg} {c : Ft} {f : Fe} {vs : List Nat} {g g0 : G} {ds : List D} (h : D → D) (hi : fi g = some (ds, g0)) (ok : okW g0 vs = true) (hl : ds.length ≤ 1000000)
    (H : ∀ d ∈ ds, ∃ g1 g2, t d (wipeG g0 vs) = some g1 ∧ c g1 = some (true, g1) ∧ f g1 = some (h d, g2) ∧ wipeG g2 vs = wipeG g0 vs) : vLc fi t c f vs g = some (.own none (ds.map h), backG g0 (wipeG g0 vs) vs) := by
  have e := lcGo_pure h ds H
  unfold vLc
  rw [hi]
  show (if okW g0 vs = true then _ else _) = _
  rw [if_pos ok]
  rw [e]
  simp [hl]
theorem lcGo_rel {t : Fg} {f : Fe} {vs : List Nat} (E : G → Prop) (P : D → Prop) : ∀ (ds : List D), (∀ d ∈ ds, ∀ g, E g → ∃ g1 d' g2, t d g = some g1 ∧ f g1 = some (d', g2) ∧ P d' ∧ E (wipeG g2 vs)) → ∀ g, E g → ∃ ds' g', lcGo t cYes f vs ds g = some (ds', g') ∧ ds'.length = ds.length ∧ (∀ d ∈ ds', P d) ∧ E g'
  | [], _, g, e => ⟨[], g, rfl, rfl, by simp, e⟩
  | d :: r, H, g, e => by
    obtain ⟨g1, d', g2, h1, h2, h3, h4⟩ := H d (List.mem_cons_self ..) g e
    obtain ⟨ds', g', h5, h6, h7, h8⟩ := lcGo_rel E P r (fun d hd => H d (List.mem_cons_of_mem _ hd)) _ h4
    refine ⟨d' :: ds', g', by simp [lcGo, h1, cYes, h2, h5], by simp [h6], ?_, h8⟩
    intro z hz
    rcases List.mem_cons.mp hz with rfl | hz
    · exact h3
    · exact h7 z hz
theorem vLc_rel {fi : Fa} {t : Fg} {f : Fe} {vs : List Nat} {g g0 : G} {ds : List D} (E : G → Prop) (P : D → Prop) (hi : fi g = some (ds, g0)) (ok : okW g0 vs = true) (hl : ds.length ≤ 1000000) (hE : E (wipeG g0 vs))
    (H : ∀ d ∈ ds, ∀ g, E g → ∃ g1 d' g2, t d g = some g1 ∧ f g1 = some (d', g2) ∧ P d' ∧ E (wipeG g2 vs)) : ∃ ds' g', vLc fi t cYes f vs g = some (.own none ds', backG g0 g' vs) ∧ ds'.length = ds.length ∧ (∀ d ∈ ds', P d) ∧ E g' := by
  obtain ⟨ds', g', h1, h2, h3, h4⟩ := lcGo_rel E P ds H _ hE
  refine ⟨ds', g', ?_, h2, h3, h4⟩
  unfold vLc
  rw [hi]
  show (if okW g0 vs = true then _ else _) = _
  rw [if_pos ok, h1]
  simp [h2, hl]
/-- a list of data told one by one -/
theorem mapOf {α : Type} {f : α → D} {P : α → Prop} : ∀ {ds : List D}, (∀ d ∈ ds, ∃ a, d = f a ∧ P a) → ∃ l : List α, ds = l.map f ∧ ∀ a ∈ l, P a
  | [], _ => ⟨[], rfl, by simp⟩
  | d :: r, h => by
    obtain ⟨a, e, ha⟩ := h d (List.mem_cons_self ..)
    obtain ⟨l, e2, hl⟩ := mapOf (ds := r) fun d hd => h d (List.mem_cons_of_mem _ hd)
    refine ⟨a :: l, by rw [e, e2]; rfl, ?_⟩
    intro z hz
    rcases List.mem_cons.mp hz with rfl | hz
    · exact ha
    · exact hl z hz

theorem lcGo_map {α : Type} {t : Fg} {c : Ft} {f : Fe} {vs : List Nat} {g : G} (enc : α → D) (h : α → D) : ∀ (xs : List α), (∀ x ∈ xs, ∃ g1 g2, t (enc x) g = some g1 ∧ c g1 = some (true, g1) ∧ f g1 = some (h x, g2) ∧ wipeG g2 vs = g) → lcGo t c f vs (xs.map enc) g = some (xs.map h, g)
  | [], _ => rfl
  | d :: r, H => by
    obtain ⟨g1, g2, h1, h2, h3, h4⟩ := H d (List.mem_cons_self ..)
    have ih := lcGo_map enc h r fun d hd => H d (List.mem_cons_of_mem _ hd)
    simp [lcGo, h1, h2, h3, h4, ih]
theorem vLc_map {α : Type} {fi : Fa} {t : Fg} {c : Ft} {f : Fe} {vs : List Nat} {g g0 : G} {xs : List α} (enc : α → D) (h : α → D) (hi : fi g = some (xs.map enc, g0)) (ok : okW g0 vs = true) (hl : xs.length ≤ 1000000)
    (H : ∀ x ∈ xs, ∃ g1 g2, t (enc x) (wipeG g0 vs) = some g1 ∧ c g1 = some (true, g1) ∧ f g1 = some (h x, g2) ∧ wipeG g2 vs = wipeG g0 vs) : vLc fi t c f vs g = some (.own none (xs.map h), backG g0 (wipeG g0 vs) vs) := by
  have e := lcGo_map enc h xs H
  unfold vLc
  rw [hi]
  show (if okW g0 vs = true then _ else _) = _
  rw [if_pos ok]
  rw [e]
  simp [hl]
theorem forGo_findM {α : Type} {t : Fg} {b : Fs} (E : G → Prop) (enc : α → D) (p : α → Option Sl) : ∀ (xs : List α),
    (∀ x ∈ xs, ∀ g, E g → ∃ g1, t (enc x) g = some g1 ∧ ((p x = none ∧ ∃ g2, b g1 = some (.nx g2) ∧ E g2) ∨ ∃ y g2, p x = some y ∧ b g1 = some (.ret y g2))) →
    ∀ g, E g → (xs.findSome? p = none ∧ ∃ g', forGo t b (xs.map enc) g = some (.nx g') ∧ E g') ∨ ∃ y g', xs.findSome? p = some y ∧ forGo t b (xs.map enc) g = some (.ret y g')
  | [], _, g, e => .inl ⟨rfl, g, rfl, e⟩
  | d :: r, h, g, e => by
    obtain ⟨g1, h1, h2⟩ := h d (List.mem_cons_self ..) g e
    rcases h2 with ⟨hp, g2, h2, h3⟩ | ⟨x, g2, hp, h2⟩
    · rcases forGo_findM E enc p r (fun d hd => h d (List.mem_cons_of_mem _ hd)) g2 h3 with ⟨h4, g', h5, h6⟩ | ⟨x, g', h4, h5⟩
      · exact .inl ⟨by simp [List.findSome?_cons, hp, h4], g', by simp [forGo, h1, h2, h5], h6⟩
      · exact .inr ⟨x, g', by simp [List.findSome?_cons, hp, h4], by simp [forGo, h1, h2, h5]⟩
    · exact .inr ⟨x, g2, by simp [List.findSome?_cons, hp], by simp [forGo, h1, h2]⟩
theorem boolL_map {α : Type} (f : α → Bool) : ∀ xs : List α, boolL (xs.map fun x => .bool (f x)) = some (xs.map f)
  | [] => rfl
  | x :: r => by simp [boolL, boolL_map f r]
theorem allD_map {α : Type} (f : α → Bool) (xs : List α) : allD (.list (xs.map fun x => .bool (f x))) = some (.bool (xs.all f)) := by
  unfold allD
  simp [boolL_map, List.all_map]
theorem atI_map {α : Type} {f : α → D} {l : List α} {i : Nat} {a : α} (h : l[i]? = some a) : L2.atI (l.map f) (i : Int) = some (f a) := by
  have hi := (List.getElem?_eq_some_iff.mp h).1
  unfold L2.atI L2.ixN
  have h1 : ((i : Nat) : Int) < ((l.map f).length : Nat) := by simp; exact hi
  rw [if_pos (by omega), if_pos h1]
  simp [h]
theorem atD_map {α : Type} {f : α → D} {l : List α} {i : Nat} {a : α} (h : l[i]? = some a) : atD (.tuple (l.map f)) (.int (i : Int)) = some (f a) := atI_map h
theorem atD_mapL {α : Type} {f : α → D} {l : List α} {i : Nat} {a : α} (h : l[i]? = some a) : atD (.list (l.map f)) (.int (i : Int)) = some (f a) := atI_map h
theorem zipL_map {α β : Type} {f : α → D} {h : β → D} : ∀ (l : List α) (m : List β), zipL (l.map f) (m.map h) = (l.zip m).map fun p => .tuple [f p.1, h p.2]
  | [], _ => by simp [zipL]
  | _ :: _, [] => by simp [zipL]
  | x :: xs, y :: ys => by simp [zipL, zipL_map xs ys]
theorem pairL_map {α : Type} {f : α → D} : ∀ (l : List α) (i : Nat), pairL i (l.map f) = (l.zipIdx i).map fun p => .tuple [.int (p.2 : Nat), f p.1]
  | [], _ => by simp [pairL]
  | x :: xs, i => by simp [pairL, pairL_map xs (i + 1)]
theorem eqvAll_map {α : Type} [DecidableEq α] {f : α → D} (h : ∀ x y, PyData.eqv (f x) (f y) = decide (x = y)) : ∀ (l m : List α), PyData.eqvAll (l.map f) (m.map f) = decide (l = m)
  | [], [] => by simp [PyData.eqvAll]
  | [], _ :: _ => by simp [PyData.eqvAll]
  | _ :: _, [] => by simp [PyData.eqvAll]
  | x :: xs, y :: ys => by simp [PyData.eqvAll, h, eqvAll_map h xs ys]
theorem eqv_tup {xs ys : List D} : PyData.eqv (.tuple xs) (.tuple ys) = PyData.eqvAll xs ys := rfl
theorem eqv_lst {xs ys : List D} : PyData.eqv (.list xs) (.list ys) = PyData.eqvAll xs ys := rfl
theorem eqv_int {i j : Int} : PyData.eqv (.int i) (.int j) = decide (i = j) := rfl
theorem eqv_str {i j : Str} : PyData.eqv (.str i) (.str j) = decide (i = j) := rfl
theorem shaped_of {d : D} (h : d.canLay0 = true) (h2 : d.depth ≤ 64) : SeqAt.shaped d = true := by
  unfold SeqAt.shaped
  simp [h, h2]

/-! ### isinstance -/
theorem isiD_of {d : D} {n T : String} {b : Bool} (h : tyD d = some n) (k : kitB n T = some b) : isiD T d = some (.bool b) := by
  unfold isiD
  rw [h]
  show (kitB n T).map _ = _
  rw [k]
  rfl
theorem isi_ii {i : Int} : isiD "int" (.int i) = some (.bool true) := isiD_of rfl (by decide +kernel)
theorem isi_ib {i : Int} : isiD "bool" (.int i) = some (.bool false) := isiD_of rfl (by decide +kernel)
theorem isi_is {i : Int} : isiD "str" (.int i) = some (.bool false) := isiD_of rfl (by decide +kernel)
theorem isi_it {i : Int} : isiD "tuple" (.int i) = some (.bool false) := isiD_of rfl (by decide +kernel)
theorem isi_tt {i : List D} : isiD "tuple" (.tuple i) = some (.bool true) := isiD_of rfl (by decide +kernel)
theorem isi_ti {i : List D} : isiD "int" (.tuple i) = some (.bool false) := isiD_of rfl (by decide +kernel)
theorem isi_ts {i : List D} : isiD "str" (.tuple i) = some (.bool false) := isiD_of rfl (by decide +kernel)
theorem isi_ss {i : Str} : isiD "str" (.str i) = some (.bool true) := isiD_of rfl (by decide +kernel)
theorem isi_si {i : Str} : isiD "int" (.str i) = some (.bool false) := isiD_of rfl (by decide +kernel)
theorem isi_st {i : Str} : isiD "tuple" (.str i) = some (.bool false) := isiD_of rfl (by decide +kernel)

/-! ### comparisons of ints, of texts -/
theorem shaped_int (i : Int) : SeqAt.shaped (.int i) = true := by
  unfold SeqAt.shaped
  simp [PyData.canLay0, PyData.depth]
theorem eqD_ii (i j : Int) : eqD (.int i) (.int j) = some (.bool (decide (i = j))) := by
  have e : PyData.eqv (.int i) (.int j) = decide (i = j) := by
    show (i == j) = decide (i = j)
    rfl
  unfold eqD
  simp only [shaped_int, e, and_self, if_true]
theorem neD_ii (i j : Int) : neD (.int i) (.int j) = some (.bool (!decide (i = j))) := by
  have e : PyData.eqv (.int i) (.int j) = decide (i = j) := by
    show (i == j) = decide (i = j)
    rfl
  unfold neD
  simp only [shaped_int, e, and_self, if_true]
theorem eqD_ss (i j : Str) : eqD (.str i) (.str j) = some (.bool (decide (i = j))) := rfl
theorem neD_ss (i j : Str) : neD (.str i) (.str j) = some (.bool (!decide (i = j))) := rfl
theorem eqD_t {i j : Int} (h : i = j) : eqD (.int i) (.int j) = some (.bool true) := by rw [eqD_ii, decide_eq_true h]
theorem eqD_f {i j : Int} (h : ¬ i = j) : eqD (.int i) (.int j) = some (.bool false) := by rw [eqD_ii, decide_eq_false h]
theorem neD_t {i j : Int} (h : ¬ i = j) : neD (.int i) (.int j) = some (.bool true) := by rw [neD_ii, decide_eq_false h]; rfl
theorem neD_f {i j : Int} (h : i = j) : neD (.int i) (.int j) = some (.bool false) := by rw [neD_ii, decide_eq_true h]; rfl
theorem eqD_sh {d e : D} {b : Bool} (h1 : SeqAt.shaped d = true) (h2 : SeqAt.shaped e = true) (hb : PyData.eqv d e = b) (hn : isDisplay d = true) : eqD d e = some (.bool b) := by
  unfold eqD
  cases d <;> first | (cases hn; done) | (simp only [h1, h2, hb, and_self, if_true])
theorem neD_sh {d e : D} {b : Bool} (h1 : SeqAt.shaped d = true) (h2 : SeqAt.shaped e = true) (hb : PyData.eqv d e = b) (hn : isDisplay d = true) : neD d e = some (.bool (!b)) := by
  unfold neD
  cases d <;> first | (cases hn; done) | (simp only [h1, h2, hb, and_self, if_true])

/-! ### repr -/
mutual
/-- no longer than this -/
def lnD : D → Nat
  | .none => 4
  | .bool _ => 5
  | .int _ => 600
  | .str x => 10 * x.length + 2
  | .list xs => lnAll xs + 3
  | .tuple xs => lnAll xs + 3
  | .dict _ => 0
def lnAll : List D → Nat
  | [] => 0
  | x :: xs => lnD x + 2 + lnAll xs
end
mutual
/-- data whose repr is told -/
def rpD : D → Bool
  | .none | .bool _ => true
  | .int i => decide (i.natAbs < 2 ^ 1900)
  | .str x => x.cps.toList.all fun c => decide (c < 16 ^ 8)
  | .list xs => rpAll xs
  | .tuple xs => rpAll xs
  | .dict _ => false
def rpAll : List D → Bool
  | [] => true
  | x :: xs => rpD x && rpAll xs
end
theorem pow_le_600 : (2 : Nat) ^ 1900 ≤ 10 ^ 599 := by decide +kernel
mutual
theorem shown_ln : ∀ d : D, rpD d = true → d.shown.length ≤ lnD d
  | .none, _ => by
    have e : (PyData.shown .none).length = 4 := rfl
    simp only [lnD]; omega
  | .bool b, _ => by
    have e : (PyData.shown (.bool b)).length ≤ 5 := by cases b <;> decide
    simp only [lnD]; omega
  | .int i, h => by
    have hi : i.natAbs < 2 ^ 1900 := by simpa only [rpD, decide_eq_true_eq] using h
    have e := int_text_length_le10 (a := i) (k := 599) (by decide) (Nat.lt_of_lt_of_le hi pow_le_600)
    simp only [lnD]
    show (Str.ofString (toString i)).length ≤ 600
    rw [PySem.ofString_length]; exact e
  | .str x, h => by
    have hx : ∀ c ∈ x.cps.toList, c < 16 ^ 8 := by simpa only [rpD, List.all_eq_true, decide_eq_true_eq] using h
    have e := StrLaws.reprText_len x hx
    simp only [lnD, PyData.shown]; exact e
  | .list xs, h => by
    have h1 := shown_lnAll xs (by simpa only [rpD] using h)
    have h2 := listText_len_le (PyData.shownAll xs)
    have h3 := PyData.shownAll_length xs
    simp only [PyData.shown, lnD]
    omega
  | .tuple xs, h => by
    have h1 := shown_lnAll xs (by simpa only [rpD] using h)
    have h2 := tupleText_len_le (PyData.shownAll xs)
    have h3 := PyData.shownAll_length xs
    simp only [PyData.shown, lnD]
    omega
  | .dict _, h => by simp [rpD] at h
theorem shown_lnAll : ∀ xs : List D, rpAll xs = true → ((PyData.shownAll xs).map (·.length)).sum + 2 * xs.length ≤ lnAll xs
  | [], _ => by simp [PyData.shownAll, lnAll]
  | x :: xs, h => by
    have h' : rpD x = true ∧ rpAll xs = true := by simpa only [rpAll, Bool.and_eq_true] using h
    have h1 := shown_ln x h'.1
    have h2 := shown_lnAll xs h'.2
    simp only [PyData.shownAll, lnAll, List.map_cons, List.sum_cons, List.length_cons]
    omega
end
mutual
theorem show_rp : ∀ d : D, rpD d = true → d.showable = true ∧ d.hasDict = false
  | .none, _ => ⟨rfl, rfl⟩
  | .bool _, _ => ⟨rfl, rfl⟩
  | .int i, h => by
    have hi : i.natAbs < 2 ^ 1900 := by simpa only [rpD, decide_eq_true_eq] using h
    refine ⟨?_, rfl⟩
    have := log_lt (by decide) hi
    simp only [PyData.showable, decide_eq_true_eq]
    omega
  | .str x, _ => ⟨rfl, rfl⟩
  | .list xs, h => by
    have := show_rpAll xs (by simpa only [rpD] using h)
    simpa only [PyData.showable, PyData.hasDict] using this
  | .tuple xs, h => by
    have := show_rpAll xs (by simpa only [rpD] using h)
    simpa only [PyData.showable, PyData.hasDict] using this
  | .dict _, h => by simp [rpD] at h
theorem show_rpAll : ∀ xs : List D, rpAll xs = true → PyData.showableAll xs = true ∧ PyData.hasDictAll xs = false
  | [], _ => ⟨rfl, rfl⟩
  | x :: xs, h => by
    have h' : rpD x = true ∧ rpAll xs = true := by simpa only [rpAll, Bool.and_eq_true] using h
    have h1 := show_rp x h'.1
    have h2 := show_rpAll xs h'.2
    simp [PyData.showableAll, PyData.hasDictAll, h1, h2]
end
theorem reprD_of {d : D} (h : rpD d = true) (hd : d.depth ≤ 60) (hi : isDisplay d = true) (hl : lnD d ≤ 16000000) : reprD d = some (.str d.shown) := by
  obtain ⟨h1, h2⟩ := show_rp d h
  have h3 := shown_ln d h
  unfold reprD
  rw [if_pos ⟨h1, h2, hd, hi, by rw [sizeLine_eq]; omega⟩]
theorem rpAll_of {xs : List D} (h : ∀ d ∈ xs, rpD d = true) : rpAll xs = true := by
  induction xs with
  | nil => rfl
  | cons x r ih =>
    simp only [rpAll, Bool.and_eq_true]
    exact ⟨h x (List.mem_cons_self ..), ih fun d hd => h d (List.mem_cons_of_mem _ hd)⟩
theorem lnAll_of {xs : List D} {n : Nat} (h : ∀ d ∈ xs, lnD d ≤ n) : lnAll xs ≤ (n + 2) * xs.length := by
  induction xs with
  | nil => simp [lnAll]
  | cons x r ih =>
    have := ih fun d hd => h d (List.mem_cons_of_mem _ hd)
    have := h x (List.mem_cons_self ..)
    simp only [lnAll, List.length_cons, Nat.mul_add]
    omega
theorem depthAll_of {xs : List D} {n : Nat} (h : ∀ d ∈ xs, d.depth ≤ n) : PyData.depthAll xs ≤ n := by
  induction xs with
  | nil => simp [PyData.depthAll]
  | cons x r ih =>
    have := ih fun d hd => h d (List.mem_cons_of_mem _ hd)
    have := h x (List.mem_cons_self ..)
    simp only [PyData.depthAll]
    omega
theorem canLayAll_of {xs : List D} (h : ∀ d ∈ xs, d.canLay0 = true) : PyData.canLayAll0 xs = true := by
  induction xs with
  | nil => rfl
  | cons x r ih =>
    simp only [PyData.canLayAll0, Bool.and_eq_true]
    exact ⟨h x (List.mem_cons_self ..), ih fun d hd => h d (List.mem_cons_of_mem _ hd)⟩
end Dl
set_option Elab.async false
set_option linter.all false
set_option maxRecDepth 100000
namespace K03
open PySem PySem.Spec PyProof.Rows L2 Dl
def topS (i : Nat) : Stmt := PySem.Challenge.pw_makeprice_k03_whole_made_used_and_left.main.body.getD i (.Pass ⟨0, 0, 0, 0⟩)
abbrev s_is_integer : Stmt := topS 9
theorem sc_is_integer : FnScope ["thing"] ["thing"] (defScope s_is_integer) := ⟨rfl, rfl, rfl, by decide +kernel, rfl, by decide +kernel, by decide +kernel⟩
abbrev s_is_sized : Stmt := topS 11
theorem sc_is_sized : FnScope ["thing", "low", "high"] ["thing", "low", "high"] (defScope s_is_sized) := ⟨rfl, rfl, rfl, by decide +kernel, rfl, by decide +kernel, by decide +kernel⟩
abbrev s_common : Stmt := topS 12
theorem sc_common : FnScope ["one", "other"] ["one", "other"] (defScope s_common) := ⟨rfl, rfl, rfl, by decide +kernel, rfl, by decide +kernel, by decide +kernel⟩
abbrev s__law_hand : Stmt := topS 45
theorem sc__law_hand : FnScope ["script", "cells", "cell"] ["script"] (defScope s__law_hand) := ⟨rfl, rfl, rfl, by decide +kernel, rfl, by decide +kernel, by decide +kernel⟩
abbrev s__law_draw : Stmt := topS 46
theorem sc__law_draw : FnScope ["hand", "many", "cell", "digit", "number"] ["hand", "many"] (defScope s__law_draw) := ⟨rfl, rfl, rfl, by decide +kernel, rfl, by decide +kernel, by decide +kernel⟩
abbrev s__law_gcd : Stmt := topS 48
theorem sc__law_gcd : FnScope ["one", "other"] ["one", "other"] (defScope s__law_gcd) := ⟨rfl, rfl, rfl, by decide +kernel, rfl, by decide +kernel, by decide +kernel⟩
abbrev s_is_within : Stmt := topS 10
theorem sc_is_within : FnScope ["thing", "low", "high"] ["thing", "low", "high"] (defScope s_is_within) := ⟨rfl, rfl, rfl, by decide +kernel, rfl, by decide +kernel, by decide +kernel⟩
abbrev s_share : Stmt := topS 13
theorem sc_share : FnScope ["top", "bottom", "part"] ["top", "bottom"] (defScope s_share) := ⟨rfl, rfl, rfl, by decide +kernel, rfl, by decide +kernel, by decide +kernel⟩
abbrev s_is_share : Stmt := topS 14
theorem sc_is_share : FnScope ["thing"] ["thing"] (defScope s_is_share) := ⟨rfl, rfl, rfl, by decide +kernel, rfl, by decide +kernel, by decide +kernel⟩
abbrev s__law_any : Stmt := topS 47
theorem sc__law_any : FnScope ["hand", "some"] ["hand", "some"] (defScope s__law_any) := ⟨rfl, rfl, rfl, by decide +kernel, rfl, by decide +kernel, by decide +kernel⟩
abbrev s__law_frac : Stmt := topS 49
theorem sc__law_frac : FnScope ["top", "bottom", "by"] ["top", "bottom"] (defScope s__law_frac) := ⟨rfl, rfl, rfl, by decide +kernel, rfl, by decide +kernel, by decide +kernel⟩
abbrev s_plus : Stmt := topS 15
theorem sc_plus : FnScope ["one", "other"] ["one", "other"] (defScope s_plus) := ⟨rfl, rfl, rfl, by decide +kernel, rfl, by decide +kernel, by decide +kernel⟩
abbrev s_times : Stmt := topS 17
theorem sc_times : FnScope ["one", "other"] ["one", "other"] (defScope s_times) := ⟨rfl, rfl, rfl, by decide +kernel, rfl, by decide +kernel, by decide +kernel⟩
abbrev s_is_amount : Stmt := topS 22
theorem sc_is_amount : FnScope ["thing"] ["thing"] (defScope s_is_amount) := ⟨rfl, rfl, rfl, by decide +kernel, rfl, by decide +kernel, by decide +kernel⟩
abbrev s_is_method_number : Stmt := topS 42
theorem sc_is_method_number : FnScope ["book", "thing"] ["book", "thing"] (defScope s_is_method_number) := ⟨rfl, rfl, rfl, by decide +kernel, rfl, by decide +kernel, by decide +kernel⟩
abbrev s__law_plus : Stmt := topS 50
theorem sc__law_plus : FnScope ["one", "other"] ["one", "other"] (defScope s__law_plus) := ⟨rfl, rfl, rfl, by decide +kernel, rfl, by decide +kernel, by decide +kernel⟩
abbrev s__law_minus : Stmt := topS 51
theorem sc__law_minus : FnScope ["one", "other"] ["one", "other"] (defScope s__law_minus) := ⟨rfl, rfl, rfl, by decide +kernel, rfl, by decide +kernel, by decide +kernel⟩
abbrev s__law_times : Stmt := topS 52
theorem sc__law_times : FnScope ["one", "other"] ["one", "other"] (defScope s__law_times) := ⟨rfl, rfl, rfl, by decide +kernel, rfl, by decide +kernel, by decide +kernel⟩
abbrev s__law_amount : Stmt := topS 55
theorem sc__law_amount : FnScope ["hand", "kind"] ["hand"] (defScope s__law_amount) := ⟨rfl, rfl, rfl, by decide +kernel, rfl, by decide +kernel, by decide +kernel⟩
abbrev s_minus : Stmt := topS 16
theorem sc_minus : FnScope ["one", "other"] ["one", "other"] (defScope s_minus) := ⟨rfl, rfl, rfl, by decide +kernel, rfl, by decide +kernel, by decide +kernel⟩
abbrev s_summed : Stmt := topS 18
theorem sc_summed : FnScope ["many", "found", "one"] ["many"] (defScope s_summed) := ⟨rfl, rfl, rfl, by decide +kernel, rfl, by decide +kernel, by decide +kernel⟩
abbrev s_are_amounts : Stmt := topS 23
theorem sc_are_amounts : FnScope ["thing", "many", "part"] ["thing", "many"] (defScope s_are_amounts) := ⟨rfl, rfl, rfl, by decide +kernel, rfl, by decide +kernel, by decide +kernel⟩
abbrev s_check_factor : Stmt := topS 30
theorem sc_check_factor : FnScope ["thing"] ["thing"] (defScope s_check_factor) := ⟨rfl, rfl, rfl, by decide +kernel, rfl, by decide +kernel, by decide +kernel⟩
abbrev s_made_by : Stmt := topS 32
theorem sc_made_by : FnScope ["book", "plan", "found", "good", "uses", "work", "amount"] ["book", "plan"] (defScope s_made_by) := ⟨rfl, rfl, rfl, by decide +kernel, rfl, by decide +kernel, by decide +kernel⟩
abbrev s_used_by : Stmt := topS 33
theorem sc_used_by : FnScope ["book", "plan", "found", "good", "uses", "work", "amount", "part", "use"] ["book", "plan"] (defScope s_used_by) := ⟨rfl, rfl, rfl, by decide +kernel, rfl, by decide +kernel, by decide +kernel⟩
abbrev s__law_total : Stmt := topS 53
theorem sc__law_total : FnScope ["some", "found", "one"] ["some"] (defScope s__law_total) := ⟨rfl, rfl, rfl, by decide +kernel, rfl, by decide +kernel, by decide +kernel⟩
abbrev s__law_share : Stmt := topS 56
theorem sc__law_share : FnScope ["hand", "goods", "kind"] ["hand", "goods"] (defScope s__law_share) := ⟨rfl, rfl, rfl, by decide +kernel, rfl, by decide +kernel, by decide +kernel⟩
abbrev s__law_factor : Stmt := topS 59
theorem sc__law_factor : FnScope ["hand"] ["hand"] (defScope s__law_factor) := ⟨rfl, rfl, rfl, by decide +kernel, rfl, by decide +kernel, by decide +kernel⟩
abbrev s__law_row : Stmt := topS 60
theorem sc__law_row : FnScope ["hand", "many", "turn"] ["hand", "many"] (defScope s__law_row) := ⟨rfl, rfl, rfl, by decide +kernel, rfl, by decide +kernel, by decide +kernel⟩
abbrev s_is_method : Stmt := topS 24
theorem sc_is_method : FnScope ["goods", "thing"] ["goods", "thing"] (defScope s_is_method) := ⟨rfl, rfl, rfl, by decide +kernel, rfl, by decide +kernel, by decide +kernel⟩
abbrev s_is_plan_of : Stmt := topS 27
theorem sc_is_plan_of : FnScope ["book", "thing"] ["book", "thing"] (defScope s_is_plan_of) := ⟨rfl, rfl, rfl, by decide +kernel, rfl, by decide +kernel, by decide +kernel⟩
abbrev s_check_prices : Stmt := topS 31
theorem sc_check_prices : FnScope ["book", "thing"] ["book", "thing"] (defScope s_check_prices) := ⟨rfl, rfl, rfl, by decide +kernel, rfl, by decide +kernel, by decide +kernel⟩
abbrev s_net_of : Stmt := topS 36
theorem sc_net_of : FnScope ["book", "plan", "factor", "pairs", "more", "less"] ["book", "plan", "factor"] (defScope s_net_of) := ⟨rfl, rfl, rfl, by decide +kernel, rfl, by decide +kernel, by decide +kernel⟩
abbrev s_work_in : Stmt := topS 38
theorem sc_work_in : FnScope ["book", "plan", "method", "amount"] ["book", "plan"] (defScope s_work_in) := ⟨rfl, rfl, rfl, by decide +kernel, rfl, by decide +kernel, by decide +kernel⟩
abbrev s_worth : Stmt := topS 40
theorem sc_worth : FnScope ["amounts", "prices", "amount", "price"] ["amounts", "prices"] (defScope s_worth) := ⟨rfl, rfl, rfl, by decide +kernel, rfl, by decide +kernel, by decide +kernel⟩
abbrev s__law_method : Stmt := topS 57
theorem sc__law_method : FnScope ["hand", "goods", "good", "uses", "turn"] ["hand", "goods", "good"] (defScope s__law_method) := ⟨rfl, rfl, rfl, by decide +kernel, rfl, by decide +kernel, by decide +kernel⟩
abbrev s__law_made : Stmt := topS 61
theorem sc__law_made : FnScope ["book", "plan", "found", "good", "amount", "method"] ["book", "plan"] (defScope s__law_made) := ⟨rfl, rfl, rfl, by decide +kernel, rfl, by decide +kernel, by decide +kernel⟩
abbrev s__law_used : Stmt := topS 62
theorem sc__law_used : FnScope ["book", "plan", "found", "good", "amount", "method"] ["book", "plan"] (defScope s__law_used) := ⟨rfl, rfl, rfl, by decide +kernel, rfl, by decide +kernel, by decide +kernel⟩
abbrev s__law_work : Stmt := topS 64
theorem sc__law_work : FnScope ["book", "plan", "amount", "method"] ["book", "plan"] (defScope s__law_work) := ⟨rfl, rfl, rfl, by decide +kernel, rfl, by decide +kernel, by decide +kernel⟩
abbrev s_is_book : Stmt := topS 25
theorem sc_is_book : FnScope ["thing", "method"] ["thing"] (defScope s_is_book) := ⟨rfl, rfl, rfl, by decide +kernel, rfl, by decide +kernel, by decide +kernel⟩
abbrev s_cost_of : Stmt := topS 41
theorem sc_cost_of : FnScope ["method", "prices", "factor"] ["method", "prices", "factor"] (defScope s_cost_of) := ⟨rfl, rfl, rfl, by decide +kernel, rfl, by decide +kernel, by decide +kernel⟩
abbrev s__law_book : Stmt := topS 58
theorem sc__law_book : FnScope ["hand", "goods", "most", "many", "methods", "good"] ["hand", "goods", "most"] (defScope s__law_book) := ⟨rfl, rfl, rfl, by decide +kernel, rfl, by decide +kernel, by decide +kernel⟩
abbrev s__law_net : Stmt := topS 63
theorem sc__law_net : FnScope ["book", "plan", "factor", "pairs", "one", "other"] ["book", "plan", "factor"] (defScope s__law_net) := ⟨rfl, rfl, rfl, by decide +kernel, rfl, by decide +kernel, by decide +kernel⟩
abbrev s_check_book : Stmt := topS 26
theorem sc_check_book : FnScope ["thing"] ["thing"] (defScope s_check_book) := ⟨rfl, rfl, rfl, by decide +kernel, rfl, by decide +kernel, by decide +kernel⟩
abbrev s_is_plan : Stmt := topS 28
theorem sc_is_plan : FnScope ["book", "thing"] ["book", "thing"] (defScope s_is_plan) := ⟨rfl, rfl, rfl, by decide +kernel, rfl, by decide +kernel, by decide +kernel⟩
abbrev s_check_plan : Stmt := topS 29
theorem sc_check_plan : FnScope ["book", "plan"] ["book", "plan"] (defScope s_check_plan) := ⟨rfl, rfl, rfl, by decide +kernel, rfl, by decide +kernel, by decide +kernel⟩
abbrev s_cost : Stmt := topS 43
theorem sc_cost : FnScope ["book", "method", "prices", "factor"] ["book", "method", "prices", "factor"] (defScope s_cost) := ⟨rfl, rfl, rfl, by decide +kernel, rfl, by decide +kernel, by decide +kernel⟩
abbrev s__law_is : Stmt := topS 54
theorem sc__law_is : FnScope ["told", "due", "one", "two"] ["told", "due"] (defScope s__law_is) := ⟨rfl, rfl, rfl, by decide +kernel, rfl, by decide +kernel, by decide +kernel⟩
abbrev s_made : Stmt := topS 34
theorem sc_made : FnScope ["book", "plan"] ["book", "plan"] (defScope s_made) := ⟨rfl, rfl, rfl, by decide +kernel, rfl, by decide +kernel, by decide +kernel⟩
abbrev s_used : Stmt := topS 35
theorem sc_used : FnScope ["book", "plan"] ["book", "plan"] (defScope s_used) := ⟨rfl, rfl, rfl, by decide +kernel, rfl, by decide +kernel, by decide +kernel⟩
abbrev s_net : Stmt := topS 37
theorem sc_net : FnScope ["book", "plan", "factor"] ["book", "plan", "factor"] (defScope s_net) := ⟨rfl, rfl, rfl, by decide +kernel, rfl, by decide +kernel, by decide +kernel⟩
abbrev s_work_of : Stmt := topS 39
theorem sc_work_of : FnScope ["book", "plan"] ["book", "plan"] (defScope s_work_of) := ⟨rfl, rfl, rfl, by decide +kernel, rfl, by decide +kernel, by decide +kernel⟩
abbrev s__law_right : Stmt := topS 65
theorem sc__law_right : FnScope ["book", "plan", "factor", "told", "due"] ["book", "plan", "factor"] (defScope s__law_right) := ⟨rfl, rfl, rfl, by decide +kernel, rfl, by decide +kernel, by decide +kernel⟩
abbrev s__law_together_right : Stmt := topS 66
theorem sc__law_together_right : FnScope ["book", "one", "other", "factor", "times_v", "both", "more", "first", "second", "left", "a", "b"] ["book", "one", "other", "factor", "times_v"] (defScope s__law_together_right) := ⟨rfl, rfl, rfl, by decide +kernel, rfl, by decide +kernel, by decide +kernel⟩
abbrev s__law_worth_right : Stmt := topS 67
theorem sc__law_worth_right : FnScope ["book", "plan", "prices", "factor", "worth_v", "earned", "number", "method", "gain", "price", "amount"] ["book", "plan", "prices", "factor"] (defScope s__law_worth_right) := ⟨rfl, rfl, rfl, by decide +kernel, rfl, by decide +kernel, by decide +kernel⟩
abbrev s_law : Stmt := topS 68
theorem sc_law : FnScope ["script", "hand", "turn", "goods", "book", "plans", "factor", "prices", "more", "again", "plan"] ["script"] (defScope s_law) := ⟨rfl, rfl, rfl, by decide +kernel, rfl, by decide +kernel, by decide +kernel⟩
def k_MOST_GOODS : D := .int 6
def k_MOST_METHODS : D := .int 20
def k_ZERO : D := .tuple [.int 0, .int 1]
/-- what the top has left -/
structure Txt (K : PySem.W.Frag) (mg : Str → Option Value) : Type where
  f_is_integer : Dk K mg "is_integer" "is_integer" s_is_integer ["thing"]
  f_is_sized : Dk K mg "is_sized" "is_sized" s_is_sized ["thing", "low", "high"]
  f_common : Dk K mg "common" "common" s_common ["one", "other"]
  f__law_hand : Dk K mg "_law_hand" "_law_hand" s__law_hand ["script"]
  f__law_draw : Dk K mg "_law_draw" "_law_draw" s__law_draw ["hand", "many"]
  f__law_gcd : Dk K mg "_law_gcd" "_law_gcd" s__law_gcd ["one", "other"]
  f_is_within : Dk K mg "is_within" "is_within" s_is_within ["thing", "low", "high"]
  f_share : Dk K mg "share" "share" s_share ["top", "bottom"]
  f_is_share : Dk K mg "is_share" "is_share" s_is_share ["thing"]
  f__law_any : Dk K mg "_law_any" "_law_any" s__law_any ["hand", "some"]
  f__law_frac : Dk K mg "_law_frac" "_law_frac" s__law_frac ["top", "bottom"]
  f_plus : Dk K mg "plus" "plus" s_plus ["one", "other"]
  f_times : Dk K mg "times" "times" s_times ["one", "other"]
  f_is_amount : Dk K mg "is_amount" "is_amount" s_is_amount ["thing"]
  f_is_method_number : Dk K mg "is_method_number" "is_method_number" s_is_method_number ["book", "thing"]
  f__law_plus : Dk K mg "_law_plus" "_law_plus" s__law_plus ["one", "other"]
  f__law_minus : Dk K mg "_law_minus" "_law_minus" s__law_minus ["one", "other"]
  f__law_times : Dk K mg "_law_times" "_law_times" s__law_times ["one", "other"]
  f__law_amount : Dk K mg "_law_amount" "_law_amount" s__law_amount ["hand"]
  f_minus : Dk K mg "minus" "minus" s_minus ["one", "other"]
  f_summed : Dk K mg "summed" "summed" s_summed ["many"]
  f_are_amounts : Dk K mg "are_amounts" "are_amounts" s_are_amounts ["thing", "many"]
  f_check_factor : Dk K mg "check_factor" "check_factor" s_check_factor ["thing"]
  f_made_by : Dk K mg "made_by" "made_by" s_made_by ["book", "plan"]
  f_used_by : Dk K mg "used_by" "used_by" s_used_by ["book", "plan"]
  f__law_total : Dk K mg "_law_total" "_law_total" s__law_total ["some"]
  f__law_share : Dk K mg "_law_share" "_law_share" s__law_share ["hand", "goods"]
  f__law_factor : Dk K mg "_law_factor" "_law_factor" s__law_factor ["hand"]
  f__law_row : Dk K mg "_law_row" "_law_row" s__law_row ["hand", "many"]
  f_is_method : Dk K mg "is_method" "is_method" s_is_method ["goods", "thing"]
  f_is_plan_of : Dk K mg "is_plan_of" "is_plan_of" s_is_plan_of ["book", "thing"]
  f_check_prices : Dk K mg "check_prices" "check_prices" s_check_prices ["book", "thing"]
  f_net_of : Dk K mg "net_of" "net_of" s_net_of ["book", "plan", "factor"]
  f_work_in : Dk K mg "work_in" "work_in" s_work_in ["book", "plan"]
  f_worth : Dk K mg "worth" "worth" s_worth ["amounts", "prices"]
  f__law_method : Dk K mg "_law_method" "_law_method" s__law_method ["hand", "goods", "good"]
  f__law_made : Dk K mg "_law_made" "_law_made" s__law_made ["book", "plan"]
  f__law_used : Dk K mg "_law_used" "_law_used" s__law_used ["book", "plan"]
  f__law_work : Dk K mg "_law_work" "_law_work" s__law_work ["book", "plan"]
  f_is_book : Dk K mg "is_book" "is_book" s_is_book ["thing"]
  f_cost_of : Dk K mg "cost_of" "cost_of" s_cost_of ["method", "prices", "factor"]
  f__law_book : Dk K mg "_law_book" "_law_book" s__law_book ["hand", "goods", "most"]
  f__law_net : Dk K mg "_law_net" "_law_net" s__law_net ["book", "plan", "factor"]
  f_check_book : Dk K mg "check_book" "check_book" s_check_book ["thing"]
  f_is_plan : Dk K mg "is_plan" "is_plan" s_is_plan ["book", "thing"]
  f_check_plan : Dk K mg "check_plan" "check_plan" s_check_plan ["book", "plan"]
  f_cost : Dk K mg "cost" "cost" s_cost ["book", "method", "prices", "factor"]
  f__law_is : Dk K mg "_law_is" "_law_is" s__law_is ["told", "due"]
  f_made : Dk K mg "made" "made" s_made ["book", "plan"]
  f_used : Dk K mg "used" "used" s_used ["book", "plan"]
  f_net : Dk K mg "net" "net" s_net ["book", "plan", "factor"]
  f_work_of : Dk K mg "work_of" "work_of" s_work_of ["book", "plan"]
  f__law_right : Dk K mg "_law_right" "_law_right" s__law_right ["book", "plan", "factor"]
  f__law_together_right : Dk K mg "_law_together_right" "_law_together_right" s__law_together_right ["book", "one", "other", "factor", "times_v"]
  f__law_worth_right : Dk K mg "_law_worth_right" "_law_worth_right" s__law_worth_right ["book", "plan", "prices", "factor"]
  f_law : Dk K mg "law" "law" s_law ["script"]
  n_abs : mg "abs" = none
  n_all : mg "all" = none
  n_bool : mg "bool" = none
  n_enumerate : mg "enumerate" = none
  n_int : mg "int" = none
  n_isinstance : mg "isinstance" = none
  n_len : mg "len" = none
  n_list : mg "list" = none
  n_min : mg "min" = none
  n_range : mg "range" = none
  n_tuple : mg "tuple" = none
  n_zip : mg "zip" = none
  u_MOST_GOODS : Value
  v_MOST_GOODS : V
  c_MOST_GOODS : mg "MOST_GOODS" = some u_MOST_GOODS ∧ RelV v_MOST_GOODS u_MOST_GOODS ∧ ∀ F, Dp K F v_MOST_GOODS k_MOST_GOODS
  u_MOST_METHODS : Value
  v_MOST_METHODS : V
  c_MOST_METHODS : mg "MOST_METHODS" = some u_MOST_METHODS ∧ RelV v_MOST_METHODS u_MOST_METHODS ∧ ∀ F, Dp K F v_MOST_METHODS k_MOST_METHODS
  u_ZERO : Value
  v_ZERO : V
  c_ZERO : mg "ZERO" = some u_ZERO ∧ RelV v_ZERO u_ZERO ∧ ∀ F, Dp K F v_ZERO k_ZERO
end K03
set_option Elab.async false
set_option linter.all false
set_option maxRecDepth 100000
namespace K03
open PySem PySem.Spec PyProof.Rows L2 Dl
noncomputable def b_is_integer : Fs := (sRet (vE (eAnd (eUn (isiD "int") (eVar 0)) (eUn notD (eUn (isiD "bool") (eVar 0))))))
noncomputable def m_is_integer : List D → Option Sl := fnP b_is_integer 1
noncomputable def b_is_sized : Fs := (sRet (vE (eAnd (eUn (isiD "tuple") (eVar 0)) (eChain leD leD (eVar 1) (eUn lenD (bVar 0)) (eVar 2)))))
noncomputable def m_is_sized : List D → Option Sl := fnP b_is_sized 3
noncomputable def b_common : Fs := (sSeq (sWhile (tOf (eBin neD (eVar 1) (eC (.int 0)))) (sPar 0 1 (vE (eVar 1)) (vE (eBin modD (eVar 0) (eVar 1)))))
    (sRet (vE (eUn absD (bVar 0)))))
noncomputable def m_common : List D → Option Sl := fnP b_common 2
noncomputable def b__law_hand : Fs := (sSeq (sSet 1 (vLc (iSeq (eSlU (eVar 0) oNone (oSome (eC (.int 63))))) (gVar 2) cYes (eUn absD (eUn intD (bVar 2))) [2]))
    (sRet (vLst (aCons (eVar 1) (aCons (eC (.int 0)) (aCons (eC (.int 0)) (aCons (eBin addA (eC (.int 61)) (eBin mulD (eC (.int 7)) (eUn lenD (bVar 1)))) (aCons (eC (.int 0)) aNil))))))))
noncomputable def m__law_hand : List D → Option Sl := fnP b__law_hand 3
noncomputable def b__law_draw : Fs := (sSeq (sIf (tAndT (tOf (eBin eqD (eIxV 0 (eC (.int 2))) (eC (.int 0)))) (tOf (eBin ltD (eIxV 0 (eC (.int 1))) (eUn lenD (eIxV 0 (eC (.int 0))))))) (sSeq (sSet 2 (vE (eBin atD (eIxV 0 (eC (.int 0))) (eIxV 0 (eC (.int 1))))))
    (sSeq (sPut 0 (eC (.int 1)) (vE (eBin addA (eIxV 0 (eC (.int 1))) (eC (.int 1)))))
    (sSeq (sPut 0 (eC (.int 3)) (vE (eBin modD (eUn intD (eBin addA (eBin addA (eBin mulD (eIxV 0 (eC (.int 3))) (eC (.int 69621))) (eBin mulD (eVar 2) (eC (.int 40692)))) (eC (.int 31)))) (eC (.int 2147483629)))))
    (sIf (tOf (eBin geD (eVar 2) (eBin powD (eC (.int 10)) (eC (.int 18))))) (sPut 0 (eC (.int 2)) (vE (eVar 2))) sNil)))) sNil)
    (sSeq (sIf (tOf (eBin gtD (eIxV 0 (eC (.int 2))) (eC (.int 0)))) (sSeq (sSet 3 (vE (eBin modD (eUn intD (eIxV 0 (eC (.int 2)))) (eVar 1))))
    (sSeq (sPut 0 (eC (.int 2)) (vE (eBin fdivD (eIxV 0 (eC (.int 2))) (eVar 1))))
    (sRetV 3))) sNil)
    (sSeq (sPut 0 (eC (.int 4)) (vE (eBin addA (eIxV 0 (eC (.int 4))) (eC (.int 1)))))
    (sSeq (sSet 4 (vE (eBin modD (eUn intD (eBin mulD (eUn intD (eBin addA (eIxV 0 (eC (.int 3))) (eBin mulD (eC (.int 7919)) (eIxV 0 (eC (.int 4)))))) (eC (.int 48271)))) (eC (.int 2147483647)))))
    (sSeq (sSet 4 (vE (eBin modD (eUn intD (eBin mulD (eVar 4) (eBin addA (eBin fdivD (eVar 4) (eC (.int 1009))) (eC (.int 69621))))) (eC (.int 2147483647)))))
    (sSeq (sSet 4 (vE (eBin modD (eUn intD (eBin mulD (eVar 4) (eBin addA (eBin fdivD (eVar 4) (eC (.int 2003))) (eC (.int 40014))))) (eC (.int 2147483563)))))
    (sRet (vE (eBin modD (eUn intD (eBin fdivD (eVar 4) (eC (.int 16)))) (eVar 1))))))))))
noncomputable def m__law_draw : List D → List D → Option (Sl × List D) := fnI b__law_draw 5
noncomputable def b__law_gcd : Fs := (sSeq (sWhile (tOf (eBin neD (eVar 1) (eC (.int 0)))) (sPar 0 1 (vE (eVar 1)) (vE (eBin modD (eUn intD (bVar 0)) (eVar 1)))))
    (sRet (vE (eUn absD (bVar 0)))))
noncomputable def m__law_gcd : List D → Option Sl := fnP b__law_gcd 2
noncomputable def b_is_within : Fs := (sRet (vE (eAnd (eV (eCall m_is_integer (aCons (eVar 0) aNil))) (eChain leD leD (eVar 1) (eVar 0) (eVar 2)))))
noncomputable def m_is_within : List D → Option Sl := fnP b_is_within 3
noncomputable def b_share : Fs := (sSeq (sSet 2 (eCall m_common (aCons (eVar 0) (aCons (eVar 1) aNil))))
    (sSeq (sIf (tOf (eBin ltD (eVar 1) (eC (.int 0)))) (sSet 2 (vE (eUn negD (eVar 2)))) sNil)
    (sRet (vE (eTup (aCons (eBin fdivD (eVar 0) (eVar 2)) (aCons (eBin fdivD (eVar 1) (eVar 2)) aNil)))))))
noncomputable def m_share : List D → Option Sl := fnP b_share 3
noncomputable def b_is_share : Fs := (sSeq (sIf (tOrT (tNotT (tOf (eV (eCall m_is_sized (aCons (eVar 0) (aCons (eC (.int 2)) (aCons (eC (.int 2)) aNil))))))) (tOrT (tNotT (tOf (eV (eCall m_is_integer (aCons (eIxV 0 (eC (.int 0))) aNil))))) (tNotT (tOf (eV (eCall m_is_integer (aCons (eIxV 0 (eC (.int 1))) aNil))))))) (sRet (vE (eC (.bool false)))) sNil)
    (sRet (vE (eAnd (eBin gtD (eIxV 0 (eC (.int 1))) (eC (.int 0))) (eBin eqD (eV (eCall m_common (aCons (eIxV 0 (eC (.int 0))) (aCons (eIxV 0 (eC (.int 1))) aNil)))) (eC (.int 1)))))))
noncomputable def m_is_share : List D → Option Sl := fnP b_is_share 1
noncomputable def b__law_any : Fs := (sRet (vE (eIxV 1 (eV (eCallI m__law_draw 0 (aCons (eUn lenD (bVar 1)) aNil))))))
noncomputable def m__law_any : List D → List D → Option (Sl × List D) := fnI b__law_any 2
noncomputable def b__law_frac : Fs := (sSeq (sSet 2 (eCall m__law_gcd (aCons (eVar 0) (aCons (eVar 1) aNil))))
    (sRet (vE (eIf (tOf (eBin gtD (eVar 1) (eC (.int 0)))) (eTup (aCons (eBin fdivD (eUn intD (bVar 0)) (eVar 2)) (aCons (eBin fdivD (eUn intD (bVar 1)) (eVar 2)) aNil))) (eTup (aCons (eBin fdivD (eUn intD (eUn negD (eVar 0))) (eVar 2)) (aCons (eBin fdivD (eUn intD (eUn negD (eVar 1))) (eVar 2)) aNil)))))))
noncomputable def m__law_frac : List D → Option Sl := fnP b__law_frac 3
noncomputable def b_plus : Fs := (sSeq (sIf (tOf (eBin eqD (eIxV 0 (eC (.int 1))) (eIxV 1 (eC (.int 1))))) (sRet (eCall m_share (aCons (eBin addA (eIxV 0 (eC (.int 0))) (eIxV 1 (eC (.int 0)))) (aCons (eIxV 0 (eC (.int 1))) aNil)))) sNil)
    (sRet (eCall m_share (aCons (eBin addA (eBin mulD (eIxV 0 (eC (.int 0))) (eIxV 1 (eC (.int 1)))) (eBin mulD (eIxV 1 (eC (.int 0))) (eIxV 0 (eC (.int 1))))) (aCons (eBin mulD (eIxV 0 (eC (.int 1))) (eIxV 1 (eC (.int 1)))) aNil)))))
noncomputable def m_plus : List D → Option Sl := fnP b_plus 2
noncomputable def b_times : Fs := (sRet (eCall m_share (aCons (eBin mulD (eIxV 0 (eC (.int 0))) (eIxV 1 (eC (.int 0)))) (aCons (eBin mulD (eIxV 0 (eC (.int 1))) (eIxV 1 (eC (.int 1)))) aNil))))
noncomputable def m_times : List D → Option Sl := fnP b_times 2
noncomputable def b_is_amount : Fs := (sRet (vE (eAnd (eV (eCall m_is_share (aCons (eVar 0) aNil))) (eBin geD (eIxV 0 (eC (.int 0))) (eC (.int 0))))))
noncomputable def m_is_amount : List D → Option Sl := fnP b_is_amount 1
noncomputable def b_is_method_number : Fs := (sRet (eCall m_is_within (aCons (eVar 1) (aCons (eC (.int 0)) (aCons (eBin subD (eUn lenD (eIxV 0 (eC (.int 1)))) (eC (.int 1))) aNil)))))
noncomputable def m_is_method_number : List D → Option Sl := fnP b_is_method_number 2
noncomputable def b__law_plus : Fs := (sRet (eCall m__law_frac (aCons (eBin addA (eBin mulD (eIxV 0 (eC (.int 0))) (eIxV 1 (eC (.int 1)))) (eBin mulD (eIxV 1 (eC (.int 0))) (eIxV 0 (eC (.int 1))))) (aCons (eBin mulD (eIxV 0 (eC (.int 1))) (eIxV 1 (eC (.int 1)))) aNil))))
noncomputable def m__law_plus : List D → Option Sl := fnP b__law_plus 2
noncomputable def b__law_minus : Fs := (sRet (eCall m__law_frac (aCons (eBin subD (eBin mulD (eIxV 0 (eC (.int 0))) (eIxV 1 (eC (.int 1)))) (eBin mulD (eIxV 1 (eC (.int 0))) (eIxV 0 (eC (.int 1))))) (aCons (eBin mulD (eIxV 0 (eC (.int 1))) (eIxV 1 (eC (.int 1)))) aNil))))
noncomputable def m__law_minus : List D → Option Sl := fnP b__law_minus 2
noncomputable def b__law_times : Fs := (sRet (eCall m__law_frac (aCons (eBin mulD (eIxV 0 (eC (.int 0))) (eIxV 1 (eC (.int 0)))) (aCons (eBin mulD (eIxV 0 (eC (.int 1))) (eIxV 1 (eC (.int 1)))) aNil))))
noncomputable def m__law_times : List D → Option Sl := fnP b__law_times 2
noncomputable def b__law_amount : Fs := (sSeq (sSet 1 (eCallI m__law_draw 0 (aCons (eC (.int 12)) aNil)))
    (sSeq (sIf (tOf (eBin eqD (eVar 1) (eC (.int 0)))) (sRet (vE (eTup (aCons (eC (.int 0)) (aCons (eC (.int 1)) aNil))))) sNil)
    (sSeq (sIf (tOf (eBin eqD (eVar 1) (eC (.int 1)))) (sRet (eCall m__law_frac (aCons (eBin addA (eC (.int 1)) (eV (eCallI m__law_draw 0 (aCons (eBin powD (eC (.int 10)) (eC (.int 18))) aNil)))) (aCons (eBin addA (eC (.int 1)) (eV (eCallI m__law_draw 0 (aCons (eBin powD (eC (.int 10)) (eC (.int 18))) aNil)))) aNil)))) sNil)
    (sRet (eCall m__law_frac (aCons (eV (eCallI m__law_draw 0 (aCons (eC (.int 24)) aNil))) (aCons (eBin addA (eC (.int 1)) (eV (eCallI m__law_draw 0 (aCons (eBin atD (eV (vLst (aCons (eC (.int 1)) (aCons (eC (.int 4)) (aCons (eC (.int 12)) aNil))))) (eV (eCallI m__law_draw 0 (aCons (eC (.int 3)) aNil)))) aNil)))) aNil)))))))
noncomputable def m__law_amount : List D → List D → Option (Sl × List D) := fnI b__law_amount 2
noncomputable def b_minus : Fs := (sRet (eCall m_plus (aCons (eVar 0) (aCons (eTup (aCons (eUn negD (eIxV 1 (eC (.int 0)))) (aCons (eIxV 1 (eC (.int 1))) aNil))) aNil))))
noncomputable def m_minus : List D → Option Sl := fnP b_minus 2
noncomputable def b_summed : Fs := (sSeq (sSet 1 (vE (eC k_ZERO)))
    (sSeq (sFor (iSeq (eVar 0)) (gVar 2) (sSet 1 (eCall m_plus (aCons (eVar 1) (aCons (eVar 2) aNil)))))
    (sRetV 1)))
noncomputable def m_summed : List D → Option Sl := fnP b_summed 3
noncomputable def b_are_amounts : Fs := (sRet (vE (eAnd (eV (eCall m_is_sized (aCons (eVar 0) (aCons (eVar 1) (aCons (eVar 1) aNil))))) (eUn allD (eV (vLc (iSeq (eVar 0)) (gVar 2) cYes (eV (eCall m_is_amount (aCons (eVar 2) aNil))) [2]))))))
noncomputable def m_are_amounts : List D → Option Sl := fnP b_are_amounts 3
noncomputable def b_check_factor : Fs := (sIf (tNotT (tOf (eV (eCall m_is_amount (aCons (eVar 0) aNil))))) sNo sNil)
noncomputable def m_check_factor : List D → Option Sl := fnP b_check_factor 1
noncomputable def b_made_by : Fs := (sSeq (sSet 2 (vRep (vLst (aCons (eC k_ZERO) aNil)) (eIxV 0 (eC (.int 0)))))
    (sSeq (sFor (iZipU (aCons (eIxV 0 (eC (.int 1))) (aCons (eVar 1) aNil))) (gTup (gsCons (gTup (gsCons (gVar 3) (gsCons (gVar 4) (gsCons (gVar 5) gsNil))) 3) (gsCons (gVar 6) gsNil)) 2) (sPut 2 (eVar 3) (eCall m_plus (aCons (eIxV 2 (eVar 3)) (aCons (eVar 6) aNil)))))
    (sRet (vE (eUn tupD (bVar 2))))))
noncomputable def m_made_by : List D → Option Sl := fnP b_made_by 7
noncomputable def b_used_by : Fs := (sSeq (sSet 2 (vRep (vLst (aCons (eC k_ZERO) aNil)) (eIxV 0 (eC (.int 0)))))
    (sSeq (sFor (iZipU (aCons (eIxV 0 (eC (.int 1))) (aCons (eVar 1) aNil))) (gTup (gsCons (gTup (gsCons (gVar 3) (gsCons (gVar 4) (gsCons (gVar 5) gsNil))) 3) (gsCons (gVar 6) gsNil)) 2) (sIf (tOf (eBin neD (eVar 6) (eC k_ZERO))) (sSet 2 (vLc (iZipU (aCons (eVar 2) (aCons (eVar 4) aNil))) (gTup (gsCons (gVar 7) (gsCons (gVar 8) gsNil)) 2) cYes (eV (eCall m_plus (aCons (eVar 7) (aCons (eV (eCall m_times (aCons (eVar 6) (aCons (eVar 8) aNil)))) aNil)))) [7, 8])) sNil))
    (sRet (vE (eUn tupD (bVar 2))))))
noncomputable def m_used_by : List D → Option Sl := fnP b_used_by 9
noncomputable def b__law_total : Fs := (sSeq (sSet 1 (vE (eTup (aCons (eC (.int 0)) (aCons (eC (.int 1)) aNil)))))
    (sSeq (sFor (iSeq (eVar 0)) (gVar 2) (sSet 1 (eCall m__law_plus (aCons (eVar 1) (aCons (eVar 2) aNil)))))
    (sRetV 1)))
noncomputable def m__law_total : List D → Option Sl := fnP b__law_total 3
noncomputable def b__law_share : Fs := (sSeq (sSet 2 (eCallI m__law_draw 0 (aCons (eC (.int 8)) aNil)))
    (sSeq (sIf (tOf (eBin ltD (eVar 2) (eC (.int 3)))) (sRet (vE (eTup (aCons (eC (.int 0)) (aCons (eC (.int 1)) aNil))))) sNil)
    (sSeq (sIf (tOf (eBin eqD (eVar 2) (eC (.int 3)))) (sRet (eCallI m__law_amount 0 aNil)) sNil)
    (sRet (eCall m__law_frac (aCons (eV (eCallI m__law_draw 0 (aCons (eC (.int 6)) aNil))) (aCons (eBin addA (eC (.int 4)) (eBin mulD (eVar 1) (eV (eCallI m__law_draw 0 (aCons (eC (.int 5)) aNil))))) aNil)))))))
noncomputable def m__law_share : List D → List D → Option (Sl × List D) := fnI b__law_share 3
noncomputable def b__law_factor : Fs := (sRet (eCallI m__law_any 0 (aCons (eV (vLst (aCons (eTup (aCons (eC (.int 1)) (aCons (eC (.int 1)) aNil))) (aCons (eTup (aCons (eC (.int 1)) (aCons (eC (.int 1)) aNil))) (aCons (eTup (aCons (eC (.int 11)) (aCons (eC (.int 10)) aNil))) (aCons (eTup (aCons (eC (.int 0)) (aCons (eC (.int 1)) aNil))) (aCons (eTup (aCons (eC (.int 3)) (aCons (eC (.int 2)) aNil))) (aCons (eV (eCallI m__law_amount 0 aNil)) aNil)))))))) aNil)))
noncomputable def m__law_factor : List D → List D → Option (Sl × List D) := fnI b__law_factor 1
noncomputable def b__law_row : Fs := (sRet (vE (eUn tupD (eV (vLc (iRange1 (aCons (eVar 1) aNil)) (gVar 2) cYes (eV (eCallI m__law_amount 0 aNil)) [2])))))
noncomputable def m__law_row : List D → List D → Option (Sl × List D) := fnI b__law_row 3
noncomputable def b_is_method : Fs := (sSeq (sIf (tOrT (tNotT (tOf (eV (eCall m_is_sized (aCons (eVar 1) (aCons (eC (.int 3)) (aCons (eC (.int 3)) aNil))))))) (tNotT (tOf (eV (eCall m_is_within (aCons (eIxV 1 (eC (.int 0))) (aCons (eC (.int 0)) (aCons (eBin subD (eVar 0) (eC (.int 1))) aNil)))))))) (sRet (vE (eC (.bool false)))) sNil)
    (sRet (vE (eAnd (eV (eCall m_are_amounts (aCons (eIxV 1 (eC (.int 1))) (aCons (eVar 0) aNil)))) (eV (eCall m_is_amount (aCons (eIxV 1 (eC (.int 2))) aNil)))))))
noncomputable def m_is_method : List D → Option Sl := fnP b_is_method 2
noncomputable def b_is_plan_of : Fs := (sRet (eCall m_are_amounts (aCons (eVar 1) (aCons (eUn lenD (eIxV 0 (eC (.int 1)))) aNil))))
noncomputable def m_is_plan_of : List D → Option Sl := fnP b_is_plan_of 2
noncomputable def b_check_prices : Fs := (sIf (tNotT (tOf (eV (eCall m_are_amounts (aCons (eVar 1) (aCons (eIxV 0 (eC (.int 0))) aNil)))))) sNo sNil)
noncomputable def m_check_prices : List D → Option Sl := fnP b_check_prices 2
noncomputable def b_net_of : Fs := (sZr 3 (iZipU (aCons (eV (eCall m_made_by (aCons (eVar 0) (aCons (eVar 1) aNil)))) (aCons (eV (eCall m_used_by (aCons (eVar 0) (aCons (eVar 1) aNil)))) aNil))) tupD (gTup (gsCons (gVar 4) (gsCons (gVar 5) gsNil)) 2) cYes (eV (eCall m_minus (aCons (eVar 4) (aCons (eV (eCall m_times (aCons (eVar 2) (aCons (eVar 5) aNil)))) aNil)))) [4, 5])
noncomputable def m_net_of : List D → Option Sl := fnP b_net_of 6
noncomputable def b_work_in : Fs := (sRet (eCall m_summed (aCons (eV (vLc (iZipU (aCons (eIxV 0 (eC (.int 1))) (aCons (eVar 1) aNil))) (gTup (gsCons (gVar 2) (gsCons (gVar 3) gsNil)) 2) cYes (eV (eCall m_times (aCons (eVar 3) (aCons (eIxV 2 (eC (.int 2))) aNil)))) [2, 3])) aNil)))
noncomputable def m_work_in : List D → Option Sl := fnP b_work_in 4
noncomputable def b_worth : Fs := (sRet (eCall m_summed (aCons (eV (vLc (iZipU (aCons (eVar 0) (aCons (eVar 1) aNil))) (gTup (gsCons (gVar 2) (gsCons (gVar 3) gsNil)) 2) cYes (eV (eCall m_times (aCons (eVar 2) (aCons (eVar 3) aNil)))) [2, 3])) aNil)))
noncomputable def m_worth : List D → Option Sl := fnP b_worth 4
noncomputable def b__law_method : Fs := (sSeq (sSet 3 (vE (eUn tupD (eV (vLc (iRange1 (aCons (eVar 1) aNil)) (gVar 4) cYes (eV (eCallI m__law_share 0 (aCons (eVar 1) aNil))) [4])))))
    (sRet (vE (eTup (aCons (eVar 2) (aCons (eVar 3) (aCons (eV (eCallI m__law_amount 0 aNil)) aNil)))))))
noncomputable def m__law_method : List D → List D → Option (Sl × List D) := fnI b__law_method 5
noncomputable def b__law_made : Fs := (sSeq (sSet 2 (vLst aNil))
    (sSeq (sFor (iRange1 (aCons (eIxV 0 (eC (.int 0))) aNil)) (gVar 3) (sEx (eApp 2 (eCall m__law_total (aCons (eV (vLc (iZipU (aCons (eVar 1) (aCons (eIxV 0 (eC (.int 1))) aNil))) (gTup (gsCons (gVar 4) (gsCons (gVar 5) gsNil)) 2) (tOf (eBin eqD (eIxV 5 (eC (.int 0))) (eVar 3))) (eVar 4) [4, 5])) aNil)))))
    (sRet (vE (eUn tupD (bVar 2))))))
noncomputable def m__law_made : List D → Option Sl := fnP b__law_made 6
noncomputable def b__law_used : Fs := (sSeq (sSet 2 (vLst aNil))
    (sSeq (sFor (iRange1 (aCons (eIxV 0 (eC (.int 0))) aNil)) (gVar 3) (sEx (eApp 2 (eCall m__law_total (aCons (eV (vLc (iZipU (aCons (eVar 1) (aCons (eIxV 0 (eC (.int 1))) aNil))) (gTup (gsCons (gVar 4) (gsCons (gVar 5) gsNil)) 2) cYes (eV (eCall m__law_times (aCons (eVar 4) (aCons (eBin atD (eIxV 5 (eC (.int 1))) (eVar 3)) aNil)))) [4, 5])) aNil)))))
    (sRet (vE (eUn tupD (bVar 2))))))
noncomputable def m__law_used : List D → Option Sl := fnP b__law_used 6
noncomputable def b__law_work : Fs := (sRet (eCall m__law_total (aCons (eV (vLc (iZipU (aCons (eVar 1) (aCons (eIxV 0 (eC (.int 1))) aNil))) (gTup (gsCons (gVar 2) (gsCons (gVar 3) gsNil)) 2) cYes (eV (eCall m__law_times (aCons (eVar 2) (aCons (eIxV 3 (eC (.int 2))) aNil)))) [2, 3])) aNil)))
noncomputable def m__law_work : List D → Option Sl := fnP b__law_work 4
noncomputable def b_is_book : Fs := (sSeq (sIf (tOrT (tNotT (tOf (eV (eCall m_is_sized (aCons (eVar 0) (aCons (eC (.int 2)) (aCons (eC (.int 2)) aNil))))))) (tNotT (tOf (eV (eCall m_is_within (aCons (eIxV 0 (eC (.int 0))) (aCons (eC (.int 1)) (aCons (eC k_MOST_GOODS) aNil)))))))) (sRet (vE (eC (.bool false)))) sNil)
    (sRet (vE (eAnd (eV (eCall m_is_sized (aCons (eIxV 0 (eC (.int 1))) (aCons (eC (.int 1)) (aCons (eC k_MOST_METHODS) aNil))))) (eUn allD (eV (vLc (iSeq (eIxV 0 (eC (.int 1)))) (gVar 1) cYes (eV (eCall m_is_method (aCons (eIxV 0 (eC (.int 0))) (aCons (eVar 1) aNil)))) [1])))))))
noncomputable def m_is_book : List D → Option Sl := fnP b_is_book 2
noncomputable def b_cost_of : Fs := (sRet (eCall m_plus (aCons (eV (eCall m_times (aCons (eVar 2) (aCons (eV (eCall m_worth (aCons (eIxV 0 (eC (.int 1))) (aCons (eVar 1) aNil)))) aNil)))) (aCons (eIxV 0 (eC (.int 2))) aNil))))
noncomputable def m_cost_of : List D → Option Sl := fnP b_cost_of 3
noncomputable def b__law_book : Fs := (sSeq (sSet 3 (vE (eInt2 min2 (aCons (eC (.int 20)) (aCons (eBin addA (eVar 1) (eV (eCallI m__law_draw 0 (aCons (eVar 2) aNil)))) aNil)))))
    (sSeq (sSet 4 (vLc (iRange1 (aCons (eVar 1) aNil)) (gVar 5) cYes (eV (eCallI m__law_method 0 (aCons (eVar 1) (aCons (eIf (tOf (eBin gtD (eV (eCallI m__law_draw 0 (aCons (eC (.int 12)) aNil))) (eC (.int 0)))) (eVar 5) (eC (.int 0))) aNil)))) [5]))
    (sSeq (sWhile (tOf (eBin ltD (eUn lenD (bVar 4)) (eVar 3))) (sEx (eIns 4 (aCons (eV (eCallI m__law_draw 0 (aCons (eBin addA (eUn lenD (bVar 4)) (eC (.int 1))) aNil))) (aCons (eV (eCallI m__law_method 0 (aCons (eVar 1) (aCons (eV (eCallI m__law_draw 0 (aCons (eVar 1) aNil))) aNil)))) aNil)))))
    (sRet (vE (eTup (aCons (eVar 1) (aCons (eUn tupD (bVar 4)) aNil))))))))
noncomputable def m__law_book : List D → List D → Option (Sl × List D) := fnI b__law_book 6
noncomputable def b__law_net : Fs := (sSeq (sSet 3 (vZip (aCons (eV (eCall m__law_made (aCons (eVar 0) (aCons (eVar 1) aNil)))) (aCons (eV (eCall m__law_used (aCons (eVar 0) (aCons (eVar 1) aNil)))) aNil))))
    (sRet (vE (eUn tupD (eV (vLc (iSeq (eVar 3)) (gTup (gsCons (gVar 4) (gsCons (gVar 5) gsNil)) 2) cYes (eV (eCall m__law_minus (aCons (eVar 4) (aCons (eV (eCall m__law_times (aCons (eVar 2) (aCons (eVar 5) aNil)))) aNil)))) [4, 5]))))))
noncomputable def m__law_net : List D → Option Sl := fnP b__law_net 6
noncomputable def b_check_book : Fs := (sIf (tNotT (tOf (eV (eCall m_is_book (aCons (eVar 0) aNil))))) sNo sNil)
noncomputable def m_check_book : List D → Option Sl := fnP b_check_book 1
noncomputable def b_is_plan : Fs := (sSeq (sEx (eV (eCall m_check_book (aCons (eVar 0) aNil))))
    (sRet (eCall m_is_plan_of (aCons (eVar 0) (aCons (eVar 1) aNil)))))
noncomputable def m_is_plan : List D → Option Sl := fnP b_is_plan 2
noncomputable def b_check_plan : Fs := (sSeq (sEx (eV (eCall m_check_book (aCons (eVar 0) aNil))))
    (sIf (tNotT (tOf (eV (eCall m_is_plan_of (aCons (eVar 0) (aCons (eVar 1) aNil)))))) sNo sNil))
noncomputable def m_check_plan : List D → Option Sl := fnP b_check_plan 2
noncomputable def b_cost : Fs := (sSeq (sEx (eV (eCall m_check_book (aCons (eVar 0) aNil))))
    (sSeq (sIf (tNotT (tOf (eV (eCall m_is_method_number (aCons (eVar 0) (aCons (eVar 1) aNil)))))) sNo sNil)
    (sSeq (sEx (eV (eCall m_check_prices (aCons (eVar 0) (aCons (eVar 2) aNil)))))
    (sSeq (sEx (eV (eCall m_check_factor (aCons (eVar 3) aNil))))
    (sRet (eCall m_cost_of (aCons (eBin atD (eIxV 0 (eC (.int 1))) (eVar 1)) (aCons (eVar 2) (aCons (eVar 3) aNil)))))))))
noncomputable def m_cost : List D → Option Sl := fnP b_cost 4
noncomputable def b__law_is (me : List D → Option Sl) : Fs := (sSeq (sIf (tOf (eUn (isi2D "tuple" "list") (eVar 1))) (sSeq (sIf (tOrT (tOf (eBin neD (eUn (isiD "tuple") (eVar 0)) (eUn (isiD "tuple") (eVar 1)))) (tNotT (tOf (eUn (isi2D "tuple" "list") (eVar 0))))) (sRet (vE (eC (.bool false)))) sNil)
    (sRet (vE (eAnd (eBin eqD (eUn lenD (bVar 0)) (eUn lenD (bVar 1))) (eUn allD (eV (vLc (iZipU (aCons (eVar 0) (aCons (eVar 1) aNil))) (gTup (gsCons (gVar 2) (gsCons (gVar 3) gsNil)) 2) cYes (eV (eCall me (aCons (eVar 2) (aCons (eVar 3) aNil)))) [2, 3]))))))) sNil)
    (sSeq (sIf (tOrT (tOf (eBin neD (eUn (isiD "bool") (eVar 0)) (eUn (isiD "bool") (eVar 1)))) (tOf (eBin neD (eUn (isiD "int") (eVar 0)) (eUn (isiD "int") (eVar 1))))) (sRet (vE (eC (.bool false)))) sNil)
    (sRet (vE (eBin eqD (eVar 0) (eVar 1))))))
noncomputable def mr__law_is : Nat → List D → Option Sl
  | 0 => fun _ => none
  | n + 1 => fnP (b__law_is (mr__law_is n)) 4
noncomputable def m__law_is : List D → Option Sl := mr__law_is 8
noncomputable def b_made : Fs := (sSeq (sEx (eV (eCall m_check_plan (aCons (eVar 0) (aCons (eVar 1) aNil)))))
    (sRet (eCall m_made_by (aCons (eVar 0) (aCons (eVar 1) aNil)))))
noncomputable def m_made : List D → Option Sl := fnP b_made 2
noncomputable def b_used : Fs := (sSeq (sEx (eV (eCall m_check_plan (aCons (eVar 0) (aCons (eVar 1) aNil)))))
    (sRet (eCall m_used_by (aCons (eVar 0) (aCons (eVar 1) aNil)))))
noncomputable def m_used : List D → Option Sl := fnP b_used 2
noncomputable def b_net : Fs := (sSeq (sEx (eV (eCall m_check_plan (aCons (eVar 0) (aCons (eVar 1) aNil)))))
    (sSeq (sEx (eV (eCall m_check_factor (aCons (eVar 2) aNil))))
    (sRet (eCall m_net_of (aCons (eVar 0) (aCons (eVar 1) (aCons (eVar 2) aNil)))))))
noncomputable def m_net : List D → Option Sl := fnP b_net 3
noncomputable def b_work_of : Fs := (sSeq (sEx (eV (eCall m_check_plan (aCons (eVar 0) (aCons (eVar 1) aNil)))))
    (sRet (eCall m_work_in (aCons (eVar 0) (aCons (eVar 1) aNil)))))
noncomputable def m_work_of : List D → Option Sl := fnP b_work_of 2
noncomputable def b__law_right : Fs := (sSeq (sSet 3 (vLst (aCons (eV (eCall m_made (aCons (eVar 0) (aCons (eVar 1) aNil)))) (aCons (eV (eCall m_used (aCons (eVar 0) (aCons (eVar 1) aNil)))) (aCons (eV (eCall m_net (aCons (eVar 0) (aCons (eVar 1) (aCons (eVar 2) aNil))))) (aCons (eV (eCall m_work_of (aCons (eVar 0) (aCons (eVar 1) aNil)))) aNil))))))
    (sSeq (sSet 4 (vLst (aCons (eV (eCall m__law_made (aCons (eVar 0) (aCons (eVar 1) aNil)))) (aCons (eV (eCall m__law_used (aCons (eVar 0) (aCons (eVar 1) aNil)))) (aCons (eV (eCall m__law_net (aCons (eVar 0) (aCons (eVar 1) (aCons (eVar 2) aNil))))) (aCons (eV (eCall m__law_work (aCons (eVar 0) (aCons (eVar 1) aNil)))) aNil))))))
    (sRet (vE (eAnd (eV (eCall m__law_is (aCons (eVar 3) (aCons (eVar 4) aNil)))) (eAnd (eBin isBD (eV (eCall m_is_book (aCons (eVar 0) aNil))) (eC (.bool true))) (eBin isBD (eV (eCall m_is_plan (aCons (eVar 0) (aCons (eVar 1) aNil)))) (eC (.bool true)))))))))
noncomputable def m__law_right : List D → Option Sl := fnP b__law_right 5
noncomputable def b__law_together_right : Fs := (sSeq (sSet 5 (vE (eUn tupD (eV (vLc (iZipU (aCons (eVar 1) (aCons (eVar 2) aNil))) (gTup (gsCons (gVar 10) (gsCons (gVar 11) gsNil)) 2) cYes (eV (eCall m__law_plus (aCons (eVar 10) (aCons (eVar 11) aNil)))) [10, 11])))))
    (sSeq (sSet 6 (vE (eUn tupD (eV (vLc (iSeq (eVar 1)) (gVar 10) cYes (eV (eCall m__law_times (aCons (eVar 4) (aCons (eVar 10) aNil)))) [10])))))
    (sSeq (sPar3 7 8 9 (aCons (eV (eCall m_net (aCons (eVar 0) (aCons (eVar 1) (aCons (eVar 3) aNil))))) (aCons (eV (eCall m_net (aCons (eVar 0) (aCons (eVar 2) (aCons (eVar 3) aNil))))) (aCons (eV (eCall m_net (aCons (eVar 0) (aCons (eVar 5) (aCons (eVar 3) aNil))))) aNil))))
    (sSeq (sIf (tOf (eBin neD (eVar 9) (eUn tupD (eV (vLc (iZipU (aCons (eVar 7) (aCons (eVar 8) aNil))) (gTup (gsCons (gVar 10) (gsCons (gVar 11) gsNil)) 2) cYes (eV (eCall m__law_plus (aCons (eVar 10) (aCons (eVar 11) aNil)))) [10, 11]))))) (sRet (vE (eC (.bool false)))) sNil)
    (sSeq (sIf (tOf (eBin neD (eV (eCall m_net (aCons (eVar 0) (aCons (eVar 6) (aCons (eVar 3) aNil))))) (eUn tupD (eV (vLc (iSeq (eVar 7)) (gVar 10) cYes (eV (eCall m__law_times (aCons (eVar 4) (aCons (eVar 10) aNil)))) [10]))))) (sRet (vE (eC (.bool false)))) sNil)
    (sRet (vE (eBin eqD (eV (eCall m_work_of (aCons (eVar 0) (aCons (eVar 5) aNil)))) (eV (eCall m__law_plus (aCons (eV (eCall m_work_of (aCons (eVar 0) (aCons (eVar 1) aNil)))) (aCons (eV (eCall m_work_of (aCons (eVar 0) (aCons (eVar 2) aNil)))) aNil))))))))))))
noncomputable def m__law_together_right : List D → Option Sl := fnP b__law_together_right 12
noncomputable def b__law_worth_right : Fs := (sSeq (sSet 4 (eCall m__law_total (aCons (eV (vLc (iZipU (aCons (eVar 2) (aCons (eV (eCall m_net (aCons (eVar 0) (aCons (eVar 1) (aCons (eVar 3) aNil))))) aNil))) (gTup (gsCons (gVar 9) (gsCons (gVar 10) gsNil)) 2) cYes (eV (eCall m__law_times (aCons (eVar 9) (aCons (eVar 10) aNil)))) [9, 10])) aNil)))
    (sSeq (sSet 5 (vLst aNil))
    (sSeq (sFor (iEnum' (aCons (eIxV 0 (eC (.int 1))) aNil)) (gTup (gsCons (gVar 6) (gsCons (gVar 7) gsNil)) 2) (sSeq (sSet 8 (eCall m__law_minus (aCons (eIxV 2 (eIxV 7 (eC (.int 0)))) (aCons (eV (eCall m_cost (aCons (eVar 0) (aCons (eVar 6) (aCons (eVar 2) (aCons (eVar 3) aNil)))))) aNil))))
    (sEx (eApp 5 (eCall m__law_times (aCons (eIxV 1 (eVar 6)) (aCons (eV (eCall m__law_plus (aCons (eVar 8) (aCons (eIxV 7 (eC (.int 2))) aNil)))) aNil)))))))
    (sRet (vE (eBin eqD (eVar 4) (eV (eCall m__law_total (aCons (eVar 5) aNil)))))))))
noncomputable def m__law_worth_right : List D → Option Sl := fnP b__law_worth_right 11
noncomputable def b_law : Fs := (sSeq (sSet 1 (eCall m__law_hand (aCons (eVar 0) aNil)))
    (sSeq (sFor (iRange1 (aCons (eC (.int 3)) aNil)) (gVar 2) (sSeq (sSet 3 (vE (eBin addA (eC (.int 1)) (eV (eCallI m__law_draw 1 (aCons (eC (.int 6)) aNil))))))
    (sSeq (sSet 4 (eCallI m__law_book 1 (aCons (eVar 3) (aCons (eBin atD (eV (vLst (aCons (eC (.int 3)) (aCons (eC (.int 7)) (aCons (eC (.int 20)) aNil))))) (eV (eCallI m__law_draw 1 (aCons (eC (.int 3)) aNil)))) aNil))))
    (sSeq (sSet 5 (vLc (iRange1 (aCons (eC (.int 2)) aNil)) (gVar 9) cYes (eV (eCallI m__law_row 1 (aCons (eUn lenD (eIxV 4 (eC (.int 1)))) aNil))) [9]))
    (sSeq (sPar 6 7 (eCallI m__law_factor 1 aNil) (eCallI m__law_row 1 (aCons (eVar 3) aNil)))
    (sSeq (sIf (tNotT (tOf (eUn allD (eV (vLc (iSeq (eVar 5)) (gVar 10) cYes (eV (eCall m__law_right (aCons (eVar 4) (aCons (eVar 10) (aCons (eVar 6) aNil))))) [10]))))) (sRet (vE (eC (.bool false)))) sNil)
    (sSeq (sIf (tNotT (tOf (eV (eCall m__law_together_right (aCons (eVar 4) (aCons (eIxV 5 (eC (.int 0))) (aCons (eIxV 5 (eC (.int 1))) (aCons (eVar 6) (aCons (eV (eCallI m__law_amount 1 aNil)) aNil))))))))) (sRet (vE (eC (.bool false)))) sNil)
    (sSeq (sIf (tNotT (tOf (eV (eCall m__law_worth_right (aCons (eVar 4) (aCons (eIxV 5 (eC (.int 0))) (aCons (eVar 7) (aCons (eVar 6) aNil)))))))) (sRet (vE (eC (.bool false)))) sNil)
    (sIf (tOf (eBin ltD (eUn lenD (eIxV 4 (eC (.int 1)))) (eC (.int 20)))) (sSeq (sSet 8 (vE (eTup (aCons (eVar 3) (aCons (eBin addA (eIxV 4 (eC (.int 1))) (eTup (aCons (eV (eCallI m__law_method 1 (aCons (eVar 3) (aCons (eV (eCallI m__law_draw 1 (aCons (eVar 3) aNil))) aNil)))) aNil))) aNil)))))
    (sIf (tOf (eBin neD (eV (eCall m_net (aCons (eVar 8) (aCons (eBin addA (eIxV 5 (eC (.int 0))) (eTup (aCons (eTup (aCons (eC (.int 0)) (aCons (eC (.int 1)) aNil))) aNil))) (aCons (eVar 6) aNil))))) (eV (eCall m_net (aCons (eVar 4) (aCons (eIxV 5 (eC (.int 0))) (aCons (eVar 6) aNil))))))) (sRet (vE (eC (.bool false)))) sNil)) sNil)))))))))
    (sRet (vE (eC (.bool true))))))
noncomputable def m_law : List D → Option Sl := fnP b_law 11
end K03
set_option Elab.async false
set_option linter.all false
set_option maxRecDepth 100000
set_option maxHeartbeats 4000000
namespace K03
open PySem PySem.Spec PyProof.Rows L2 Dl
section
variable {P : Program} {w : World} {K : PySem.W.Frag} {mg : Str → Option Value} {base : Heap}
theorem ok_is_integer (T : Txt K mg) : FnG P w K mg base 1 T.f_is_integer.f T.f_is_integer.fd ["thing"] (spP K 1 m_is_integer) := by
  refine fnP_ok (b := b_is_integer) (N := ["thing"]) (n := 1) T.f_is_integer.F sc_is_integer rfl ?_
  intro cd A outer st H room gd
  unfold b_is_integer
  exact (dss_one (ds_ret (dv_de (de_and (de_isi (n := "int") rfl T.n_isinstance rfl T.n_int (by decide +kernel) (de_var 0)) (de_one (de_not (db_de (de_isi (n := "bool") rfl T.n_isinstance rfl T.n_bool (by decide +kernel) (de_var 0)))))))))
theorem ok_is_sized (T : Txt K mg) : FnG P w K mg base 1 T.f_is_sized.f T.f_is_sized.fd ["thing", "low", "high"] (spP K 3 m_is_sized) := by
  refine fnP_ok (b := b_is_sized) (N := ["thing", "low", "high"]) (n := 3) T.f_is_sized.F sc_is_sized rfl ?_
  intro cd A outer st H room gd
  unfold b_is_sized
  exact (dss_one (ds_ret (dv_de (de_and (de_isi (n := "tuple") rfl T.n_isinstance rfl T.n_tuple (by decide +kernel) (de_var 0)) (de_one (de_chain op_le op_le ok_cmp ok_cmp (de_var 1) (de_len rfl T.n_len (db_var 0)) (de_var 2)))))))
theorem ok_common (T : Txt K mg) : FnG P w K mg base 1 T.f_common.f T.f_common.fd ["one", "other"] (spP K 2 m_common) := by
  refine fnP_ok (b := b_common) (N := ["one", "other"]) (n := 2) T.f_common.F sc_common rfl ?_
  intro cd A outer st H room gd
  unfold b_common
  exact (dss_cons (ds_while PassesOwn.never (dt_ne (hu64 room) (de_var 1) de_int) (dss_one (ds_par 0 1 rfl sc_common.nd (dv_de (de_var 1)) (dv_de (de_mod (de_var 0) (de_var 1))))))
    (dss_one (ds_ret (dv_de (de_abs rfl T.n_abs (db_var 0))))))
theorem ok__law_hand (T : Txt K mg) : FnG P w K mg base 1 T.f__law_hand.f T.f__law_hand.fd ["script"] (spP K 1 m__law_hand) := by
  refine fnP_ok (b := b__law_hand) (N := ["script", "cells", "cell"]) (n := 1) T.f__law_hand.F sc__law_hand rfl ?_
  intro cd A outer st H room gd
  unfold b__law_hand
  exact (dss_cons (ds_setLc 1 [("cell", 2)] rfl sc__law_hand.nd (di_seq (de_sl (de_var 0) do_none (do_some de_int))) rfl (fun _ _ _ _ _ => (dg_name 2 sc__law_hand.nd)) (fun _ _ _ _ _ => dcs_nil) (fun _ _ _ _ _ => (de_abs rfl T.n_abs (db_de (de_int1 rfl T.n_int (db_var 2))))) (sw_true rfl rfl rfl rfl))
    (dss_one (ds_ret (dv_lst (da_cons (de_var 1) (da_cons de_int (da_cons de_int (da_cons (de_addA de_int (de_mul de_int (de_len rfl T.n_len (db_var 1)))) (da_cons de_int da_nil))))) (lenCons (lenCons (lenCons (lenCons (lenCons lenNil)))))))))
theorem ok__law_draw (T : Txt K mg) : FnG P w K mg base 1 T.f__law_draw.f T.f__law_draw.fd ["hand", "many"] (spI K 2 m__law_draw) := by
  refine fnI_ok (b := b__law_draw) (N := ["hand", "many", "cell", "digit", "number"]) (n := 2) T.f__law_draw.F sc__law_draw rfl ?_
  intro cd A outer st H room gd
  unfold b__law_draw
  exact (dss_cons (ds_if (dt_w (dw_and (dt_eq (hu64 room) (de_ixV 0 de_int) de_int) (dw_and1 (dt_lt (de_ixV 0 de_int) (de_len rfl T.n_len (db_de (de_ixV 0 de_int))))))) (dss_cons (ds_set 2 sc__law_draw.nd (dv_de (de_ix (de_ixV 0 de_int) (de_ixV 0 de_int))))
    (dss_cons (ds_put 0 (dv_de (de_addA (de_ixV 0 de_int) de_int)) de_int)
    (dss_cons (ds_put 0 (dv_de (de_mod (de_int1 rfl T.n_int (db_de (de_addA (de_addA (de_mul (de_ixV 0 de_int) de_int) (de_mul (de_var 2) de_int)) de_int))) de_int)) de_int)
    (dss_one (ds_if (dt_ge (de_var 2) (de_pow de_int de_int)) (dss_one (ds_put 0 (dv_de (de_var 2)) de_int)) dss_nil))))) dss_nil)
    (dss_cons (ds_if (dt_gt (de_ixV 0 de_int) de_int) (dss_cons (ds_set 3 sc__law_draw.nd (dv_de (de_mod (de_int1 rfl T.n_int (db_de (de_ixV 0 de_int))) (de_var 1))))
    (dss_cons (ds_put 0 (dv_de (de_fdiv (de_ixV 0 de_int) (de_var 1))) de_int)
    (dss_one (ds_retV 3)))) dss_nil)
    (dss_cons (ds_put 0 (dv_de (de_addA (de_ixV 0 de_int) de_int)) de_int)
    (dss_cons (ds_set 4 sc__law_draw.nd (dv_de (de_mod (de_int1 rfl T.n_int (db_de (de_mul (de_int1 rfl T.n_int (db_de (de_addA (de_ixV 0 de_int) (de_mul de_int (de_ixV 0 de_int))))) de_int))) de_int)))
    (dss_cons (ds_set 4 sc__law_draw.nd (dv_de (de_mod (de_int1 rfl T.n_int (db_de (de_mul (de_var 4) (de_addA (de_fdiv (de_var 4) de_int) de_int)))) de_int)))
    (dss_cons (ds_set 4 sc__law_draw.nd (dv_de (de_mod (de_int1 rfl T.n_int (db_de (de_mul (de_var 4) (de_addA (de_fdiv (de_var 4) de_int) de_int)))) de_int)))
    (dss_one (ds_ret (dv_de (de_mod (de_int1 rfl T.n_int (db_de (de_fdiv (de_var 4) de_int))) (de_var 1)))))))))))
theorem ok__law_gcd (T : Txt K mg) : FnG P w K mg base 1 T.f__law_gcd.f T.f__law_gcd.fd ["one", "other"] (spP K 2 m__law_gcd) := by
  refine fnP_ok (b := b__law_gcd) (N := ["one", "other"]) (n := 2) T.f__law_gcd.F sc__law_gcd rfl ?_
  intro cd A outer st H room gd
  unfold b__law_gcd
  exact (dss_cons (ds_while PassesOwn.never (dt_ne (hu64 room) (de_var 1) de_int) (dss_one (ds_par 0 1 rfl sc__law_gcd.nd (dv_de (de_var 1)) (dv_de (de_mod (de_int1 rfl T.n_int (db_var 0)) (de_var 1))))))
    (dss_one (ds_ret (dv_de (de_abs rfl T.n_abs (db_var 0))))))
theorem ok_is_within (T : Txt K mg) : FnG P w K mg base 2 T.f_is_within.f T.f_is_within.fd ["thing", "low", "high"] (spP K 3 m_is_within) := by
  refine fnP_ok (b := b_is_within) (N := ["thing", "low", "high"]) (n := 3) T.f_is_within.F sc_is_within rfl ?_
  intro cd A outer st H room gd
  unfold b_is_within
  exact (dss_one (ds_ret (dv_de (de_and (de_dv (dv_call (ok_is_integer T) (room.mono (by decide)) gd rfl T.f_is_integer.g T.f_is_integer.F.kp T.f_is_integer.b (da_cons (de_var 0) da_nil) (lenCons lenNil))) (de_one (de_chain op_le op_le ok_cmp ok_cmp (de_var 1) (de_var 0) (de_var 2)))))))
theorem ok_share (T : Txt K mg) : FnG P w K mg base 2 T.f_share.f T.f_share.fd ["top", "bottom"] (spP K 2 m_share) := by
  refine fnP_ok (b := b_share) (N := ["top", "bottom", "part"]) (n := 2) T.f_share.F sc_share rfl ?_
  intro cd A outer st H room gd
  unfold b_share
  exact (dss_cons (ds_set 2 sc_share.nd (dv_call (ok_common T) (room.mono (by decide)) gd rfl T.f_common.g T.f_common.F.kp T.f_common.b (da_cons (de_var 0) (da_cons (de_var 1) da_nil)) (lenCons (lenCons lenNil))))
    (dss_cons (ds_if (dt_lt (de_var 1) de_int) (dss_one (ds_set 2 sc_share.nd (dv_de (de_neg (de_var 2))))) dss_nil)
    (dss_one (ds_ret (dv_de (de_tup (da_cons (de_fdiv (de_var 0) (de_var 2)) (da_cons (de_fdiv (de_var 1) (de_var 2)) da_nil)) (lenCons (lenCons lenNil))))))))
theorem ok_is_share (T : Txt K mg) : FnG P w K mg base 2 T.f_is_share.f T.f_is_share.fd ["thing"] (spP K 1 m_is_share) := by
  refine fnP_ok (b := b_is_share) (N := ["thing"]) (n := 1) T.f_is_share.F sc_is_share rfl ?_
  intro cd A outer st H room gd
  unfold b_is_share
  exact (dss_cons (ds_if (dt_w (dw_or (dt_not (dt_of (db_dv (dv_call (ok_is_sized T) (room.mono (by decide)) gd rfl T.f_is_sized.g T.f_is_sized.F.kp T.f_is_sized.b (da_cons (de_var 0) (da_cons de_int (da_cons de_int da_nil))) (lenCons (lenCons (lenCons lenNil))))))) (dw_or (dt_not (dt_of (db_dv (dv_call (ok_is_integer T) (room.mono (by decide)) gd rfl T.f_is_integer.g T.f_is_integer.F.kp T.f_is_integer.b (da_cons (de_ixV 0 de_int) da_nil) (lenCons lenNil))))) (dw_or1 (dt_not (dt_of (db_dv (dv_call (ok_is_integer T) (room.mono (by decide)) gd rfl T.f_is_integer.g T.f_is_integer.F.kp T.f_is_integer.b (da_cons (de_ixV 0 de_int) da_nil) (lenCons lenNil))))))))) (dss_one (ds_ret (dv_de de_bl))) dss_nil)
    (dss_one (ds_ret (dv_de (de_and (de_gt (de_ixV 0 de_int) de_int) (de_one (de_eq (hu64 room) (de_dv (dv_call (ok_common T) (room.mono (by decide)) gd rfl T.f_common.g T.f_common.F.kp T.f_common.b (da_cons (de_ixV 0 de_int) (da_cons (de_ixV 0 de_int) da_nil)) (lenCons (lenCons lenNil)))) de_int)))))))
theorem ok__law_any (T : Txt K mg) : FnG P w K mg base 2 T.f__law_any.f T.f__law_any.fd ["hand", "some"] (spI K 2 m__law_any) := by
  refine fnI_ok (b := b__law_any) (N := ["hand", "some"]) (n := 2) T.f__law_any.F sc__law_any rfl ?_
  intro cd A outer st H room gd
  unfold b__law_any
  exact (dss_one (ds_ret (dv_de (de_ixV 1 (de_dv (dv_callI 0 (ok__law_draw T) (room.mono (by decide)) gd rfl T.f__law_draw.g T.f__law_draw.F.kp T.f__law_draw.b (da_cons (de_len rfl T.n_len (db_var 1)) da_nil) (lenCons lenNil)))))))
theorem ok__law_frac (T : Txt K mg) : FnG P w K mg base 2 T.f__law_frac.f T.f__law_frac.fd ["top", "bottom"] (spP K 2 m__law_frac) := by
  refine fnP_ok (b := b__law_frac) (N := ["top", "bottom", "by"]) (n := 2) T.f__law_frac.F sc__law_frac rfl ?_
  intro cd A outer st H room gd
  unfold b__law_frac
  exact (dss_cons (ds_set 2 sc__law_frac.nd (dv_call (ok__law_gcd T) (room.mono (by decide)) gd rfl T.f__law_gcd.g T.f__law_gcd.F.kp T.f__law_gcd.b (da_cons (de_var 0) (da_cons (de_var 1) da_nil)) (lenCons (lenCons lenNil))))
    (dss_one (ds_ret (dv_de (de_if (dt_gt (de_var 1) de_int) (de_tup (da_cons (de_fdiv (de_int1 rfl T.n_int (db_var 0)) (de_var 2)) (da_cons (de_fdiv (de_int1 rfl T.n_int (db_var 1)) (de_var 2)) da_nil)) (lenCons (lenCons lenNil))) (de_tup (da_cons (de_fdiv (de_int1 rfl T.n_int (db_de (de_neg (de_var 0)))) (de_var 2)) (da_cons (de_fdiv (de_int1 rfl T.n_int (db_de (de_neg (de_var 1)))) (de_var 2)) da_nil)) (lenCons (lenCons lenNil))))))))
theorem ok_plus (T : Txt K mg) : FnG P w K mg base 3 T.f_plus.f T.f_plus.fd ["one", "other"] (spP K 2 m_plus) := by
  refine fnP_ok (b := b_plus) (N := ["one", "other"]) (n := 2) T.f_plus.F sc_plus rfl ?_
  intro cd A outer st H room gd
  unfold b_plus
  exact (dss_cons (ds_if (dt_eq (hu64 room) (de_ixV 0 de_int) (de_ixV 1 de_int)) (dss_one (ds_ret (dv_call (ok_share T) (room.mono (by decide)) gd rfl T.f_share.g T.f_share.F.kp T.f_share.b (da_cons (de_addA (de_ixV 0 de_int) (de_ixV 1 de_int)) (da_cons (de_ixV 0 de_int) da_nil)) (lenCons (lenCons lenNil))))) dss_nil)
    (dss_one (ds_ret (dv_call (ok_share T) (room.mono (by decide)) gd rfl T.f_share.g T.f_share.F.kp T.f_share.b (da_cons (de_addA (de_mul (de_ixV 0 de_int) (de_ixV 1 de_int)) (de_mul (de_ixV 1 de_int) (de_ixV 0 de_int))) (da_cons (de_mul (de_ixV 0 de_int) (de_ixV 1 de_int)) da_nil)) (lenCons (lenCons lenNil))))))
theorem ok_times (T : Txt K mg) : FnG P w K mg base 3 T.f_times.f T.f_times.fd ["one", "other"] (spP K 2 m_times) := by
  refine fnP_ok (b := b_times) (N := ["one", "other"]) (n := 2) T.f_times.F sc_times rfl ?_
  intro cd A outer st H room gd
  unfold b_times
  exact (dss_one (ds_ret (dv_call (ok_share T) (room.mono (by decide)) gd rfl T.f_share.g T.f_share.F.kp T.f_share.b (da_cons (de_mul (de_ixV 0 de_int) (de_ixV 1 de_int)) (da_cons (de_mul (de_ixV 0 de_int) (de_ixV 1 de_int)) da_nil)) (lenCons (lenCons lenNil)))))
theorem ok_is_amount (T : Txt K mg) : FnG P w K mg base 3 T.f_is_amount.f T.f_is_amount.fd ["thing"] (spP K 1 m_is_amount) := by
  refine fnP_ok (b := b_is_amount) (N := ["thing"]) (n := 1) T.f_is_amount.F sc_is_amount rfl ?_
  intro cd A outer st H room gd
  unfold b_is_amount
  exact (dss_one (ds_ret (dv_de (de_and (de_dv (dv_call (ok_is_share T) (room.mono (by decide)) gd rfl T.f_is_share.g T.f_is_share.F.kp T.f_is_share.b (da_cons (de_var 0) da_nil) (lenCons lenNil))) (de_one (de_ge (de_ixV 0 de_int) de_int))))))
theorem ok_is_method_number (T : Txt K mg) : FnG P w K mg base 3 T.f_is_method_number.f T.f_is_method_number.fd ["book", "thing"] (spP K 2 m_is_method_number) := by
  refine fnP_ok (b := b_is_method_number) (N := ["book", "thing"]) (n := 2) T.f_is_method_number.F sc_is_method_number rfl ?_
  intro cd A outer st H room gd
  unfold b_is_method_number
  exact (dss_one (ds_ret (dv_call (ok_is_within T) (room.mono (by decide)) gd rfl T.f_is_within.g T.f_is_within.F.kp T.f_is_within.b (da_cons (de_var 1) (da_cons de_int (da_cons (de_sub (de_len rfl T.n_len (db_de (de_ixV 0 de_int))) de_int) da_nil))) (lenCons (lenCons (lenCons lenNil))))))
theorem ok__law_plus (T : Txt K mg) : FnG P w K mg base 3 T.f__law_plus.f T.f__law_plus.fd ["one", "other"] (spP K 2 m__law_plus) := by
  refine fnP_ok (b := b__law_plus) (N := ["one", "other"]) (n := 2) T.f__law_plus.F sc__law_plus rfl ?_
  intro cd A outer st H room gd
  unfold b__law_plus
  exact (dss_one (ds_ret (dv_call (ok__law_frac T) (room.mono (by decide)) gd rfl T.f__law_frac.g T.f__law_frac.F.kp T.f__law_frac.b (da_cons (de_addA (de_mul (de_ixV 0 de_int) (de_ixV 1 de_int)) (de_mul (de_ixV 1 de_int) (de_ixV 0 de_int))) (da_cons (de_mul (de_ixV 0 de_int) (de_ixV 1 de_int)) da_nil)) (lenCons (lenCons lenNil)))))
theorem ok__law_minus (T : Txt K mg) : FnG P w K mg base 3 T.f__law_minus.f T.f__law_minus.fd ["one", "other"] (spP K 2 m__law_minus) := by
  refine fnP_ok (b := b__law_minus) (N := ["one", "other"]) (n := 2) T.f__law_minus.F sc__law_minus rfl ?_
  intro cd A outer st H room gd
  unfold b__law_minus
  exact (dss_one (ds_ret (dv_call (ok__law_frac T) (room.mono (by decide)) gd rfl T.f__law_frac.g T.f__law_frac.F.kp T.f__law_frac.b (da_cons (de_sub (de_mul (de_ixV 0 de_int) (de_ixV 1 de_int)) (de_mul (de_ixV 1 de_int) (de_ixV 0 de_int))) (da_cons (de_mul (de_ixV 0 de_int) (de_ixV 1 de_int)) da_nil)) (lenCons (lenCons lenNil)))))
theorem ok__law_times (T : Txt K mg) : FnG P w K mg base 3 T.f__law_times.f T.f__law_times.fd ["one", "other"] (spP K 2 m__law_times) := by
  refine fnP_ok (b := b__law_times) (N := ["one", "other"]) (n := 2) T.f__law_times.F sc__law_times rfl ?_
  intro cd A outer st H room gd
  unfold b__law_times
  exact (dss_one (ds_ret (dv_call (ok__law_frac T) (room.mono (by decide)) gd rfl T.f__law_frac.g T.f__law_frac.F.kp T.f__law_frac.b (da_cons (de_mul (de_ixV 0 de_int) (de_ixV 1 de_int)) (da_cons (de_mul (de_ixV 0 de_int) (de_ixV 1 de_int)) da_nil)) (lenCons (lenCons lenNil)))))
theorem ok__law_amount (T : Txt K mg) : FnG P w K mg base 3 T.f__law_amount.f T.f__law_amount.fd ["hand"] (spI K 1 m__law_amount) := by
  refine fnI_ok (b := b__law_amount) (N := ["hand", "kind"]) (n := 1) T.f__law_amount.F sc__law_amount rfl ?_
  intro cd A outer st H room gd
  unfold b__law_amount
  exact (dss_cons (ds_set 1 sc__law_amount.nd (dv_callI 0 (ok__law_draw T) (room.mono (by decide)) gd rfl T.f__law_draw.g T.f__law_draw.F.kp T.f__law_draw.b (da_cons de_int da_nil) (lenCons lenNil)))
    (dss_cons (ds_if (dt_eq (hu64 room) (de_var 1) de_int) (dss_one (ds_ret (dv_de (de_tup (da_cons de_int (da_cons de_int da_nil)) (lenCons (lenCons lenNil)))))) dss_nil)
    (dss_cons (ds_if (dt_eq (hu64 room) (de_var 1) de_int) (dss_one (ds_ret (dv_call (ok__law_frac T) (room.mono (by decide)) gd rfl T.f__law_frac.g T.f__law_frac.F.kp T.f__law_frac.b (da_cons (de_addA de_int (de_dv (dv_callI 0 (ok__law_draw T) (room.mono (by decide)) gd rfl T.f__law_draw.g T.f__law_draw.F.kp T.f__law_draw.b (da_cons (de_pow de_int de_int) da_nil) (lenCons lenNil)))) (da_cons (de_addA de_int (de_dv (dv_callI 0 (ok__law_draw T) (room.mono (by decide)) gd rfl T.f__law_draw.g T.f__law_draw.F.kp T.f__law_draw.b (da_cons (de_pow de_int de_int) da_nil) (lenCons lenNil)))) da_nil)) (lenCons (lenCons lenNil))))) dss_nil)
    (dss_one (ds_ret (dv_call (ok__law_frac T) (room.mono (by decide)) gd rfl T.f__law_frac.g T.f__law_frac.F.kp T.f__law_frac.b (da_cons (de_dv (dv_callI 0 (ok__law_draw T) (room.mono (by decide)) gd rfl T.f__law_draw.g T.f__law_draw.F.kp T.f__law_draw.b (da_cons de_int da_nil) (lenCons lenNil))) (da_cons (de_addA de_int (de_dv (dv_callI 0 (ok__law_draw T) (room.mono (by decide)) gd rfl T.f__law_draw.g T.f__law_draw.F.kp T.f__law_draw.b (da_cons (de_ix (de_dv (dv_lst (da_cons de_int (da_cons de_int (da_cons de_int da_nil))) (lenCons (lenCons (lenCons lenNil))))) (de_dv (dv_callI 0 (ok__law_draw T) (room.mono (by decide)) gd rfl T.f__law_draw.g T.f__law_draw.F.kp T.f__law_draw.b (da_cons de_int da_nil) (lenCons lenNil)))) da_nil) (lenCons lenNil)))) da_nil)) (lenCons (lenCons lenNil))))))))
theorem ok_minus (T : Txt K mg) : FnG P w K mg base 4 T.f_minus.f T.f_minus.fd ["one", "other"] (spP K 2 m_minus) := by
  refine fnP_ok (b := b_minus) (N := ["one", "other"]) (n := 2) T.f_minus.F sc_minus rfl ?_
  intro cd A outer st H room gd
  unfold b_minus
  exact (dss_one (ds_ret (dv_call (ok_plus T) (room.mono (by decide)) gd rfl T.f_plus.g T.f_plus.F.kp T.f_plus.b (da_cons (de_var 0) (da_cons (de_tup (da_cons (de_neg (de_ixV 1 de_int)) (da_cons (de_ixV 1 de_int) da_nil)) (lenCons (lenCons lenNil))) da_nil)) (lenCons (lenCons lenNil)))))
theorem ok_summed (T : Txt K mg) : FnG P w K mg base 4 T.f_summed.f T.f_summed.fd ["many"] (spP K 1 m_summed) := by
  refine fnP_ok (b := b_summed) (N := ["many", "found", "one"]) (n := 1) T.f_summed.F sc_summed rfl ?_
  intro cd A outer st H room gd
  unfold b_summed
  exact (dss_cons (ds_set 1 sc_summed.nd (dv_de (de_glob rfl T.c_ZERO.1 T.c_ZERO.2.1 T.c_ZERO.2.2)))
    (dss_cons (ds_for PassesOwn.never rfl (di_seq (de_var 0)) (dg_name 2 sc_summed.nd) (dss_one (ds_set 1 sc_summed.nd (dv_call (ok_plus T) (room.mono (by decide)) gd rfl T.f_plus.g T.f_plus.F.kp T.f_plus.b (da_cons (de_var 1) (da_cons (de_var 2) da_nil)) (lenCons (lenCons lenNil))))))
    (dss_one (ds_retV 1))))
theorem ok_are_amounts (T : Txt K mg) : FnG P w K mg base 4 T.f_are_amounts.f T.f_are_amounts.fd ["thing", "many"] (spP K 2 m_are_amounts) := by
  refine fnP_ok (b := b_are_amounts) (N := ["thing", "many", "part"]) (n := 2) T.f_are_amounts.F sc_are_amounts rfl ?_
  intro cd A outer st H room gd
  unfold b_are_amounts
  exact (dss_one (ds_ret (dv_de (de_and (de_dv (dv_call (ok_is_sized T) (room.mono (by decide)) gd rfl T.f_is_sized.g T.f_is_sized.F.kp T.f_is_sized.b (da_cons (de_var 0) (da_cons (de_var 1) (da_cons (de_var 1) da_nil))) (lenCons (lenCons (lenCons lenNil))))) (de_one (de_all rfl rfl T.n_all (db_dv (dv_lc [("part", 2)] rfl sc_are_amounts.nd (di_seq (de_var 0)) rfl (fun _ _ _ _ _ => (dg_name 2 sc_are_amounts.nd)) (fun _ _ _ _ _ => dcs_nil) (fun _ _ _ _ _ => (de_dv (dv_call (ok_is_amount T) (room.mono (by decide)) gd rfl T.f_is_amount.g T.f_is_amount.F.kp T.f_is_amount.b (da_cons (de_var 2) da_nil) (lenCons lenNil))))))))))))
theorem ok_check_factor (T : Txt K mg) : FnG P w K mg base 4 T.f_check_factor.f T.f_check_factor.fd ["thing"] (spP K 1 m_check_factor) := by
  refine fnP_ok (b := b_check_factor) (N := ["thing"]) (n := 1) T.f_check_factor.F sc_check_factor rfl ?_
  intro cd A outer st H room gd
  unfold b_check_factor
  exact (dss_one (ds_if (dt_not (dt_of (db_dv (dv_call (ok_is_amount T) (room.mono (by decide)) gd rfl T.f_is_amount.g T.f_is_amount.F.kp T.f_is_amount.b (da_cons (de_var 0) da_nil) (lenCons lenNil))))) (dss_one ds_no) dss_nil))
theorem ok_made_by (T : Txt K mg) : FnG P w K mg base 4 T.f_made_by.f T.f_made_by.fd ["book", "plan"] (spP K 2 m_made_by) := by
  refine fnP_ok (b := b_made_by) (N := ["book", "plan", "found", "good", "uses", "work", "amount"]) (n := 2) T.f_made_by.F sc_made_by rfl ?_
  intro cd A outer st H room gd
  unfold b_made_by
  exact (dss_cons (ds_set 2 sc_made_by.nd (dv_rep (dv_lst (da_cons (de_glob rfl T.c_ZERO.1 T.c_ZERO.2.1 T.c_ZERO.2.2) da_nil) (lenCons lenNil)) (de_ixV 0 de_int)))
    (dss_cons (ds_for PassesOwn.never rfl (di_zipU rfl T.n_zip (da_cons (de_ixV 0 de_int) (da_cons (de_var 1) da_nil))) (dg_tup 2 rfl (dgs_cons (dg_tup 3 rfl (dgs_cons (dg_name 3 sc_made_by.nd) (dgs_cons (dg_name 4 sc_made_by.nd) (dgs_cons (dg_name 5 sc_made_by.nd) dgs_nil)))) (dgs_cons (dg_name 6 sc_made_by.nd) dgs_nil))) (dss_one (ds_put 2 (dv_call (ok_plus T) (room.mono (by decide)) gd rfl T.f_plus.g T.f_plus.F.kp T.f_plus.b (da_cons (de_ixV 2 (de_var 3)) (da_cons (de_var 6) da_nil)) (lenCons (lenCons lenNil))) (de_var 3))))
    (dss_one (ds_ret (dv_de (de_tuple rfl T.n_tuple (db_var 2)))))))
theorem ok_used_by (T : Txt K mg) : FnG P w K mg base 4 T.f_used_by.f T.f_used_by.fd ["book", "plan"] (spP K 2 m_used_by) := by
  refine fnP_ok (b := b_used_by) (N := ["book", "plan", "found", "good", "uses", "work", "amount", "part", "use"]) (n := 2) T.f_used_by.F sc_used_by rfl ?_
  intro cd A outer st H room gd
  unfold b_used_by
  exact (dss_cons (ds_set 2 sc_used_by.nd (dv_rep (dv_lst (da_cons (de_glob rfl T.c_ZERO.1 T.c_ZERO.2.1 T.c_ZERO.2.2) da_nil) (lenCons lenNil)) (de_ixV 0 de_int)))
    (dss_cons (ds_for PassesOwn.never rfl (di_zipU rfl T.n_zip (da_cons (de_ixV 0 de_int) (da_cons (de_var 1) da_nil))) (dg_tup 2 rfl (dgs_cons (dg_tup 3 rfl (dgs_cons (dg_name 3 sc_used_by.nd) (dgs_cons (dg_name 4 sc_used_by.nd) (dgs_cons (dg_name 5 sc_used_by.nd) dgs_nil)))) (dgs_cons (dg_name 6 sc_used_by.nd) dgs_nil))) (dss_one (ds_if (dt_ne (hu64 room) (de_var 6) (de_glob rfl T.c_ZERO.1 T.c_ZERO.2.1 T.c_ZERO.2.2)) (dss_one (ds_setLc 2 [("part", 7), ("use", 8)] rfl sc_used_by.nd (di_zipU rfl T.n_zip (da_cons (de_var 2) (da_cons (de_var 4) da_nil))) rfl (fun _ _ _ _ _ => (dg_tup 2 rfl (dgs_cons (dg_name 7 sc_used_by.nd) (dgs_cons (dg_name 8 sc_used_by.nd) dgs_nil)))) (fun _ _ _ _ _ => dcs_nil) (fun _ _ _ _ _ => (de_dv (dv_call (ok_plus T) (room.mono (by decide)) gd rfl T.f_plus.g T.f_plus.F.kp T.f_plus.b (da_cons (de_var 7) (da_cons (de_dv (dv_call (ok_times T) (room.mono (by decide)) gd rfl T.f_times.g T.f_times.F.kp T.f_times.b (da_cons (de_var 6) (da_cons (de_var 8) da_nil)) (lenCons (lenCons lenNil)))) da_nil)) (lenCons (lenCons lenNil))))) (sw_true rfl rfl rfl rfl))) dss_nil)))
    (dss_one (ds_ret (dv_de (de_tuple rfl T.n_tuple (db_var 2)))))))
theorem ok__law_total (T : Txt K mg) : FnG P w K mg base 4 T.f__law_total.f T.f__law_total.fd ["some"] (spP K 1 m__law_total) := by
  refine fnP_ok (b := b__law_total) (N := ["some", "found", "one"]) (n := 1) T.f__law_total.F sc__law_total rfl ?_
  intro cd A outer st H room gd
  unfold b__law_total
  exact (dss_cons (ds_set 1 sc__law_total.nd (dv_de (de_tup (da_cons de_int (da_cons de_int da_nil)) (lenCons (lenCons lenNil)))))
    (dss_cons (ds_for PassesOwn.never rfl (di_seq (de_var 0)) (dg_name 2 sc__law_total.nd) (dss_one (ds_set 1 sc__law_total.nd (dv_call (ok__law_plus T) (room.mono (by decide)) gd rfl T.f__law_plus.g T.f__law_plus.F.kp T.f__law_plus.b (da_cons (de_var 1) (da_cons (de_var 2) da_nil)) (lenCons (lenCons lenNil))))))
    (dss_one (ds_retV 1))))
theorem ok__law_share (T : Txt K mg) : FnG P w K mg base 4 T.f__law_share.f T.f__law_share.fd ["hand", "goods"] (spI K 2 m__law_share) := by
  refine fnI_ok (b := b__law_share) (N := ["hand", "goods", "kind"]) (n := 2) T.f__law_share.F sc__law_share rfl ?_
  intro cd A outer st H room gd
  unfold b__law_share
  exact (dss_cons (ds_set 2 sc__law_share.nd (dv_callI 0 (ok__law_draw T) (room.mono (by decide)) gd rfl T.f__law_draw.g T.f__law_draw.F.kp T.f__law_draw.b (da_cons de_int da_nil) (lenCons lenNil)))
    (dss_cons (ds_if (dt_lt (de_var 2) de_int) (dss_one (ds_ret (dv_de (de_tup (da_cons de_int (da_cons de_int da_nil)) (lenCons (lenCons lenNil)))))) dss_nil)
    (dss_cons (ds_if (dt_eq (hu64 room) (de_var 2) de_int) (dss_one (ds_ret (dv_callI 0 (ok__law_amount T) (room.mono (by decide)) gd rfl T.f__law_amount.g T.f__law_amount.F.kp T.f__law_amount.b da_nil lenNil))) dss_nil)
    (dss_one (ds_ret (dv_call (ok__law_frac T) (room.mono (by decide)) gd rfl T.f__law_frac.g T.f__law_frac.F.kp T.f__law_frac.b (da_cons (de_dv (dv_callI 0 (ok__law_draw T) (room.mono (by decide)) gd rfl T.f__law_draw.g T.f__law_draw.F.kp T.f__law_draw.b (da_cons de_int da_nil) (lenCons lenNil))) (da_cons (de_addA de_int (de_mul (de_var 1) (de_dv (dv_callI 0 (ok__law_draw T) (room.mono (by decide)) gd rfl T.f__law_draw.g T.f__law_draw.F.kp T.f__law_draw.b (da_cons de_int da_nil) (lenCons lenNil))))) da_nil)) (lenCons (lenCons lenNil))))))))
theorem ok__law_factor (T : Txt K mg) : FnG P w K mg base 4 T.f__law_factor.f T.f__law_factor.fd ["hand"] (spI K 1 m__law_factor) := by
  refine fnI_ok (b := b__law_factor) (N := ["hand"]) (n := 1) T.f__law_factor.F sc__law_factor rfl ?_
  intro cd A outer st H room gd
  unfold b__law_factor
  exact (dss_one (ds_ret (dv_callI 0 (ok__law_any T) (room.mono (by decide)) gd rfl T.f__law_any.g T.f__law_any.F.kp T.f__law_any.b (da_cons (de_dv (dv_lst (da_cons (de_tup (da_cons de_int (da_cons de_int da_nil)) (lenCons (lenCons lenNil))) (da_cons (de_tup (da_cons de_int (da_cons de_int da_nil)) (lenCons (lenCons lenNil))) (da_cons (de_tup (da_cons de_int (da_cons de_int da_nil)) (lenCons (lenCons lenNil))) (da_cons (de_tup (da_cons de_int (da_cons de_int da_nil)) (lenCons (lenCons lenNil))) (da_cons (de_tup (da_cons de_int (da_cons de_int da_nil)) (lenCons (lenCons lenNil))) (da_cons (de_dv (dv_callI 0 (ok__law_amount T) (room.mono (by decide)) gd rfl T.f__law_amount.g T.f__law_amount.F.kp T.f__law_amount.b da_nil lenNil)) da_nil)))))) (lenCons (lenCons (lenCons (lenCons (lenCons (lenCons lenNil)))))))) da_nil) (lenCons lenNil))))
theorem ok__law_row (T : Txt K mg) : FnG P w K mg base 4 T.f__law_row.f T.f__law_row.fd ["hand", "many"] (spI K 2 m__law_row) := by
  refine fnI_ok (b := b__law_row) (N := ["hand", "many", "turn"]) (n := 2) T.f__law_row.F sc__law_row rfl ?_
  intro cd A outer st H room gd
  unfold b__law_row
  exact (dss_one (ds_ret (dv_de (de_tuple rfl T.n_tuple (db_dv (dv_lc [("turn", 2)] rfl sc__law_row.nd (di_range1 rfl T.n_range (da_cons (de_var 1) da_nil)) rfl (fun _ _ _ _ _ => (dg_name 2 sc__law_row.nd)) (fun _ _ _ _ _ => dcs_nil) (fun _ _ _ _ _ => (de_dv (dv_callI 0 (ok__law_amount T) (room.mono (by decide)) gd rfl T.f__law_amount.g T.f__law_amount.F.kp T.f__law_amount.b da_nil lenNil)))))))))
theorem ok_is_method (T : Txt K mg) : FnG P w K mg base 5 T.f_is_method.f T.f_is_method.fd ["goods", "thing"] (spP K 2 m_is_method) := by
  refine fnP_ok (b := b_is_method) (N := ["goods", "thing"]) (n := 2) T.f_is_method.F sc_is_method rfl ?_
  intro cd A outer st H room gd
  unfold b_is_method
  exact (dss_cons (ds_if (dt_w (dw_or (dt_not (dt_of (db_dv (dv_call (ok_is_sized T) (room.mono (by decide)) gd rfl T.f_is_sized.g T.f_is_sized.F.kp T.f_is_sized.b (da_cons (de_var 1) (da_cons de_int (da_cons de_int da_nil))) (lenCons (lenCons (lenCons lenNil))))))) (dw_or1 (dt_not (dt_of (db_dv (dv_call (ok_is_within T) (room.mono (by decide)) gd rfl T.f_is_within.g T.f_is_within.F.kp T.f_is_within.b (da_cons (de_ixV 1 de_int) (da_cons de_int (da_cons (de_sub (de_var 0) de_int) da_nil))) (lenCons (lenCons (lenCons lenNil)))))))))) (dss_one (ds_ret (dv_de de_bl))) dss_nil)
    (dss_one (ds_ret (dv_de (de_and (de_dv (dv_call (ok_are_amounts T) (room.mono (by decide)) gd rfl T.f_are_amounts.g T.f_are_amounts.F.kp T.f_are_amounts.b (da_cons (de_ixV 1 de_int) (da_cons (de_var 0) da_nil)) (lenCons (lenCons lenNil)))) (de_one (de_dv (dv_call (ok_is_amount T) (room.mono (by decide)) gd rfl T.f_is_amount.g T.f_is_amount.F.kp T.f_is_amount.b (da_cons (de_ixV 1 de_int) da_nil) (lenCons lenNil)))))))))
theorem ok_is_plan_of (T : Txt K mg) : FnG P w K mg base 5 T.f_is_plan_of.f T.f_is_plan_of.fd ["book", "thing"] (spP K 2 m_is_plan_of) := by
  refine fnP_ok (b := b_is_plan_of) (N := ["book", "thing"]) (n := 2) T.f_is_plan_of.F sc_is_plan_of rfl ?_
  intro cd A outer st H room gd
  unfold b_is_plan_of
  exact (dss_one (ds_ret (dv_call (ok_are_amounts T) (room.mono (by decide)) gd rfl T.f_are_amounts.g T.f_are_amounts.F.kp T.f_are_amounts.b (da_cons (de_var 1) (da_cons (de_len rfl T.n_len (db_de (de_ixV 0 de_int))) da_nil)) (lenCons (lenCons lenNil)))))
theorem ok_check_prices (T : Txt K mg) : FnG P w K mg base 5 T.f_check_prices.f T.f_check_prices.fd ["book", "thing"] (spP K 2 m_check_prices) := by
  refine fnP_ok (b := b_check_prices) (N := ["book", "thing"]) (n := 2) T.f_check_prices.F sc_check_prices rfl ?_
  intro cd A outer st H room gd
  unfold b_check_prices
  exact (dss_one (ds_if (dt_not (dt_of (db_dv (dv_call (ok_are_amounts T) (room.mono (by decide)) gd rfl T.f_are_amounts.g T.f_are_amounts.F.kp T.f_are_amounts.b (da_cons (de_var 1) (da_cons (de_ixV 0 de_int) da_nil)) (lenCons (lenCons lenNil)))))) (dss_one ds_no) dss_nil))
theorem ok_net_of (T : Txt K mg) : FnG P w K mg base 5 T.f_net_of.f T.f_net_of.fd ["book", "plan", "factor"] (spP K 3 m_net_of) := by
  refine fnP_ok (b := b_net_of) (N := ["book", "plan", "factor", "pairs", "more", "less"]) (n := 3) T.f_net_of.F sc_net_of rfl ?_
  intro cd A outer st H room gd
  unfold b_net_of
  exact (dss_zipRetT 3 [("more", 4), ("less", 5)] call_tuple_of ok_tup rfl T.n_tuple (by decide +kernel) rfl sc_net_of.nd rfl T.n_zip (da_cons (de_dv (dv_call (ok_made_by T) (room.mono (by decide)) gd rfl T.f_made_by.g T.f_made_by.F.kp T.f_made_by.b (da_cons (de_var 0) (da_cons (de_var 1) da_nil)) (lenCons (lenCons lenNil)))) (da_cons (de_dv (dv_call (ok_used_by T) (room.mono (by decide)) gd rfl T.f_used_by.g T.f_used_by.F.kp T.f_used_by.b (da_cons (de_var 0) (da_cons (de_var 1) da_nil)) (lenCons (lenCons lenNil)))) da_nil)) rfl (fun _ _ _ _ _ => (dg_tup 2 rfl (dgs_cons (dg_name 4 sc_net_of.nd) (dgs_cons (dg_name 5 sc_net_of.nd) dgs_nil)))) (fun _ _ _ _ _ => dcs_nil) (fun _ _ _ _ _ => (de_dv (dv_call (ok_minus T) (room.mono (by decide)) gd rfl T.f_minus.g T.f_minus.F.kp T.f_minus.b (da_cons (de_var 4) (da_cons (de_dv (dv_call (ok_times T) (room.mono (by decide)) gd rfl T.f_times.g T.f_times.F.kp T.f_times.b (da_cons (de_var 2) (da_cons (de_var 5) da_nil)) (lenCons (lenCons lenNil)))) da_nil)) (lenCons (lenCons lenNil))))))
theorem ok_work_in (T : Txt K mg) : FnG P w K mg base 5 T.f_work_in.f T.f_work_in.fd ["book", "plan"] (spP K 2 m_work_in) := by
  refine fnP_ok (b := b_work_in) (N := ["book", "plan", "method", "amount"]) (n := 2) T.f_work_in.F sc_work_in rfl ?_
  intro cd A outer st H room gd
  unfold b_work_in
  exact (dss_one (ds_ret (dv_call (ok_summed T) (room.mono (by decide)) gd rfl T.f_summed.g T.f_summed.F.kp T.f_summed.b (da_cons (de_dv (dv_lc [("method", 2), ("amount", 3)] rfl sc_work_in.nd (di_zipU rfl T.n_zip (da_cons (de_ixV 0 de_int) (da_cons (de_var 1) da_nil))) rfl (fun _ _ _ _ _ => (dg_tup 2 rfl (dgs_cons (dg_name 2 sc_work_in.nd) (dgs_cons (dg_name 3 sc_work_in.nd) dgs_nil)))) (fun _ _ _ _ _ => dcs_nil) (fun _ _ _ _ _ => (de_dv (dv_call (ok_times T) (room.mono (by decide)) gd rfl T.f_times.g T.f_times.F.kp T.f_times.b (da_cons (de_var 3) (da_cons (de_ixV 2 de_int) da_nil)) (lenCons (lenCons lenNil))))))) da_nil) (lenCons lenNil))))
theorem ok_worth (T : Txt K mg) : FnG P w K mg base 5 T.f_worth.f T.f_worth.fd ["amounts", "prices"] (spP K 2 m_worth) := by
  refine fnP_ok (b := b_worth) (N := ["amounts", "prices", "amount", "price"]) (n := 2) T.f_worth.F sc_worth rfl ?_
  intro cd A outer st H room gd
  unfold b_worth
  exact (dss_one (ds_ret (dv_call (ok_summed T) (room.mono (by decide)) gd rfl T.f_summed.g T.f_summed.F.kp T.f_summed.b (da_cons (de_dv (dv_lc [("amount", 2), ("price", 3)] rfl sc_worth.nd (di_zipU rfl T.n_zip (da_cons (de_var 0) (da_cons (de_var 1) da_nil))) rfl (fun _ _ _ _ _ => (dg_tup 2 rfl (dgs_cons (dg_name 2 sc_worth.nd) (dgs_cons (dg_name 3 sc_worth.nd) dgs_nil)))) (fun _ _ _ _ _ => dcs_nil) (fun _ _ _ _ _ => (de_dv (dv_call (ok_times T) (room.mono (by decide)) gd rfl T.f_times.g T.f_times.F.kp T.f_times.b (da_cons (de_var 2) (da_cons (de_var 3) da_nil)) (lenCons (lenCons lenNil))))))) da_nil) (lenCons lenNil))))
theorem ok__law_method (T : Txt K mg) : FnG P w K mg base 5 T.f__law_method.f T.f__law_method.fd ["hand", "goods", "good"] (spI K 3 m__law_method) := by
  refine fnI_ok (b := b__law_method) (N := ["hand", "goods", "good", "uses", "turn"]) (n := 3) T.f__law_method.F sc__law_method rfl ?_
  intro cd A outer st H room gd
  unfold b__law_method
  exact (dss_cons (ds_set 3 sc__law_method.nd (dv_de (de_tuple rfl T.n_tuple (db_dv (dv_lc [("turn", 4)] rfl sc__law_method.nd (di_range1 rfl T.n_range (da_cons (de_var 1) da_nil)) rfl (fun _ _ _ _ _ => (dg_name 4 sc__law_method.nd)) (fun _ _ _ _ _ => dcs_nil) (fun _ _ _ _ _ => (de_dv (dv_callI 0 (ok__law_share T) (room.mono (by decide)) gd rfl T.f__law_share.g T.f__law_share.F.kp T.f__law_share.b (da_cons (de_var 1) da_nil) (lenCons lenNil)))))))))
    (dss_one (ds_ret (dv_de (de_tup (da_cons (de_var 2) (da_cons (de_var 3) (da_cons (de_dv (dv_callI 0 (ok__law_amount T) (room.mono (by decide)) gd rfl T.f__law_amount.g T.f__law_amount.F.kp T.f__law_amount.b da_nil lenNil)) da_nil))) (lenCons (lenCons (lenCons lenNil))))))))
theorem ok__law_made (T : Txt K mg) : FnG P w K mg base 5 T.f__law_made.f T.f__law_made.fd ["book", "plan"] (spP K 2 m__law_made) := by
  refine fnP_ok (b := b__law_made) (N := ["book", "plan", "found", "good", "amount", "method"]) (n := 2) T.f__law_made.F sc__law_made rfl ?_
  intro cd A outer st H room gd
  unfold b__law_made
  exact (dss_cons (ds_set 2 sc__law_made.nd (dv_lst da_nil lenNil))
    (dss_cons (ds_for PassesOwn.never rfl (di_range1 rfl T.n_range (da_cons (de_ixV 0 de_int) da_nil)) (dg_name 3 sc__law_made.nd) (dss_one (ds_expr (de_append 2 (dv_call (ok__law_total T) (room.mono (by decide)) gd rfl T.f__law_total.g T.f__law_total.F.kp T.f__law_total.b (da_cons (de_dv (dv_lc [("amount", 4), ("method", 5)] rfl sc__law_made.nd (di_zipU rfl T.n_zip (da_cons (de_var 1) (da_cons (de_ixV 0 de_int) da_nil))) rfl (fun _ _ _ _ _ => (dg_tup 2 rfl (dgs_cons (dg_name 4 sc__law_made.nd) (dgs_cons (dg_name 5 sc__law_made.nd) dgs_nil)))) (fun _ _ _ _ _ => (dcs_one (dt_eq (hu64 room) (de_ixV 5 de_int) (de_var 3)))) (fun _ _ _ _ _ => (de_var 4)))) da_nil) (lenCons lenNil))))))
    (dss_one (ds_ret (dv_de (de_tuple rfl T.n_tuple (db_var 2)))))))
theorem ok__law_used (T : Txt K mg) : FnG P w K mg base 5 T.f__law_used.f T.f__law_used.fd ["book", "plan"] (spP K 2 m__law_used) := by
  refine fnP_ok (b := b__law_used) (N := ["book", "plan", "found", "good", "amount", "method"]) (n := 2) T.f__law_used.F sc__law_used rfl ?_
  intro cd A outer st H room gd
  unfold b__law_used
  exact (dss_cons (ds_set 2 sc__law_used.nd (dv_lst da_nil lenNil))
    (dss_cons (ds_for PassesOwn.never rfl (di_range1 rfl T.n_range (da_cons (de_ixV 0 de_int) da_nil)) (dg_name 3 sc__law_used.nd) (dss_one (ds_expr (de_append 2 (dv_call (ok__law_total T) (room.mono (by decide)) gd rfl T.f__law_total.g T.f__law_total.F.kp T.f__law_total.b (da_cons (de_dv (dv_lc [("amount", 4), ("method", 5)] rfl sc__law_used.nd (di_zipU rfl T.n_zip (da_cons (de_var 1) (da_cons (de_ixV 0 de_int) da_nil))) rfl (fun _ _ _ _ _ => (dg_tup 2 rfl (dgs_cons (dg_name 4 sc__law_used.nd) (dgs_cons (dg_name 5 sc__law_used.nd) dgs_nil)))) (fun _ _ _ _ _ => dcs_nil) (fun _ _ _ _ _ => (de_dv (dv_call (ok__law_times T) (room.mono (by decide)) gd rfl T.f__law_times.g T.f__law_times.F.kp T.f__law_times.b (da_cons (de_var 4) (da_cons (de_ix (de_ixV 5 de_int) (de_var 3)) da_nil)) (lenCons (lenCons lenNil))))))) da_nil) (lenCons lenNil))))))
    (dss_one (ds_ret (dv_de (de_tuple rfl T.n_tuple (db_var 2)))))))
theorem ok__law_work (T : Txt K mg) : FnG P w K mg base 5 T.f__law_work.f T.f__law_work.fd ["book", "plan"] (spP K 2 m__law_work) := by
  refine fnP_ok (b := b__law_work) (N := ["book", "plan", "amount", "method"]) (n := 2) T.f__law_work.F sc__law_work rfl ?_
  intro cd A outer st H room gd
  unfold b__law_work
  exact (dss_one (ds_ret (dv_call (ok__law_total T) (room.mono (by decide)) gd rfl T.f__law_total.g T.f__law_total.F.kp T.f__law_total.b (da_cons (de_dv (dv_lc [("amount", 2), ("method", 3)] rfl sc__law_work.nd (di_zipU rfl T.n_zip (da_cons (de_var 1) (da_cons (de_ixV 0 de_int) da_nil))) rfl (fun _ _ _ _ _ => (dg_tup 2 rfl (dgs_cons (dg_name 2 sc__law_work.nd) (dgs_cons (dg_name 3 sc__law_work.nd) dgs_nil)))) (fun _ _ _ _ _ => dcs_nil) (fun _ _ _ _ _ => (de_dv (dv_call (ok__law_times T) (room.mono (by decide)) gd rfl T.f__law_times.g T.f__law_times.F.kp T.f__law_times.b (da_cons (de_var 2) (da_cons (de_ixV 3 de_int) da_nil)) (lenCons (lenCons lenNil))))))) da_nil) (lenCons lenNil))))
theorem ok_is_book (T : Txt K mg) : FnG P w K mg base 6 T.f_is_book.f T.f_is_book.fd ["thing"] (spP K 1 m_is_book) := by
  refine fnP_ok (b := b_is_book) (N := ["thing", "method"]) (n := 1) T.f_is_book.F sc_is_book rfl ?_
  intro cd A outer st H room gd
  unfold b_is_book
  exact (dss_cons (ds_if (dt_w (dw_or (dt_not (dt_of (db_dv (dv_call (ok_is_sized T) (room.mono (by decide)) gd rfl T.f_is_sized.g T.f_is_sized.F.kp T.f_is_sized.b (da_cons (de_var 0) (da_cons de_int (da_cons de_int da_nil))) (lenCons (lenCons (lenCons lenNil))))))) (dw_or1 (dt_not (dt_of (db_dv (dv_call (ok_is_within T) (room.mono (by decide)) gd rfl T.f_is_within.g T.f_is_within.F.kp T.f_is_within.b (da_cons (de_ixV 0 de_int) (da_cons de_int (da_cons (de_glob rfl T.c_MOST_GOODS.1 T.c_MOST_GOODS.2.1 T.c_MOST_GOODS.2.2) da_nil))) (lenCons (lenCons (lenCons lenNil)))))))))) (dss_one (ds_ret (dv_de de_bl))) dss_nil)
    (dss_one (ds_ret (dv_de (de_and (de_dv (dv_call (ok_is_sized T) (room.mono (by decide)) gd rfl T.f_is_sized.g T.f_is_sized.F.kp T.f_is_sized.b (da_cons (de_ixV 0 de_int) (da_cons de_int (da_cons (de_glob rfl T.c_MOST_METHODS.1 T.c_MOST_METHODS.2.1 T.c_MOST_METHODS.2.2) da_nil))) (lenCons (lenCons (lenCons lenNil))))) (de_one (de_all rfl rfl T.n_all (db_dv (dv_lc [("method", 1)] rfl sc_is_book.nd (di_seq (de_ixV 0 de_int)) rfl (fun _ _ _ _ _ => (dg_name 1 sc_is_book.nd)) (fun _ _ _ _ _ => dcs_nil) (fun _ _ _ _ _ => (de_dv (dv_call (ok_is_method T) (room.mono (by decide)) gd rfl T.f_is_method.g T.f_is_method.F.kp T.f_is_method.b (da_cons (de_ixV 0 de_int) (da_cons (de_var 1) da_nil)) (lenCons (lenCons lenNil))))))))))))))
theorem ok_cost_of (T : Txt K mg) : FnG P w K mg base 6 T.f_cost_of.f T.f_cost_of.fd ["method", "prices", "factor"] (spP K 3 m_cost_of) := by
  refine fnP_ok (b := b_cost_of) (N := ["method", "prices", "factor"]) (n := 3) T.f_cost_of.F sc_cost_of rfl ?_
  intro cd A outer st H room gd
  unfold b_cost_of
  exact (dss_one (ds_ret (dv_call (ok_plus T) (room.mono (by decide)) gd rfl T.f_plus.g T.f_plus.F.kp T.f_plus.b (da_cons (de_dv (dv_call (ok_times T) (room.mono (by decide)) gd rfl T.f_times.g T.f_times.F.kp T.f_times.b (da_cons (de_var 2) (da_cons (de_dv (dv_call (ok_worth T) (room.mono (by decide)) gd rfl T.f_worth.g T.f_worth.F.kp T.f_worth.b (da_cons (de_ixV 0 de_int) (da_cons (de_var 1) da_nil)) (lenCons (lenCons lenNil)))) da_nil)) (lenCons (lenCons lenNil)))) (da_cons (de_ixV 0 de_int) da_nil)) (lenCons (lenCons lenNil)))))
theorem ok__law_book (T : Txt K mg) : FnG P w K mg base 6 T.f__law_book.f T.f__law_book.fd ["hand", "goods", "most"] (spI K 3 m__law_book) := by
  refine fnI_ok (b := b__law_book) (N := ["hand", "goods", "most", "many", "methods", "good"]) (n := 3) T.f__law_book.F sc__law_book rfl ?_
  intro cd A outer st H room gd
  unfold b__law_book
  exact (dss_cons (ds_set 3 sc__law_book.nd (dv_de (de_min2 rfl rfl T.n_min (da_cons de_int (da_cons (de_addA (de_var 1) (de_dv (dv_callI 0 (ok__law_draw T) (room.mono (by decide)) gd rfl T.f__law_draw.g T.f__law_draw.F.kp T.f__law_draw.b (da_cons (de_var 2) da_nil) (lenCons lenNil)))) da_nil)))))
    (dss_cons (ds_setLc 4 [("good", 5)] rfl sc__law_book.nd (di_range1 rfl T.n_range (da_cons (de_var 1) da_nil)) rfl (fun _ _ _ _ _ => (dg_name 5 sc__law_book.nd)) (fun _ _ _ _ _ => dcs_nil) (fun _ _ _ _ _ => (de_dv (dv_callI 0 (ok__law_method T) (room.mono (by decide)) gd rfl T.f__law_method.g T.f__law_method.F.kp T.f__law_method.b (da_cons (de_var 1) (da_cons (de_if (dt_gt (de_dv (dv_callI 0 (ok__law_draw T) (room.mono (by decide)) gd rfl T.f__law_draw.g T.f__law_draw.F.kp T.f__law_draw.b (da_cons de_int da_nil) (lenCons lenNil))) de_int) (de_var 5) de_int) da_nil)) (lenCons (lenCons lenNil))))) (sw_true rfl rfl rfl rfl))
    (dss_cons (ds_while PassesOwn.never (dt_lt (de_len rfl T.n_len (db_var 4)) (de_var 3)) (dss_one (ds_expr (de_ins 4 (da_cons (de_dv (dv_callI 0 (ok__law_draw T) (room.mono (by decide)) gd rfl T.f__law_draw.g T.f__law_draw.F.kp T.f__law_draw.b (da_cons (de_addA (de_len rfl T.n_len (db_var 4)) de_int) da_nil) (lenCons lenNil))) (da_cons (de_dv (dv_callI 0 (ok__law_method T) (room.mono (by decide)) gd rfl T.f__law_method.g T.f__law_method.F.kp T.f__law_method.b (da_cons (de_var 1) (da_cons (de_dv (dv_callI 0 (ok__law_draw T) (room.mono (by decide)) gd rfl T.f__law_draw.g T.f__law_draw.F.kp T.f__law_draw.b (da_cons (de_var 1) da_nil) (lenCons lenNil))) da_nil)) (lenCons (lenCons lenNil)))) da_nil))))))
    (dss_one (ds_ret (dv_de (de_tup (da_cons (de_var 1) (da_cons (de_tuple rfl T.n_tuple (db_var 4)) da_nil)) (lenCons (lenCons lenNil)))))))))
theorem ok__law_net (T : Txt K mg) : FnG P w K mg base 6 T.f__law_net.f T.f__law_net.fd ["book", "plan", "factor"] (spP K 3 m__law_net) := by
  refine fnP_ok (b := b__law_net) (N := ["book", "plan", "factor", "pairs", "one", "other"]) (n := 3) T.f__law_net.F sc__law_net rfl ?_
  intro cd A outer st H room gd
  unfold b__law_net
  exact (dss_cons (ds_set 3 sc__law_net.nd (dv_listZip rfl rfl T.n_list rfl T.n_zip (da_cons (de_dv (dv_call (ok__law_made T) (room.mono (by decide)) gd rfl T.f__law_made.g T.f__law_made.F.kp T.f__law_made.b (da_cons (de_var 0) (da_cons (de_var 1) da_nil)) (lenCons (lenCons lenNil)))) (da_cons (de_dv (dv_call (ok__law_used T) (room.mono (by decide)) gd rfl T.f__law_used.g T.f__law_used.F.kp T.f__law_used.b (da_cons (de_var 0) (da_cons (de_var 1) da_nil)) (lenCons (lenCons lenNil)))) da_nil))))
    (dss_one (ds_ret (dv_de (de_tuple rfl T.n_tuple (db_dv (dv_lc [("one", 4), ("other", 5)] rfl sc__law_net.nd (di_seq (de_var 3)) rfl (fun _ _ _ _ _ => (dg_tup 2 rfl (dgs_cons (dg_name 4 sc__law_net.nd) (dgs_cons (dg_name 5 sc__law_net.nd) dgs_nil)))) (fun _ _ _ _ _ => dcs_nil) (fun _ _ _ _ _ => (de_dv (dv_call (ok__law_minus T) (room.mono (by decide)) gd rfl T.f__law_minus.g T.f__law_minus.F.kp T.f__law_minus.b (da_cons (de_var 4) (da_cons (de_dv (dv_call (ok__law_times T) (room.mono (by decide)) gd rfl T.f__law_times.g T.f__law_times.F.kp T.f__law_times.b (da_cons (de_var 2) (da_cons (de_var 5) da_nil)) (lenCons (lenCons lenNil)))) da_nil)) (lenCons (lenCons lenNil))))))))))))
theorem ok_check_book (T : Txt K mg) : FnG P w K mg base 7 T.f_check_book.f T.f_check_book.fd ["thing"] (spP K 1 m_check_book) := by
  refine fnP_ok (b := b_check_book) (N := ["thing"]) (n := 1) T.f_check_book.F sc_check_book rfl ?_
  intro cd A outer st H room gd
  unfold b_check_book
  exact (dss_one (ds_if (dt_not (dt_of (db_dv (dv_call (ok_is_book T) (room.mono (by decide)) gd rfl T.f_is_book.g T.f_is_book.F.kp T.f_is_book.b (da_cons (de_var 0) da_nil) (lenCons lenNil))))) (dss_one ds_no) dss_nil))
theorem ok_is_plan (T : Txt K mg) : FnG P w K mg base 8 T.f_is_plan.f T.f_is_plan.fd ["book", "thing"] (spP K 2 m_is_plan) := by
  refine fnP_ok (b := b_is_plan) (N := ["book", "thing"]) (n := 2) T.f_is_plan.F sc_is_plan rfl ?_
  intro cd A outer st H room gd
  unfold b_is_plan
  exact (dss_cons (ds_expr (de_dv (dv_call (ok_check_book T) (room.mono (by decide)) gd rfl T.f_check_book.g T.f_check_book.F.kp T.f_check_book.b (da_cons (de_var 0) da_nil) (lenCons lenNil))))
    (dss_one (ds_ret (dv_call (ok_is_plan_of T) (room.mono (by decide)) gd rfl T.f_is_plan_of.g T.f_is_plan_of.F.kp T.f_is_plan_of.b (da_cons (de_var 0) (da_cons (de_var 1) da_nil)) (lenCons (lenCons lenNil))))))
theorem ok_check_plan (T : Txt K mg) : FnG P w K mg base 8 T.f_check_plan.f T.f_check_plan.fd ["book", "plan"] (spP K 2 m_check_plan) := by
  refine fnP_ok (b := b_check_plan) (N := ["book", "plan"]) (n := 2) T.f_check_plan.F sc_check_plan rfl ?_
  intro cd A outer st H room gd
  unfold b_check_plan
  exact (dss_cons (ds_expr (de_dv (dv_call (ok_check_book T) (room.mono (by decide)) gd rfl T.f_check_book.g T.f_check_book.F.kp T.f_check_book.b (da_cons (de_var 0) da_nil) (lenCons lenNil))))
    (dss_one (ds_if (dt_not (dt_of (db_dv (dv_call (ok_is_plan_of T) (room.mono (by decide)) gd rfl T.f_is_plan_of.g T.f_is_plan_of.F.kp T.f_is_plan_of.b (da_cons (de_var 0) (da_cons (de_var 1) da_nil)) (lenCons (lenCons lenNil)))))) (dss_one ds_no) dss_nil)))
theorem ok_cost (T : Txt K mg) : FnG P w K mg base 8 T.f_cost.f T.f_cost.fd ["book", "method", "prices", "factor"] (spP K 4 m_cost) := by
  refine fnP_ok (b := b_cost) (N := ["book", "method", "prices", "factor"]) (n := 4) T.f_cost.F sc_cost rfl ?_
  intro cd A outer st H room gd
  unfold b_cost
  exact (dss_cons (ds_expr (de_dv (dv_call (ok_check_book T) (room.mono (by decide)) gd rfl T.f_check_book.g T.f_check_book.F.kp T.f_check_book.b (da_cons (de_var 0) da_nil) (lenCons lenNil))))
    (dss_cons (ds_if (dt_not (dt_of (db_dv (dv_call (ok_is_method_number T) (room.mono (by decide)) gd rfl T.f_is_method_number.g T.f_is_method_number.F.kp T.f_is_method_number.b (da_cons (de_var 0) (da_cons (de_var 1) da_nil)) (lenCons (lenCons lenNil)))))) (dss_one ds_no) dss_nil)
    (dss_cons (ds_expr (de_dv (dv_call (ok_check_prices T) (room.mono (by decide)) gd rfl T.f_check_prices.g T.f_check_prices.F.kp T.f_check_prices.b (da_cons (de_var 0) (da_cons (de_var 2) da_nil)) (lenCons (lenCons lenNil)))))
    (dss_cons (ds_expr (de_dv (dv_call (ok_check_factor T) (room.mono (by decide)) gd rfl T.f_check_factor.g T.f_check_factor.F.kp T.f_check_factor.b (da_cons (de_var 3) da_nil) (lenCons lenNil))))
    (dss_one (ds_ret (dv_call (ok_cost_of T) (room.mono (by decide)) gd rfl T.f_cost_of.g T.f_cost_of.F.kp T.f_cost_of.b (da_cons (de_ix (de_ixV 0 de_int) (de_var 1)) (da_cons (de_var 2) (da_cons (de_var 3) da_nil))) (lenCons (lenCons (lenCons lenNil))))))))))
theorem okr__law_is (T : Txt K mg) : ∀ n : Nat, FnG P w K mg base (0 + n) T.f__law_is.f T.f__law_is.fd ["told", "due"] (spP K 2 (mr__law_is n))
  | 0 => FnG.none rfl
  | k + 1 => by
    have ih := okr__law_is T k
    refine fnP_ok (b := b__law_is (mr__law_is k)) (N := ["told", "due", "one", "two"]) (n := 2) T.f__law_is.F sc__law_is rfl ?_
    intro cd A outer st H room gd
    unfold b__law_is
    exact (dss_cons (ds_if (dt_of (db_de (de_isi2 (n := "tuple") (m := "list") rfl T.n_isinstance rfl T.n_tuple (by decide +kernel) rfl T.n_list (by decide +kernel) (de_var 1)))) (dss_cons (ds_if (dt_w (dw_or (dt_ne (hu64 room) (de_isi (n := "tuple") rfl T.n_isinstance rfl T.n_tuple (by decide +kernel) (de_var 0)) (de_isi (n := "tuple") rfl T.n_isinstance rfl T.n_tuple (by decide +kernel) (de_var 1))) (dw_or1 (dt_not (dt_of (db_de (de_isi2 (n := "tuple") (m := "list") rfl T.n_isinstance rfl T.n_tuple (by decide +kernel) rfl T.n_list (by decide +kernel) (de_var 0)))))))) (dss_one (ds_ret (dv_de de_bl))) dss_nil)
    (dss_one (ds_ret (dv_de (de_and (de_eq (hu64 room) (de_len rfl T.n_len (db_var 0)) (de_len rfl T.n_len (db_var 1))) (de_one (de_all rfl rfl T.n_all (db_dv (dv_lc [("one", 2), ("two", 3)] rfl sc__law_is.nd (di_zipU rfl T.n_zip (da_cons (de_var 0) (da_cons (de_var 1) da_nil))) rfl (fun _ _ _ _ _ => (dg_tup 2 rfl (dgs_cons (dg_name 2 sc__law_is.nd) (dgs_cons (dg_name 3 sc__law_is.nd) dgs_nil)))) (fun _ _ _ _ _ => dcs_nil) (fun _ _ _ _ _ => (de_dv (dv_call ih (room.mono (Nat.le_refl _)) gd rfl T.f__law_is.g T.f__law_is.F.kp T.f__law_is.b (da_cons (de_var 2) (da_cons (de_var 3) da_nil)) (lenCons (lenCons lenNil)))))))))))))) dss_nil)
    (dss_cons (ds_if (dt_w (dw_or (dt_ne (hu64 room) (de_isi (n := "bool") rfl T.n_isinstance rfl T.n_bool (by decide +kernel) (de_var 0)) (de_isi (n := "bool") rfl T.n_isinstance rfl T.n_bool (by decide +kernel) (de_var 1))) (dw_or1 (dt_ne (hu64 room) (de_isi (n := "int") rfl T.n_isinstance rfl T.n_int (by decide +kernel) (de_var 0)) (de_isi (n := "int") rfl T.n_isinstance rfl T.n_int (by decide +kernel) (de_var 1)))))) (dss_one (ds_ret (dv_de de_bl))) dss_nil)
    (dss_one (ds_ret (dv_de (de_eq (hu64 room) (de_var 0) (de_var 1)))))))
theorem ok__law_is (T : Txt K mg) : FnG P w K mg base 8 T.f__law_is.f T.f__law_is.fd ["told", "due"] (spP K 2 m__law_is) := okr__law_is T 8
theorem ok_made (T : Txt K mg) : FnG P w K mg base 9 T.f_made.f T.f_made.fd ["book", "plan"] (spP K 2 m_made) := by
  refine fnP_ok (b := b_made) (N := ["book", "plan"]) (n := 2) T.f_made.F sc_made rfl ?_
  intro cd A outer st H room gd
  unfold b_made
  exact (dss_cons (ds_expr (de_dv (dv_call (ok_check_plan T) (room.mono (by decide)) gd rfl T.f_check_plan.g T.f_check_plan.F.kp T.f_check_plan.b (da_cons (de_var 0) (da_cons (de_var 1) da_nil)) (lenCons (lenCons lenNil)))))
    (dss_one (ds_ret (dv_call (ok_made_by T) (room.mono (by decide)) gd rfl T.f_made_by.g T.f_made_by.F.kp T.f_made_by.b (da_cons (de_var 0) (da_cons (de_var 1) da_nil)) (lenCons (lenCons lenNil))))))
theorem ok_used (T : Txt K mg) : FnG P w K mg base 9 T.f_used.f T.f_used.fd ["book", "plan"] (spP K 2 m_used) := by
  refine fnP_ok (b := b_used) (N := ["book", "plan"]) (n := 2) T.f_used.F sc_used rfl ?_
  intro cd A outer st H room gd
  unfold b_used
  exact (dss_cons (ds_expr (de_dv (dv_call (ok_check_plan T) (room.mono (by decide)) gd rfl T.f_check_plan.g T.f_check_plan.F.kp T.f_check_plan.b (da_cons (de_var 0) (da_cons (de_var 1) da_nil)) (lenCons (lenCons lenNil)))))
    (dss_one (ds_ret (dv_call (ok_used_by T) (room.mono (by decide)) gd rfl T.f_used_by.g T.f_used_by.F.kp T.f_used_by.b (da_cons (de_var 0) (da_cons (de_var 1) da_nil)) (lenCons (lenCons lenNil))))))
theorem ok_net (T : Txt K mg) : FnG P w K mg base 9 T.f_net.f T.f_net.fd ["book", "plan", "factor"] (spP K 3 m_net) := by
  refine fnP_ok (b := b_net) (N := ["book", "plan", "factor"]) (n := 3) T.f_net.F sc_net rfl ?_
  intro cd A outer st H room gd
  unfold b_net
  exact (dss_cons (ds_expr (de_dv (dv_call (ok_check_plan T) (room.mono (by decide)) gd rfl T.f_check_plan.g T.f_check_plan.F.kp T.f_check_plan.b (da_cons (de_var 0) (da_cons (de_var 1) da_nil)) (lenCons (lenCons lenNil)))))
    (dss_cons (ds_expr (de_dv (dv_call (ok_check_factor T) (room.mono (by decide)) gd rfl T.f_check_factor.g T.f_check_factor.F.kp T.f_check_factor.b (da_cons (de_var 2) da_nil) (lenCons lenNil))))
    (dss_one (ds_ret (dv_call (ok_net_of T) (room.mono (by decide)) gd rfl T.f_net_of.g T.f_net_of.F.kp T.f_net_of.b (da_cons (de_var 0) (da_cons (de_var 1) (da_cons (de_var 2) da_nil))) (lenCons (lenCons (lenCons lenNil))))))))
theorem ok_work_of (T : Txt K mg) : FnG P w K mg base 9 T.f_work_of.f T.f_work_of.fd ["book", "plan"] (spP K 2 m_work_of) := by
  refine fnP_ok (b := b_work_of) (N := ["book", "plan"]) (n := 2) T.f_work_of.F sc_work_of rfl ?_
  intro cd A outer st H room gd
  unfold b_work_of
  exact (dss_cons (ds_expr (de_dv (dv_call (ok_check_plan T) (room.mono (by decide)) gd rfl T.f_check_plan.g T.f_check_plan.F.kp T.f_check_plan.b (da_cons (de_var 0) (da_cons (de_var 1) da_nil)) (lenCons (lenCons lenNil)))))
    (dss_one (ds_ret (dv_call (ok_work_in T) (room.mono (by decide)) gd rfl T.f_work_in.g T.f_work_in.F.kp T.f_work_in.b (da_cons (de_var 0) (da_cons (de_var 1) da_nil)) (lenCons (lenCons lenNil))))))
theorem ok__law_right (T : Txt K mg) : FnG P w K mg base 10 T.f__law_right.f T.f__law_right.fd ["book", "plan", "factor"] (spP K 3 m__law_right) := by
  refine fnP_ok (b := b__law_right) (N := ["book", "plan", "factor", "told", "due"]) (n := 3) T.f__law_right.F sc__law_right rfl ?_
  intro cd A outer st H room gd
  unfold b__law_right
  exact (dss_cons (ds_set 3 sc__law_right.nd (dv_lst (da_cons (de_dv (dv_call (ok_made T) (room.mono (by decide)) gd rfl T.f_made.g T.f_made.F.kp T.f_made.b (da_cons (de_var 0) (da_cons (de_var 1) da_nil)) (lenCons (lenCons lenNil)))) (da_cons (de_dv (dv_call (ok_used T) (room.mono (by decide)) gd rfl T.f_used.g T.f_used.F.kp T.f_used.b (da_cons (de_var 0) (da_cons (de_var 1) da_nil)) (lenCons (lenCons lenNil)))) (da_cons (de_dv (dv_call (ok_net T) (room.mono (by decide)) gd rfl T.f_net.g T.f_net.F.kp T.f_net.b (da_cons (de_var 0) (da_cons (de_var 1) (da_cons (de_var 2) da_nil))) (lenCons (lenCons (lenCons lenNil))))) (da_cons (de_dv (dv_call (ok_work_of T) (room.mono (by decide)) gd rfl T.f_work_of.g T.f_work_of.F.kp T.f_work_of.b (da_cons (de_var 0) (da_cons (de_var 1) da_nil)) (lenCons (lenCons lenNil)))) da_nil)))) (lenCons (lenCons (lenCons (lenCons lenNil))))))
    (dss_cons (ds_set 4 sc__law_right.nd (dv_lst (da_cons (de_dv (dv_call (ok__law_made T) (room.mono (by decide)) gd rfl T.f__law_made.g T.f__law_made.F.kp T.f__law_made.b (da_cons (de_var 0) (da_cons (de_var 1) da_nil)) (lenCons (lenCons lenNil)))) (da_cons (de_dv (dv_call (ok__law_used T) (room.mono (by decide)) gd rfl T.f__law_used.g T.f__law_used.F.kp T.f__law_used.b (da_cons (de_var 0) (da_cons (de_var 1) da_nil)) (lenCons (lenCons lenNil)))) (da_cons (de_dv (dv_call (ok__law_net T) (room.mono (by decide)) gd rfl T.f__law_net.g T.f__law_net.F.kp T.f__law_net.b (da_cons (de_var 0) (da_cons (de_var 1) (da_cons (de_var 2) da_nil))) (lenCons (lenCons (lenCons lenNil))))) (da_cons (de_dv (dv_call (ok__law_work T) (room.mono (by decide)) gd rfl T.f__law_work.g T.f__law_work.F.kp T.f__law_work.b (da_cons (de_var 0) (da_cons (de_var 1) da_nil)) (lenCons (lenCons lenNil)))) da_nil)))) (lenCons (lenCons (lenCons (lenCons lenNil))))))
    (dss_one (ds_ret (dv_de (de_and (de_dv (dv_call (ok__law_is T) (room.mono (by decide)) gd rfl T.f__law_is.g T.f__law_is.F.kp T.f__law_is.b (da_cons (de_var 3) (da_cons (de_var 4) da_nil)) (lenCons (lenCons lenNil)))) (de_and (de_isBl (de_dv (dv_call (ok_is_book T) (room.mono (by decide)) gd rfl T.f_is_book.g T.f_is_book.F.kp T.f_is_book.b (da_cons (de_var 0) da_nil) (lenCons lenNil))) de_bl) (de_one (de_isBl (de_dv (dv_call (ok_is_plan T) (room.mono (by decide)) gd rfl T.f_is_plan.g T.f_is_plan.F.kp T.f_is_plan.b (da_cons (de_var 0) (da_cons (de_var 1) da_nil)) (lenCons (lenCons lenNil)))) de_bl)))))))))
theorem ok__law_together_right (T : Txt K mg) : FnG P w K mg base 10 T.f__law_together_right.f T.f__law_together_right.fd ["book", "one", "other", "factor", "times_v"] (spP K 5 m__law_together_right) := by
  refine fnP_ok (b := b__law_together_right) (N := ["book", "one", "other", "factor", "times_v", "both", "more", "first", "second", "left", "a", "b"]) (n := 5) T.f__law_together_right.F sc__law_together_right rfl ?_
  intro cd A outer st H room gd
  unfold b__law_together_right
  exact (dss_cons (ds_set 5 sc__law_together_right.nd (dv_de (de_tuple rfl T.n_tuple (db_dv (dv_lc [("a", 10), ("b", 11)] rfl sc__law_together_right.nd (di_zipU rfl T.n_zip (da_cons (de_var 1) (da_cons (de_var 2) da_nil))) rfl (fun _ _ _ _ _ => (dg_tup 2 rfl (dgs_cons (dg_name 10 sc__law_together_right.nd) (dgs_cons (dg_name 11 sc__law_together_right.nd) dgs_nil)))) (fun _ _ _ _ _ => dcs_nil) (fun _ _ _ _ _ => (de_dv (dv_call (ok__law_plus T) (room.mono (by decide)) gd rfl T.f__law_plus.g T.f__law_plus.F.kp T.f__law_plus.b (da_cons (de_var 10) (da_cons (de_var 11) da_nil)) (lenCons (lenCons lenNil))))))))))
    (dss_cons (ds_set 6 sc__law_together_right.nd (dv_de (de_tuple rfl T.n_tuple (db_dv (dv_lc [("a", 10)] rfl sc__law_together_right.nd (di_seq (de_var 1)) rfl (fun _ _ _ _ _ => (dg_name 10 sc__law_together_right.nd)) (fun _ _ _ _ _ => dcs_nil) (fun _ _ _ _ _ => (de_dv (dv_call (ok__law_times T) (room.mono (by decide)) gd rfl T.f__law_times.g T.f__law_times.F.kp T.f__law_times.b (da_cons (de_var 4) (da_cons (de_var 10) da_nil)) (lenCons (lenCons lenNil))))))))))
    (dss_cons (ds_par3 7 8 9 rfl sc__law_together_right.nd (da_cons (de_dv (dv_call (ok_net T) (room.mono (by decide)) gd rfl T.f_net.g T.f_net.F.kp T.f_net.b (da_cons (de_var 0) (da_cons (de_var 1) (da_cons (de_var 3) da_nil))) (lenCons (lenCons (lenCons lenNil))))) (da_cons (de_dv (dv_call (ok_net T) (room.mono (by decide)) gd rfl T.f_net.g T.f_net.F.kp T.f_net.b (da_cons (de_var 0) (da_cons (de_var 2) (da_cons (de_var 3) da_nil))) (lenCons (lenCons (lenCons lenNil))))) (da_cons (de_dv (dv_call (ok_net T) (room.mono (by decide)) gd rfl T.f_net.g T.f_net.F.kp T.f_net.b (da_cons (de_var 0) (da_cons (de_var 5) (da_cons (de_var 3) da_nil))) (lenCons (lenCons (lenCons lenNil))))) da_nil))))
    (dss_cons (ds_if (dt_ne (hu64 room) (de_var 9) (de_tuple rfl T.n_tuple (db_dv (dv_lc [("a", 10), ("b", 11)] rfl sc__law_together_right.nd (di_zipU rfl T.n_zip (da_cons (de_var 7) (da_cons (de_var 8) da_nil))) rfl (fun _ _ _ _ _ => (dg_tup 2 rfl (dgs_cons (dg_name 10 sc__law_together_right.nd) (dgs_cons (dg_name 11 sc__law_together_right.nd) dgs_nil)))) (fun _ _ _ _ _ => dcs_nil) (fun _ _ _ _ _ => (de_dv (dv_call (ok__law_plus T) (room.mono (by decide)) gd rfl T.f__law_plus.g T.f__law_plus.F.kp T.f__law_plus.b (da_cons (de_var 10) (da_cons (de_var 11) da_nil)) (lenCons (lenCons lenNil))))))))) (dss_one (ds_ret (dv_de de_bl))) dss_nil)
    (dss_cons (ds_if (dt_ne (hu64 room) (de_dv (dv_call (ok_net T) (room.mono (by decide)) gd rfl T.f_net.g T.f_net.F.kp T.f_net.b (da_cons (de_var 0) (da_cons (de_var 6) (da_cons (de_var 3) da_nil))) (lenCons (lenCons (lenCons lenNil))))) (de_tuple rfl T.n_tuple (db_dv (dv_lc [("a", 10)] rfl sc__law_together_right.nd (di_seq (de_var 7)) rfl (fun _ _ _ _ _ => (dg_name 10 sc__law_together_right.nd)) (fun _ _ _ _ _ => dcs_nil) (fun _ _ _ _ _ => (de_dv (dv_call (ok__law_times T) (room.mono (by decide)) gd rfl T.f__law_times.g T.f__law_times.F.kp T.f__law_times.b (da_cons (de_var 4) (da_cons (de_var 10) da_nil)) (lenCons (lenCons lenNil))))))))) (dss_one (ds_ret (dv_de de_bl))) dss_nil)
    (dss_one (ds_ret (dv_de (de_eq (hu64 room) (de_dv (dv_call (ok_work_of T) (room.mono (by decide)) gd rfl T.f_work_of.g T.f_work_of.F.kp T.f_work_of.b (da_cons (de_var 0) (da_cons (de_var 5) da_nil)) (lenCons (lenCons lenNil)))) (de_dv (dv_call (ok__law_plus T) (room.mono (by decide)) gd rfl T.f__law_plus.g T.f__law_plus.F.kp T.f__law_plus.b (da_cons (de_dv (dv_call (ok_work_of T) (room.mono (by decide)) gd rfl T.f_work_of.g T.f_work_of.F.kp T.f_work_of.b (da_cons (de_var 0) (da_cons (de_var 1) da_nil)) (lenCons (lenCons lenNil)))) (da_cons (de_dv (dv_call (ok_work_of T) (room.mono (by decide)) gd rfl T.f_work_of.g T.f_work_of.F.kp T.f_work_of.b (da_cons (de_var 0) (da_cons (de_var 2) da_nil)) (lenCons (lenCons lenNil)))) da_nil)) (lenCons (lenCons lenNil)))))))))))))
theorem ok__law_worth_right (T : Txt K mg) : FnG P w K mg base 10 T.f__law_worth_right.f T.f__law_worth_right.fd ["book", "plan", "prices", "factor"] (spP K 4 m__law_worth_right) := by
  refine fnP_ok (b := b__law_worth_right) (N := ["book", "plan", "prices", "factor", "worth_v", "earned", "number", "method", "gain", "price", "amount"]) (n := 4) T.f__law_worth_right.F sc__law_worth_right rfl ?_
  intro cd A outer st H room gd
  unfold b__law_worth_right
  exact (dss_cons (ds_set 4 sc__law_worth_right.nd (dv_call (ok__law_total T) (room.mono (by decide)) gd rfl T.f__law_total.g T.f__law_total.F.kp T.f__law_total.b (da_cons (de_dv (dv_lc [("price", 9), ("amount", 10)] rfl sc__law_worth_right.nd (di_zipU rfl T.n_zip (da_cons (de_var 2) (da_cons (de_dv (dv_call (ok_net T) (room.mono (by decide)) gd rfl T.f_net.g T.f_net.F.kp T.f_net.b (da_cons (de_var 0) (da_cons (de_var 1) (da_cons (de_var 3) da_nil))) (lenCons (lenCons (lenCons lenNil))))) da_nil))) rfl (fun _ _ _ _ _ => (dg_tup 2 rfl (dgs_cons (dg_name 9 sc__law_worth_right.nd) (dgs_cons (dg_name 10 sc__law_worth_right.nd) dgs_nil)))) (fun _ _ _ _ _ => dcs_nil) (fun _ _ _ _ _ => (de_dv (dv_call (ok__law_times T) (room.mono (by decide)) gd rfl T.f__law_times.g T.f__law_times.F.kp T.f__law_times.b (da_cons (de_var 9) (da_cons (de_var 10) da_nil)) (lenCons (lenCons lenNil))))))) da_nil) (lenCons lenNil)))
    (dss_cons (ds_set 5 sc__law_worth_right.nd (dv_lst da_nil lenNil))
    (dss_cons (ds_for PassesOwn.never rfl (di_enum rfl T.n_enumerate (da_cons (de_ixV 0 de_int) da_nil)) (dg_tup 2 rfl (dgs_cons (dg_name 6 sc__law_worth_right.nd) (dgs_cons (dg_name 7 sc__law_worth_right.nd) dgs_nil))) (dss_cons (ds_set 8 sc__law_worth_right.nd (dv_call (ok__law_minus T) (room.mono (by decide)) gd rfl T.f__law_minus.g T.f__law_minus.F.kp T.f__law_minus.b (da_cons (de_ixV 2 (de_ixV 7 de_int)) (da_cons (de_dv (dv_call (ok_cost T) (room.mono (by decide)) gd rfl T.f_cost.g T.f_cost.F.kp T.f_cost.b (da_cons (de_var 0) (da_cons (de_var 6) (da_cons (de_var 2) (da_cons (de_var 3) da_nil)))) (lenCons (lenCons (lenCons (lenCons lenNil)))))) da_nil)) (lenCons (lenCons lenNil))))
    (dss_one (ds_expr (de_append 5 (dv_call (ok__law_times T) (room.mono (by decide)) gd rfl T.f__law_times.g T.f__law_times.F.kp T.f__law_times.b (da_cons (de_ixV 1 (de_var 6)) (da_cons (de_dv (dv_call (ok__law_plus T) (room.mono (by decide)) gd rfl T.f__law_plus.g T.f__law_plus.F.kp T.f__law_plus.b (da_cons (de_var 8) (da_cons (de_ixV 7 de_int) da_nil)) (lenCons (lenCons lenNil)))) da_nil)) (lenCons (lenCons lenNil))))))))
    (dss_one (ds_ret (dv_de (de_eq (hu64 room) (de_var 4) (de_dv (dv_call (ok__law_total T) (room.mono (by decide)) gd rfl T.f__law_total.g T.f__law_total.F.kp T.f__law_total.b (da_cons (de_var 5) da_nil) (lenCons lenNil))))))))))
theorem ok_law (T : Txt K mg) : FnG P w K mg base 11 T.f_law.f T.f_law.fd ["script"] (spP K 1 m_law) := by
  refine fnP_ok (b := b_law) (N := ["script", "hand", "turn", "goods", "book", "plans", "factor", "prices", "more", "again", "plan"]) (n := 1) T.f_law.F sc_law rfl ?_
  intro cd A outer st H room gd
  unfold b_law
  exact (dss_cons (ds_set 1 sc_law.nd (dv_call (ok__law_hand T) (room.mono (by decide)) gd rfl T.f__law_hand.g T.f__law_hand.F.kp T.f__law_hand.b (da_cons (de_var 0) da_nil) (lenCons lenNil)))
    (dss_cons (ds_for PassesOwn.never rfl (di_range1 rfl T.n_range (da_cons de_int da_nil)) (dg_name 2 sc_law.nd) (dss_cons (ds_set 3 sc_law.nd (dv_de (de_addA de_int (de_dv (dv_callI 1 (ok__law_draw T) (room.mono (by decide)) gd rfl T.f__law_draw.g T.f__law_draw.F.kp T.f__law_draw.b (da_cons de_int da_nil) (lenCons lenNil))))))
    (dss_cons (ds_set 4 sc_law.nd (dv_callI 1 (ok__law_book T) (room.mono (by decide)) gd rfl T.f__law_book.g T.f__law_book.F.kp T.f__law_book.b (da_cons (de_var 3) (da_cons (de_ix (de_dv (dv_lst (da_cons de_int (da_cons de_int (da_cons de_int da_nil))) (lenCons (lenCons (lenCons lenNil))))) (de_dv (dv_callI 1 (ok__law_draw T) (room.mono (by decide)) gd rfl T.f__law_draw.g T.f__law_draw.F.kp T.f__law_draw.b (da_cons de_int da_nil) (lenCons lenNil)))) da_nil)) (lenCons (lenCons lenNil))))
    (dss_cons (ds_setLc 5 [("again", 9)] rfl sc_law.nd (di_range1 rfl T.n_range (da_cons de_int da_nil)) rfl (fun _ _ _ _ _ => (dg_name 9 sc_law.nd)) (fun _ _ _ _ _ => dcs_nil) (fun _ _ _ _ _ => (de_dv (dv_callI 1 (ok__law_row T) (room.mono (by decide)) gd rfl T.f__law_row.g T.f__law_row.F.kp T.f__law_row.b (da_cons (de_len rfl T.n_len (db_de (de_ixV 4 de_int))) da_nil) (lenCons lenNil)))) (sw_true rfl rfl rfl rfl))
    (dss_cons (ds_parC 6 7 rfl sc_law.nd (dv_callI 1 (ok__law_factor T) (room.mono (by decide)) gd rfl T.f__law_factor.g T.f__law_factor.F.kp T.f__law_factor.b da_nil lenNil) (dv_callI 1 (ok__law_row T) (room.mono (by decide)) gd rfl T.f__law_row.g T.f__law_row.F.kp T.f__law_row.b (da_cons (de_var 3) da_nil) (lenCons lenNil)))
    (dss_cons (ds_if (dt_not (dt_of (db_de (de_all rfl rfl T.n_all (db_dv (dv_lc [("plan", 10)] rfl sc_law.nd (di_seq (de_var 5)) rfl (fun _ _ _ _ _ => (dg_name 10 sc_law.nd)) (fun _ _ _ _ _ => dcs_nil) (fun _ _ _ _ _ => (de_dv (dv_call (ok__law_right T) (room.mono (by decide)) gd rfl T.f__law_right.g T.f__law_right.F.kp T.f__law_right.b (da_cons (de_var 4) (da_cons (de_var 10) (da_cons (de_var 6) da_nil))) (lenCons (lenCons (lenCons lenNil)))))))))))) (dss_one (ds_ret (dv_de de_bl))) dss_nil)
    (dss_cons (ds_if (dt_not (dt_of (db_dv (dv_call (ok__law_together_right T) (room.mono (by decide)) gd rfl T.f__law_together_right.g T.f__law_together_right.F.kp T.f__law_together_right.b (da_cons (de_var 4) (da_cons (de_ixV 5 de_int) (da_cons (de_ixV 5 de_int) (da_cons (de_var 6) (da_cons (de_dv (dv_callI 1 (ok__law_amount T) (room.mono (by decide)) gd rfl T.f__law_amount.g T.f__law_amount.F.kp T.f__law_amount.b da_nil lenNil)) da_nil))))) (lenCons (lenCons (lenCons (lenCons (lenCons lenNil))))))))) (dss_one (ds_ret (dv_de de_bl))) dss_nil)
    (dss_cons (ds_if (dt_not (dt_of (db_dv (dv_call (ok__law_worth_right T) (room.mono (by decide)) gd rfl T.f__law_worth_right.g T.f__law_worth_right.F.kp T.f__law_worth_right.b (da_cons (de_var 4) (da_cons (de_ixV 5 de_int) (da_cons (de_var 7) (da_cons (de_var 6) da_nil)))) (lenCons (lenCons (lenCons (lenCons lenNil)))))))) (dss_one (ds_ret (dv_de de_bl))) dss_nil)
    (dss_one (ds_if (dt_lt (de_len rfl T.n_len (db_de (de_ixV 4 de_int))) de_int) (dss_cons (ds_set 8 sc_law.nd (dv_de (de_tup (da_cons (de_var 3) (da_cons (de_addA (de_ixV 4 de_int) (de_tup (da_cons (de_dv (dv_callI 1 (ok__law_method T) (room.mono (by decide)) gd rfl T.f__law_method.g T.f__law_method.F.kp T.f__law_method.b (da_cons (de_var 3) (da_cons (de_dv (dv_callI 1 (ok__law_draw T) (room.mono (by decide)) gd rfl T.f__law_draw.g T.f__law_draw.F.kp T.f__law_draw.b (da_cons (de_var 3) da_nil) (lenCons lenNil))) da_nil)) (lenCons (lenCons lenNil)))) da_nil) (lenCons lenNil))) da_nil)) (lenCons (lenCons lenNil)))))
    (dss_one (ds_if (dt_ne (hu64 room) (de_dv (dv_call (ok_net T) (room.mono (by decide)) gd rfl T.f_net.g T.f_net.F.kp T.f_net.b (da_cons (de_var 8) (da_cons (de_addA (de_ixV 5 de_int) (de_tup (da_cons (de_tup (da_cons de_int (da_cons de_int da_nil)) (lenCons (lenCons lenNil))) da_nil) (lenCons lenNil))) (da_cons (de_var 6) da_nil))) (lenCons (lenCons (lenCons lenNil))))) (de_dv (dv_call (ok_net T) (room.mono (by decide)) gd rfl T.f_net.g T.f_net.F.kp T.f_net.b (da_cons (de_var 4) (da_cons (de_ixV 5 de_int) (da_cons (de_var 6) da_nil))) (lenCons (lenCons (lenCons lenNil)))))) (dss_one (ds_ret (dv_de de_bl))) dss_nil))) dss_nil))))))))))
    (dss_one (ds_ret (dv_de de_bl)))))
end
end K03
set_option Elab.async false
set_option linter.all false
set_option maxRecDepth 100000
namespace K03
open PySem Dl

theorem gcd_fmod (a b : Int) : Int.gcd b (a.fmod b) = Int.gcd a b := by
  rw [Int.fmod_def, Int.gcd_sub_mul_left_right, Int.gcd_comm]
theorem fmod_lt (a b : Int) (h : b ≠ 0) : (a.fmod b).natAbs < b.natAbs := by
  rcases Int.lt_or_gt_of_ne h with h | h
  · have e : a.fmod b = -((-a).fmod (-b)) := by rw [Int.neg_fmod_neg]; omega
    have h1 := Int.fmod_nonneg_of_pos (-a) (b := -b) (by omega)
    have h2 := Int.fmod_lt_of_pos (-a) (b := -b) (by omega)
    omega
  · have h1 := Int.fmod_nonneg_of_pos a h
    have h2 := Int.fmod_lt_of_pos a h
    omega
theorem common_loop : ∀ (n : Nat) (a b : Int), b.natAbs ≤ n → ∃ c : Int, c.natAbs = Int.gcd a b ∧
    sWhile (tOf (eBin neD (eVar 1) (eC (.int 0)))) (sPar 0 1 (vE (eVar 1)) (vE (eBin modD (eVar 0) (eVar 1)))) [.v (.int a), .v (.int b)] = some (.nx [.v (.int c), .v (.int 0)]) := by
  intro n
  induction n with
  | zero =>
    intro a b h
    have : b = 0 := by omega
    subst this
    refine ⟨a, by simp, sWhile_stop ?_⟩
    simp [fnP, runG, sSeq, sIf, sNil, sRet, sRetV, sSet, setOut, sPar, parOut, sEx, eVar, bVar, eC, eV, dat, vE, eBin, eUn, eTup, vLst, aCons, aNil, eIxV, slD, atD, L2.atI, L2.ixN, eCall, tOf, truD, Dl.tAndT, Dl.tOrT, Dl.tNotT, eAnd, eOr, eIf, notD, eChain, addA_int, subD, negD, absD, lenD, Dl.intD, tupD, cmpD, eqD_ii, neD_ii, eqD_ss, neD_ss, isi_ii, isi_ib, isi_is, isi_it, isi_tt, isi_ti, isi_ts, isi_ss, isi_si, isi_st]
  | succ n ih =>
    intro a b h
    by_cases hb : b = 0
    · subst hb
      refine ⟨a, by simp, sWhile_stop ?_⟩
      simp [fnP, runG, sSeq, sIf, sNil, sRet, sRetV, sSet, setOut, sPar, parOut, sEx, eVar, bVar, eC, eV, dat, vE, eBin, eUn, eTup, vLst, aCons, aNil, eIxV, slD, atD, L2.atI, L2.ixN, eCall, tOf, truD, Dl.tAndT, Dl.tOrT, Dl.tNotT, eAnd, eOr, eIf, notD, eChain, addA_int, subD, negD, absD, lenD, Dl.intD, tupD, cmpD, eqD_ii, neD_ii, eqD_ss, neD_ss, isi_ii, isi_ib, isi_is, isi_it, isi_tt, isi_ti, isi_ts, isi_ss, isi_si, isi_st]
    · have := fmod_lt a b hb
      obtain ⟨c, h1, h2⟩ := ih b (a.fmod b) (by omega)
      refine ⟨c, by rw [h1, gcd_fmod], ?_⟩
      refine sWhile_nx (g1 := [.v (.int a), .v (.int b)]) ?_ ?_ h2
      · simp [fnP, runG, sSeq, sIf, sNil, sRet, sRetV, sSet, setOut, sPar, parOut, sEx, eVar, bVar, eC, eV, dat, vE, eBin, eUn, eTup, vLst, aCons, aNil, eIxV, slD, atD, L2.atI, L2.ixN, eCall, tOf, truD, Dl.tAndT, Dl.tOrT, Dl.tNotT, eAnd, eOr, eIf, notD, eChain, addA_int, subD, negD, absD, lenD, Dl.intD, tupD, cmpD, eqD_ii, neD_ii, eqD_ss, neD_ss, isi_ii, isi_ib, isi_is, isi_it, isi_tt, isi_ti, isi_ts, isi_ss, isi_si, isi_st, hb]
      · simp [fnP, runG, sSeq, sIf, sNil, sRet, sRetV, sSet, setOut, sPar, parOut, sEx, eVar, bVar, eC, eV, dat, vE, eBin, eUn, eTup, vLst, aCons, aNil, eIxV, slD, atD, L2.atI, L2.ixN, eCall, tOf, truD, Dl.tAndT, Dl.tOrT, Dl.tNotT, eAnd, eOr, eIf, notD, eChain, addA_int, subD, negD, absD, lenD, Dl.intD, tupD, cmpD, eqD_ii, neD_ii, eqD_ss, neD_ss, isi_ii, isi_ib, isi_is, isi_it, isi_tt, isi_ti, isi_ts, isi_ss, isi_si, isi_st, modD, hb]
theorem common_ok (a b : Int) : m_common [.int a, .int b] = some (.v (.int (Int.gcd a b))) := by
  obtain ⟨c, h1, h2⟩ := common_loop _ a b (Nat.le_refl _)
  unfold m_common b_common
  simp [fnP, runG, sSeq, sIf, sNil, sRet, sRetV, sSet, setOut, sPar, parOut, sEx, eVar, bVar, eC, eV, dat, vE, eBin, eUn, eTup, vLst, aCons, aNil, eIxV, slD, atD, L2.atI, L2.ixN, eCall, tOf, truD, Dl.tAndT, Dl.tOrT, Dl.tNotT, eAnd, eOr, eIf, notD, eChain, addA_int, subD, negD, absD, lenD, Dl.intD, tupD, cmpD, eqD_ii, neD_ii, eqD_ss, neD_ss, isi_ii, isi_ib, isi_is, isi_it, isi_tt, isi_ti, isi_ts, isi_ss, isi_si, isi_st, h2]
  omega
theorem gcd_loop : ∀ (n : Nat) (a b : Int), b.natAbs ≤ n → ∃ c : Int, c.natAbs = Int.gcd a b ∧
    sWhile (tOf (eBin neD (eVar 1) (eC (.int 0)))) (sPar 0 1 (vE (eVar 1)) (vE (eBin modD (eUn intD (bVar 0)) (eVar 1)))) [.v (.int a), .v (.int b)] = some (.nx [.v (.int c), .v (.int 0)]) := by
  intro n
  induction n with
  | zero =>
    intro a b h
    have : b = 0 := by omega
    subst this
    refine ⟨a, by simp, sWhile_stop ?_⟩
    simp [fnP, runG, sSeq, sIf, sNil, sRet, sRetV, sSet, setOut, sPar, parOut, sEx, eVar, bVar, eC, eV, dat, vE, eBin, eUn, eTup, vLst, aCons, aNil, eIxV, slD, atD, L2.atI, L2.ixN, eCall, tOf, truD, Dl.tAndT, Dl.tOrT, Dl.tNotT, eAnd, eOr, eIf, notD, eChain, addA_int, subD, negD, absD, lenD, Dl.intD, tupD, cmpD, eqD_ii, neD_ii, eqD_ss, neD_ss, isi_ii, isi_ib, isi_is, isi_it, isi_tt, isi_ti, isi_ts, isi_ss, isi_si, isi_st]
  | succ n ih =>
    intro a b h
    by_cases hb : b = 0
    · subst hb
      refine ⟨a, by simp, sWhile_stop ?_⟩
      simp [fnP, runG, sSeq, sIf, sNil, sRet, sRetV, sSet, setOut, sPar, parOut, sEx, eVar, bVar, eC, eV, dat, vE, eBin, eUn, eTup, vLst, aCons, aNil, eIxV, slD, atD, L2.atI, L2.ixN, eCall, tOf, truD, Dl.tAndT, Dl.tOrT, Dl.tNotT, eAnd, eOr, eIf, notD, eChain, addA_int, subD, negD, absD, lenD, Dl.intD, tupD, cmpD, eqD_ii, neD_ii, eqD_ss, neD_ss, isi_ii, isi_ib, isi_is, isi_it, isi_tt, isi_ti, isi_ts, isi_ss, isi_si, isi_st]
    · have := fmod_lt a b hb
      obtain ⟨c, h1, h2⟩ := ih b (a.fmod b) (by omega)
      refine ⟨c, by rw [h1, gcd_fmod], ?_⟩
      refine sWhile_nx (g1 := [.v (.int a), .v (.int b)]) ?_ ?_ h2
      · simp [fnP, runG, sSeq, sIf, sNil, sRet, sRetV, sSet, setOut, sPar, parOut, sEx, eVar, bVar, eC, eV, dat, vE, eBin, eUn, eTup, vLst, aCons, aNil, eIxV, slD, atD, L2.atI, L2.ixN, eCall, tOf, truD, Dl.tAndT, Dl.tOrT, Dl.tNotT, eAnd, eOr, eIf, notD, eChain, addA_int, subD, negD, absD, lenD, Dl.intD, tupD, cmpD, eqD_ii, neD_ii, eqD_ss, neD_ss, isi_ii, isi_ib, isi_is, isi_it, isi_tt, isi_ti, isi_ts, isi_ss, isi_si, isi_st, hb]
      · simp [fnP, runG, sSeq, sIf, sNil, sRet, sRetV, sSet, setOut, sPar, parOut, sEx, eVar, bVar, eC, eV, dat, vE, eBin, eUn, eTup, vLst, aCons, aNil, eIxV, slD, atD, L2.atI, L2.ixN, eCall, tOf, truD, Dl.tAndT, Dl.tOrT, Dl.tNotT, eAnd, eOr, eIf, notD, eChain, addA_int, subD, negD, absD, lenD, Dl.intD, tupD, cmpD, eqD_ii, neD_ii, eqD_ss, neD_ss, isi_ii, isi_ib, isi_is, isi_it, isi_tt, isi_ti, isi_ts, isi_ss, isi_si, isi_st, modD, hb]
theorem law_gcd_ok (a b : Int) : m__law_gcd [.int a, .int b] = some (.v (.int (Int.gcd a b))) := by
  obtain ⟨c, h1, h2⟩ := gcd_loop _ a b (Nat.le_refl _)
  unfold m__law_gcd b__law_gcd
  simp [fnP, runG, sSeq, sIf, sNil, sRet, sRetV, sSet, setOut, sPar, parOut, sEx, eVar, bVar, eC, eV, dat, vE, eBin, eUn, eTup, vLst, aCons, aNil, eIxV, slD, atD, L2.atI, L2.ixN, eCall, tOf, truD, Dl.tAndT, Dl.tOrT, Dl.tNotT, eAnd, eOr, eIf, notD, eChain, addA_int, subD, negD, absD, lenD, Dl.intD, tupD, cmpD, eqD_ii, neD_ii, eqD_ss, neD_ss, isi_ii, isi_ib, isi_is, isi_it, isi_tt, isi_ti, isi_ts, isi_ss, isi_si, isi_st, h2]
  omega
/-! ### shares as rationals -/
def qD (r : Rat) : D := .tuple [.int r.num, .int r.den]
theorem fdiv_gcd {a b : Int} (hb : 0 < b) : a.fdiv (Int.gcd a b) = (Rat.divInt a b).num ∧ b.fdiv (Int.gcd a b) = (Rat.divInt a b).den := by
  have h1 : (0 : Int) ≤ (Int.gcd a b : Nat) := by omega
  rw [Int.fdiv_eq_ediv_of_nonneg _ h1, Int.fdiv_eq_ediv_of_nonneg _ h1, Rat.num_divInt, Rat.den_divInt]
  have h2 : b ≠ 0 := by omega
  rw [if_neg h2, Int.sign_eq_one_of_pos hb, Int.one_mul, Int.gcd_comm a b]
  refine ⟨rfl, ?_⟩
  rw [Int.natCast_ediv]
  have : (b.natAbs : Int) = b := by omega
  rw [this]
theorem gcd_okD {a b : Int} (hb : 0 < b) (hB : Int.gcd a b < 2 ^ 8900) : DivOk (Int.gcd a b) = true := by
  have h2 : 0 < Int.gcd a b := Int.gcd_pos_of_ne_zero_right _ (by omega)
  have h3 := log_lt (k := 8900) (by decide) hB
  unfold DivOk
  simp
  omega
theorem frac_ok {a b : Int} (hb : 0 < b) (hB : Int.gcd a b < 2 ^ 8900) : m__law_frac [.int a, .int b] = some (.v (qD (Rat.divInt a b))) := by
  obtain ⟨k1, k2⟩ := fdiv_gcd (a := a) hb
  have k3 := gcd_okD (a := a) hb hB
  unfold m__law_frac b__law_frac
  simp [fnP, runG, sSeq, sIf, sNil, sRet, sRetV, sSet, setOut, sPar, parOut, sEx, eVar, bVar, eC, eV, dat, vE, eBin, eUn, eTup, vLst, aCons, aNil, eIxV, slD, atD, L2.atI, L2.ixN, eCall, tOf, truD, Dl.tAndT, Dl.tOrT, Dl.tNotT, eAnd, eOr, eIf, notD, eChain, addA_int, subD, negD, absD, lenD, Dl.intD, tupD, cmpD, eqD_ii, neD_ii, eqD_ss, neD_ss, isi_ii, isi_ib, isi_is, isi_it, isi_tt, isi_ti, isi_ts, isi_ss, isi_si, isi_st, law_gcd_ok, hb, fdivD, k3, k1, k2, qD, gtD_ii]
theorem share_ok {a b : Int} (hb : 0 < b) (hB : Int.gcd a b < 2 ^ 8900) : m_share [.int a, .int b] = some (.v (qD (Rat.divInt a b))) := by
  obtain ⟨k1, k2⟩ := fdiv_gcd (a := a) hb
  have k3 := gcd_okD (a := a) hb hB
  have hb2 : ¬ b < 0 := by omega
  unfold m_share b_share
  simp [fnP, runG, sSeq, sIf, sNil, sRet, sRetV, sSet, setOut, sPar, parOut, sEx, eVar, bVar, eC, eV, dat, vE, eBin, eUn, eTup, vLst, aCons, aNil, eIxV, slD, atD, L2.atI, L2.ixN, eCall, tOf, truD, Dl.tAndT, Dl.tOrT, Dl.tNotT, eAnd, eOr, eIf, notD, eChain, addA_int, subD, negD, absD, lenD, Dl.intD, tupD, cmpD, eqD_ii, neD_ii, eqD_ss, neD_ss, isi_ii, isi_ib, isi_is, isi_it, isi_tt, isi_ti, isi_ts, isi_ss, isi_si, isi_st, common_ok, hb2, fdivD, k3, k1, k2, qD]

/-! ### how great a common part can be -/
theorem red (r : Rat) : Int.gcd r.num (r.den : Int) = 1 := by
  have := r.reduced
  simpa [Int.gcd] using this
theorem gcd_le_den (a : Int) {b : Int} (hb : 0 < b) : Int.gcd a b ≤ b.natAbs := Nat.le_of_dvd (by omega) (by rw [← Int.natAbs_natCast (Int.gcd a b)]; exact Int.natAbs_dvd_natAbs.mpr (Int.gcd_dvd_right ..))
theorem add_gcd (r s : Rat) : Int.gcd (r.num * (s.den : Int) + s.num * (r.den : Int)) ((r.den : Int) * (s.den : Int)) ≤ s.den * s.den := by
  obtain ⟨g, hg⟩ : ∃ g, g = Int.gcd (r.num * (s.den : Int) + s.num * (r.den : Int)) ((r.den : Int) * (s.den : Int)) := ⟨_, rfl⟩
  have g1 : (g : Int) ∣ r.num * (s.den : Int) + s.num * (r.den : Int) := by rw [hg]; exact Int.gcd_dvd_left ..
  have g2 : (g : Int) ∣ (r.den : Int) * (s.den : Int) := by rw [hg]; exact Int.gcd_dvd_right ..
  rw [← hg]
  have e1 : (g : Int) ∣ r.num * ((s.den : Int) * (s.den : Int)) := by
    have h1 := Int.dvd_sub (Int.dvd_mul_of_dvd_right (b := (s.den : Int)) g1) (Int.dvd_mul_of_dvd_right (b := s.num) g2)
    have e : (s.den : Int) * (r.num * (s.den : Int) + s.num * (r.den : Int)) - s.num * ((r.den : Int) * (s.den : Int)) = r.num * ((s.den : Int) * (s.den : Int)) := by grind
    rw [e] at h1
    exact h1
  have e2 : (g : Int) ∣ (r.den : Int) * ((s.den : Int) * (s.den : Int)) := by
    have h1 := Int.dvd_mul_of_dvd_right (b := (s.den : Int)) g2
    have e : (s.den : Int) * ((r.den : Int) * (s.den : Int)) = (r.den : Int) * ((s.den : Int) * (s.den : Int)) := by grind
    rw [e] at h1
    exact h1
  have e3 : g ∣ Int.gcd (r.num * ((s.den : Int) * (s.den : Int))) ((r.den : Int) * ((s.den : Int) * (s.den : Int))) := Int.dvd_gcd e1 e2
  rw [Int.gcd_mul_right, red, Nat.one_mul, Int.natAbs_mul, Int.natAbs_natCast] at e3
  exact Nat.le_of_dvd (Nat.mul_pos s.den_pos s.den_pos) e3
end K03
set_option Elab.async false
set_option linter.all false
set_option maxRecDepth 100000
namespace K03
open PySem Dl

structure B0 (k : Nat) (r : Rat) : Prop where
  num : r.num.natAbs < 2 ^ k
  den : r.den < 2 ^ k
theorem mul_rat (r s : Rat) : Rat.divInt (r.num * s.num) ((r.den : Int) * (s.den : Int)) = r * s := by
  rw [Rat.mul_def', ← Int.natCast_mul, Rat.divInt_ofNat]
theorem add_rat (r s : Rat) : Rat.divInt (r.num * (s.den : Int) + s.num * (r.den : Int)) ((r.den : Int) * (s.den : Int)) = r + s := by
  rw [Rat.add_def', ← Int.natCast_mul, Rat.divInt_ofNat]
theorem add_rat' (r s : Rat) (h : r.den = s.den) : Rat.divInt (r.num + s.num) (r.den : Int) = r + s := by
  have hd : (r.den : Int) ≠ 0 := by have := r.den_pos; omega
  rw [← add_rat, ← h, ← Int.add_mul, Rat.divInt_mul_right hd]
theorem natAbs_lt {n m : Nat} (h : n < m) : ((n : Nat) : Int).natAbs < m := by rw [Int.natAbs_natCast]; exact h
theorem lt_mul2 {a b c d : Nat} (h1 : a < 2 ^ c) (h2 : b < 2 ^ d) : a * b < 2 ^ (c + d) := by
  rw [Nat.pow_add]
  exact Nat.mul_lt_mul'' h1 h2
theorem B0.add {j k : Nat} {r s : Rat} (hr : B0 j r) (hs : B0 k s) : B0 (j + k + 1) (r + s) := by
  have hrd := r.den_pos
  have hsd := s.den_pos
  rw [← add_rat]
  have hb : 0 < (r.den : Int) * (s.den : Int) := Int.mul_pos (by omega) (by omega)
  have h1 := lt_mul2 hr.num hs.den
  have h2 := lt_mul2 hs.num hr.den
  have h4 := lt_mul2 hr.den hs.den
  rw [Nat.add_comm k j] at h2
  have h3 := Int.natAbs_add_le (r.num * (s.den : Int)) (s.num * (r.den : Int))
  rw [Int.natAbs_mul, Int.natAbs_mul] at h3
  simp only [Int.natAbs_natCast] at h3
  refine ⟨?_, ?_⟩
  · rw [Rat.num_divInt, Int.sign_eq_one_of_pos hb, Int.one_mul, Nat.pow_succ]
    have := Int.natAbs_ediv_le_natAbs (r.num * (s.den : Int) + s.num * (r.den : Int)) ((Int.gcd ((r.den : Int) * (s.den : Int)) (r.num * (s.den : Int) + s.num * (r.den : Int)) : Nat) : Int)
    omega
  · rw [Rat.den_divInt, if_neg (by omega), Nat.pow_succ]
    have := Nat.div_le_self ((r.den : Int) * (s.den : Int)).natAbs (Int.gcd ((r.den : Int) * (s.den : Int)) (r.num * (s.den : Int) + s.num * (r.den : Int)))
    rw [Int.natAbs_mul, Int.natAbs_natCast, Int.natAbs_natCast] at this
    rw [Int.natAbs_mul, Int.natAbs_natCast, Int.natAbs_natCast]
    omega
theorem B0.mono {j k : Nat} {r : Rat} (h : B0 j r) (e : j ≤ k) : B0 k r := by
  have := Nat.pow_le_pow_right (n := 2) (by decide) e
  exact ⟨by have := h.num; omega, by have := h.den; omega⟩
theorem divInt_b0 {a b : Int} {k : Nat} (hb : 0 < b) (h1 : a.natAbs < 2 ^ k) (h2 : b.natAbs < 2 ^ k) : B0 k (Rat.divInt a b) := by
  refine ⟨?_, ?_⟩
  · rw [Rat.num_divInt, Int.sign_eq_one_of_pos hb, Int.one_mul]
    have := Int.natAbs_ediv_le_natAbs a ((Int.gcd b a : Nat) : Int)
    omega
  · rw [Rat.den_divInt, if_neg (by omega)]
    exact Nat.lt_of_le_of_lt (Nat.div_le_self ..) h2
theorem B0.mul {j k : Nat} {r s : Rat} (hr : B0 j r) (hs : B0 k s) : B0 (j + k) (r * s) := by
  rw [← mul_rat]
  refine divInt_b0 (Int.mul_pos (by have := r.den_pos; omega) (by have := s.den_pos; omega)) ?_ ?_
  · rw [Int.natAbs_mul]; exact lt_mul2 hr.num hs.num
  · rw [Int.natAbs_mul]; exact lt_mul2 (natAbs_lt hr.den) (natAbs_lt hs.den)
theorem B0.neg {k : Nat} {r : Rat} (h : B0 k r) : B0 k (-r) := ⟨by rw [Rat.neg_num, Int.natAbs_neg]; exact h.num, by rw [Rat.neg_den]; exact h.den⟩
theorem b0_zero {k : Nat} (hk : 1 ≤ k) : B0 k 0 := B0.mono (j := 1) ⟨by decide, by decide⟩ hk

/-! ### the program's and the law's fractions -/
theorem mulOk_of {j k : Nat} {a b : Int} (hj : 0 < j) (hk : 0 < k) (h1 : a.natAbs < 2 ^ j) (h2 : b.natAbs < 2 ^ k) (h : j + k ≤ 1000000) : Dl.MulOk a b = true := by
  have := log_lt hj h1
  have := log_lt hk h2
  unfold Dl.MulOk
  simp only [Bool.or_eq_true, decide_eq_true_eq]
  left; left
  omega
theorem sq_lt {d k n : Nat} (h : d < 2 ^ k) (e : k + k ≤ n) : d * d < 2 ^ n := Nat.lt_of_lt_of_le (lt_mul2 h h) (Nat.pow_le_pow_right (by decide) e)
section
variable {r s : Rat} (hr : B0 400000 r) (hs : B0 4400 s)
include hr hs
theorem gAdd : Int.gcd (r.num * (s.den : Int) + s.num * (r.den : Int)) ((r.den : Int) * (s.den : Int)) < 2 ^ 8900 := Nat.lt_of_le_of_lt (add_gcd r s) (sq_lt hs.den (by decide))
theorem law_plus_ok : m__law_plus [qD r, qD s] = some (.v (qD (r + s))) := by
  have k1 := mulOk_of (a := r.num) (b := (s.den : Int)) (by decide) (by decide) hr.num (natAbs_lt hs.den) (by decide)
  have k2 := mulOk_of (a := s.num) (b := (r.den : Int)) (by decide) (by decide) hs.num (natAbs_lt hr.den) (by decide)
  have k3 := mulOk_of (a := (r.den : Int)) (b := (s.den : Int)) (by decide) (by decide) (natAbs_lt hr.den) (natAbs_lt hs.den) (by decide)
  have k4 := frac_ok (a := r.num * (s.den : Int) + s.num * (r.den : Int)) (Int.mul_pos (by have := r.den_pos; omega) (by have := s.den_pos; omega)) (gAdd hr hs)
  rw [add_rat] at k4
  unfold m__law_plus b__law_plus qD
  simp [fnP, runG, sSeq, sIf, sNil, sRet, sRetV, sSet, setOut, sPar, parOut, sEx, eVar, bVar, eC, eV, dat, vE, eBin, eUn, eTup, vLst, aCons, aNil, eIxV, slD, atD, L2.atI, L2.ixN, eCall, tOf, truD, Dl.tAndT, Dl.tOrT, Dl.tNotT, eAnd, eOr, eIf, notD, eChain, addA_int, subD, negD, absD, lenD, Dl.intD, tupD, cmpD, eqD_ii, neD_ii, eqD_ss, neD_ss, isi_ii, isi_ib, isi_is, isi_it, isi_tt, isi_ti, isi_ts, isi_ss, isi_si, isi_st, mulD, k1, k2, k3, k4]
  rfl
theorem plus_ok : m_plus [qD r, qD s] = some (.v (qD (r + s))) := by
  have k1 := mulOk_of (a := r.num) (b := (s.den : Int)) (by decide) (by decide) hr.num (natAbs_lt hs.den) (by decide)
  have k2 := mulOk_of (a := s.num) (b := (r.den : Int)) (by decide) (by decide) hs.num (natAbs_lt hr.den) (by decide)
  have k3 := mulOk_of (a := (r.den : Int)) (b := (s.den : Int)) (by decide) (by decide) (natAbs_lt hr.den) (natAbs_lt hs.den) (by decide)
  have k4 := share_ok (a := r.num * (s.den : Int) + s.num * (r.den : Int)) (Int.mul_pos (by have := r.den_pos; omega) (by have := s.den_pos; omega)) (gAdd hr hs)
  rw [add_rat] at k4
  by_cases h : r.den = s.den
  · have k5 := share_ok (a := r.num + s.num) (b := (r.den : Int)) (by have := r.den_pos; omega) (by
      have h0 := hs.den
      rw [← h] at h0
      have h1 := gcd_le_den (r.num + s.num) (b := (r.den : Int)) (by have := r.den_pos; omega)
      have : (2:Nat) ^ 4400 ≤ 2 ^ 8900 := Nat.pow_le_pow_right (by decide) (by decide)
      rw [Int.natAbs_natCast] at h1
      omega)
    rw [add_rat' _ _ h] at k5
    unfold m_plus b_plus qD
    have h' : (r.den : Int) = (s.den : Int) := by omega
    rw [h'] at k5
    rw [h']
    simp [fnP, runG, sSeq, sIf, sNil, sRet, sRetV, sSet, setOut, sPar, parOut, sEx, eVar, bVar, eC, eV, dat, vE, eBin, eUn, eTup, vLst, aCons, aNil, eIxV, slD, atD, L2.atI, L2.ixN, eCall, tOf, truD, Dl.tAndT, Dl.tOrT, Dl.tNotT, eAnd, eOr, eIf, notD, eChain, addA_int, subD, negD, absD, lenD, Dl.intD, tupD, cmpD, eqD_ii, neD_ii, eqD_ss, neD_ss, isi_ii, isi_ib, isi_is, isi_it, isi_tt, isi_ti, isi_ts, isi_ss, isi_si, isi_st, mulD, k5]
    rfl
  · have h' : ¬ (r.den : Int) = (s.den : Int) := by omega
    unfold m_plus b_plus qD
    simp [fnP, runG, sSeq, sIf, sNil, sRet, sRetV, sSet, setOut, sPar, parOut, sEx, eVar, bVar, eC, eV, dat, vE, eBin, eUn, eTup, vLst, aCons, aNil, eIxV, slD, atD, L2.atI, L2.ixN, eCall, tOf, truD, Dl.tAndT, Dl.tOrT, Dl.tNotT, eAnd, eOr, eIf, notD, eChain, addA_int, subD, negD, absD, lenD, Dl.intD, tupD, cmpD, eqD_ii, neD_ii, eqD_ss, neD_ss, isi_ii, isi_ib, isi_is, isi_it, isi_tt, isi_ti, isi_ts, isi_ss, isi_si, isi_st, mulD, h, h', k1, k2, k3, k4]
    rfl
end
section
variable {r s : Rat} (hr : B0 4400 r) (hs : B0 4400 s)
include hr hs
theorem gMul : Int.gcd (r.num * s.num) ((r.den : Int) * (s.den : Int)) < 2 ^ 8900 := by
  have h1 := gcd_le_den (r.num * s.num) (b := (r.den : Int) * (s.den : Int)) (Int.mul_pos (by have := r.den_pos; omega) (by have := s.den_pos; omega))
  rw [Int.natAbs_mul] at h1
  exact Nat.lt_of_le_of_lt h1 (Nat.lt_of_lt_of_le (lt_mul2 (natAbs_lt hr.den) (natAbs_lt hs.den)) (Nat.pow_le_pow_right (by decide) (by decide)))
theorem law_times_ok : m__law_times [qD r, qD s] = some (.v (qD (r * s))) := by
  have k1 := mulOk_of (by decide) (by decide) hr.num hs.num (by decide)
  have k2 := mulOk_of (a := (r.den : Int)) (b := (s.den : Int)) (by decide) (by decide) (natAbs_lt hr.den) (natAbs_lt hs.den) (by decide)
  have k3 := frac_ok (a := r.num * s.num) (Int.mul_pos (by have := r.den_pos; omega) (by have := s.den_pos; omega)) (gMul hr hs)
  rw [mul_rat] at k3
  unfold m__law_times b__law_times qD
  simp [fnP, runG, sSeq, sIf, sNil, sRet, sRetV, sSet, setOut, sPar, parOut, sEx, eVar, bVar, eC, eV, dat, vE, eBin, eUn, eTup, vLst, aCons, aNil, eIxV, slD, atD, L2.atI, L2.ixN, eCall, tOf, truD, Dl.tAndT, Dl.tOrT, Dl.tNotT, eAnd, eOr, eIf, notD, eChain, addA_int, subD, negD, absD, lenD, Dl.intD, tupD, cmpD, eqD_ii, neD_ii, eqD_ss, neD_ss, isi_ii, isi_ib, isi_is, isi_it, isi_tt, isi_ti, isi_ts, isi_ss, isi_si, isi_st, mulD, k1, k2, k3]
  rfl
theorem times_ok : m_times [qD r, qD s] = some (.v (qD (r * s))) := by
  have k1 := mulOk_of (by decide) (by decide) hr.num hs.num (by decide)
  have k2 := mulOk_of (a := (r.den : Int)) (b := (s.den : Int)) (by decide) (by decide) (natAbs_lt hr.den) (natAbs_lt hs.den) (by decide)
  have k3 := share_ok (a := r.num * s.num) (Int.mul_pos (by have := r.den_pos; omega) (by have := s.den_pos; omega)) (gMul hr hs)
  rw [mul_rat] at k3
  unfold m_times b_times qD
  simp [fnP, runG, sSeq, sIf, sNil, sRet, sRetV, sSet, setOut, sPar, parOut, sEx, eVar, bVar, eC, eV, dat, vE, eBin, eUn, eTup, vLst, aCons, aNil, eIxV, slD, atD, L2.atI, L2.ixN, eCall, tOf, truD, Dl.tAndT, Dl.tOrT, Dl.tNotT, eAnd, eOr, eIf, notD, eChain, addA_int, subD, negD, absD, lenD, Dl.intD, tupD, cmpD, eqD_ii, neD_ii, eqD_ss, neD_ss, isi_ii, isi_ib, isi_is, isi_it, isi_tt, isi_ti, isi_ts, isi_ss, isi_si, isi_st, mulD, k1, k2, k3]
  rfl
end
section
variable {r s : Rat} (hr : B0 400000 r) (hs : B0 4400 s)
include hr hs
theorem minus_ok : m_minus [qD r, qD s] = some (.v (qD (r - s))) := by
  have k1 := plus_ok hr hs.neg
  rw [← Rat.sub_eq_add_neg] at k1
  have e : qD (-s) = .tuple [.int (-s.num), .int s.den] := by unfold qD; rw [Rat.neg_num, Rat.neg_den]
  rw [e] at k1
  unfold m_minus b_minus
  unfold qD at k1 ⊢
  simp [fnP, runG, sSeq, sIf, sNil, sRet, sRetV, sSet, setOut, sPar, parOut, sEx, eVar, bVar, eC, eV, dat, vE, eBin, eUn, eTup, vLst, aCons, aNil, eIxV, slD, atD, L2.atI, L2.ixN, eCall, tOf, truD, Dl.tAndT, Dl.tOrT, Dl.tNotT, eAnd, eOr, eIf, notD, eChain, addA_int, subD, negD, absD, lenD, Dl.intD, tupD, cmpD, eqD_ii, neD_ii, eqD_ss, neD_ss, isi_ii, isi_ib, isi_is, isi_it, isi_tt, isi_ti, isi_ts, isi_ss, isi_si, isi_st, k1]
theorem law_minus_ok : m__law_minus [qD r, qD s] = some (.v (qD (r - s))) := by
  have k1 := mulOk_of (a := r.num) (b := (s.den : Int)) (by decide) (by decide) hr.num (natAbs_lt hs.den) (by decide)
  have k2 := mulOk_of (a := s.num) (b := (r.den : Int)) (by decide) (by decide) hs.num (natAbs_lt hr.den) (by decide)
  have k3 := mulOk_of (a := (r.den : Int)) (b := (s.den : Int)) (by decide) (by decide) (natAbs_lt hr.den) (natAbs_lt hs.den) (by decide)
  have hg := gAdd hr hs.neg
  have k4 := frac_ok (a := r.num * ((-s).den : Int) + (-s).num * (r.den : Int)) (b := (r.den : Int) * ((-s).den : Int)) (Int.mul_pos (by have := r.den_pos; omega) (by have := (-s).den_pos; omega)) hg
  rw [add_rat, ← Rat.sub_eq_add_neg, Rat.neg_num, Rat.neg_den] at k4
  have e : r.num * (s.den : Int) + -s.num * (r.den : Int) = r.num * (s.den : Int) - s.num * (r.den : Int) := by rw [Int.neg_mul]; omega
  rw [e] at k4
  unfold m__law_minus b__law_minus qD
  simp [fnP, runG, sSeq, sIf, sNil, sRet, sRetV, sSet, setOut, sPar, parOut, sEx, eVar, bVar, eC, eV, dat, vE, eBin, eUn, eTup, vLst, aCons, aNil, eIxV, slD, atD, L2.atI, L2.ixN, eCall, tOf, truD, Dl.tAndT, Dl.tOrT, Dl.tNotT, eAnd, eOr, eIf, notD, eChain, addA_int, subD, negD, absD, lenD, Dl.intD, tupD, cmpD, eqD_ii, neD_ii, eqD_ss, neD_ss, isi_ii, isi_ib, isi_is, isi_it, isi_tt, isi_ti, isi_ts, isi_ss, isi_si, isi_st, mulD, k1, k2, k3, k4]
  rfl
end
end K03
set_option Elab.async false
set_option linter.all false
set_option maxRecDepth 100000
namespace K03
open PySem Dl

/-! ### the program's looks at its arguments -/
structure Am (k : Nat) (r : Rat) : Prop where
  b : B0 k r
  nn : 0 ≤ r.num
def AmL (k : Nat) (l : List Rat) : Prop := ∀ r ∈ l, Am k r
theorem Am.mono {j k : Nat} {r : Rat} (h : Am j r) (e : j ≤ k) : Am k r := ⟨h.b.mono e, h.nn⟩
def rowD (l : List Rat) : D := .tuple (l.map qD)
structure Me where
  good : Nat
  uses : List Rat
  work : Rat
def meD (m : Me) : D := .tuple [.int m.good, rowD m.uses, qD m.work]
def mesD (ms : List Me) : D := .tuple (ms.map meD)
def bookD (n : Nat) (ms : List Me) : D := .tuple [.int n, mesD ms]
structure MeOk (n : Nat) (m : Me) : Prop where
  good : m.good < n
  len : m.uses.length = n
  uses : AmL 60 m.uses
  work : Am 60 m.work
structure BookOk (n : Nat) (ms : List Me) : Prop where
  lo : 1 ≤ n
  hi : n ≤ 6
  mlo : 1 ≤ ms.length
  mhi : ms.length ≤ 20
  ok : ∀ m ∈ ms, MeOk n m
structure PlanOk (k : Nat) (ms : List Me) (pl : List Rat) : Prop where
  len : pl.length = ms.length
  am : AmL k pl
theorem is_integer_ok (i : Int) : m_is_integer [.int i] = some (.v (.bool true)) := by
  unfold m_is_integer b_is_integer
  simp [fnP, runG, sSeq, sIf, sNil, sRet, sRetV, sSet, setOut, sPar, parOut, sEx, eVar, bVar, eC, eV, dat, vE, eBin, eUn, eTup, vLst, aCons, aNil, eIxV, slD, atD, L2.atI, L2.ixN, eCall, tOf, truD, Dl.tAndT, Dl.tOrT, Dl.tNotT, eAnd, eOr, eIf, notD, eChain, addA_int, subD, negD, absD, lenD, Dl.intD, tupD, cmpD, eqD_ii, neD_ii, eqD_ss, neD_ss, isi_ii, isi_ib, isi_is, isi_it, isi_tt, isi_ti, isi_ts, isi_ss, isi_si, isi_st]
theorem is_within_ok (i lo hi : Int) (h1 : lo ≤ i) (h2 : i ≤ hi) : m_is_within [.int i, .int lo, .int hi] = some (.v (.bool true)) := by
  unfold m_is_within b_is_within
  simp [fnP, runG, sSeq, sIf, sNil, sRet, sRetV, sSet, setOut, sPar, parOut, sEx, eVar, bVar, eC, eV, dat, vE, eBin, eUn, eTup, vLst, aCons, aNil, eIxV, slD, atD, L2.atI, L2.ixN, eCall, tOf, truD, Dl.tAndT, Dl.tOrT, Dl.tNotT, eAnd, eOr, eIf, notD, eChain, addA_int, subD, negD, absD, lenD, Dl.intD, tupD, cmpD, eqD_ii, neD_ii, eqD_ss, neD_ss, isi_ii, isi_ib, isi_is, isi_it, isi_tt, isi_ti, isi_ts, isi_ss, isi_si, isi_st, is_integer_ok, leD_ii, h1, h2]
theorem is_sized_ok (l : List D) (lo hi : Int) (h1 : lo ≤ (l.length : Nat)) (h2 : ((l.length : Nat) : Int) ≤ hi) : m_is_sized [.tuple l, .int lo, .int hi] = some (.v (.bool true)) := by
  unfold m_is_sized b_is_sized
  simp [fnP, runG, sSeq, sIf, sNil, sRet, sRetV, sSet, setOut, sPar, parOut, sEx, eVar, bVar, eC, eV, dat, vE, eBin, eUn, eTup, vLst, aCons, aNil, eIxV, slD, atD, L2.atI, L2.ixN, eCall, tOf, truD, Dl.tAndT, Dl.tOrT, Dl.tNotT, eAnd, eOr, eIf, notD, eChain, addA_int, subD, negD, absD, lenD, Dl.intD, tupD, cmpD, eqD_ii, neD_ii, eqD_ss, neD_ss, isi_ii, isi_ib, isi_is, isi_it, isi_tt, isi_ti, isi_ts, isi_ss, isi_si, isi_st, h1, h2]
theorem is_share_ok (r : Rat) : m_is_share [qD r] = some (.v (.bool true)) := by
  have h1 := is_sized_ok [.int r.num, .int (r.den : Int)] 2 2 (by simp) (by simp)
  have h2 := common_ok r.num (r.den : Int)
  have h3 : 0 < r.den := r.den_pos
  rw [red] at h2
  unfold m_is_share b_is_share qD
  simp [fnP, runG, sSeq, sIf, sNil, sRet, sRetV, sSet, setOut, sPar, parOut, sEx, eVar, bVar, eC, eV, dat, vE, eBin, eUn, eTup, vLst, aCons, aNil, eIxV, slD, atD, L2.atI, L2.ixN, eCall, tOf, truD, Dl.tAndT, Dl.tOrT, Dl.tNotT, eAnd, eOr, eIf, notD, eChain, addA_int, subD, negD, absD, lenD, Dl.intD, tupD, cmpD, eqD_ii, neD_ii, eqD_ss, neD_ss, isi_ii, isi_ib, isi_is, isi_it, isi_tt, isi_ti, isi_ts, isi_ss, isi_si, isi_st, h1, h2, is_integer_ok, h3]
theorem is_amount_ok {k : Nat} {r : Rat} (h : Am k r) : m_is_amount [qD r] = some (.v (.bool true)) := by
  have h1 := is_share_ok r
  have h2 := h.nn
  unfold qD at h1
  unfold m_is_amount b_is_amount qD
  simp [fnP, runG, sSeq, sIf, sNil, sRet, sRetV, sSet, setOut, sPar, parOut, sEx, eVar, bVar, eC, eV, dat, vE, eBin, eUn, eTup, vLst, aCons, aNil, eIxV, slD, atD, L2.atI, L2.ixN, eCall, tOf, truD, Dl.tAndT, Dl.tOrT, Dl.tNotT, eAnd, eOr, eIf, notD, eChain, addA_int, subD, negD, absD, lenD, Dl.intD, tupD, cmpD, eqD_ii, neD_ii, eqD_ss, neD_ss, isi_ii, isi_ib, isi_is, isi_it, isi_tt, isi_ti, isi_ts, isi_ss, isi_si, isi_st, h1, h2]
theorem are_amounts_ok {l : List Rat} {k n : Nat} (h : AmL k l) (hn : l.length = n) (hl : n ≤ 1000) : m_are_amounts [rowD l, .int n] = some (.v (.bool true)) := by
  have h1 := is_sized_ok (l.map qD) n n (by simp [hn]) (by simp [hn])
  have h2 := vLc_map (fi := iSeq (eVar 0)) (t := gVar 2) (c := cYes) (f := eV (eCall m_is_amount (aCons (eVar 2) aNil))) (vs := [2]) (g := [.v (rowD l), .v (.int n), .no]) (g0 := [.v (rowD l), .v (.int n), .no]) (xs := l) qD (fun _ => .bool true)
    (by simp [iSeq, fnP, runG, sSeq, sIf, sNil, sRet, sRetV, sSet, setOut, sPar, parOut, sEx, eVar, bVar, eC, eV, dat, vE, eBin, eUn, eTup, vLst, aCons, aNil, eIxV, slD, atD, L2.atI, L2.ixN, eCall, tOf, truD, Dl.tAndT, Dl.tOrT, Dl.tNotT, eAnd, eOr, eIf, notD, eChain, addA_int, subD, negD, absD, lenD, Dl.intD, tupD, cmpD, eqD_ii, neD_ii, eqD_ss, neD_ss, isi_ii, isi_ib, isi_is, isi_it, isi_tt, isi_ti, isi_ts, isi_ss, isi_si, isi_st, rowD, seqD]) (by simp [okW]) (by omega) (fun x hx => by
      have := is_amount_ok (h x hx)
      exact ⟨[.v (rowD l), .v (.int n), .v (qD x)], [.v (rowD l), .v (.int n), .v (qD x)], rfl, rfl, by simp [fnP, runG, sSeq, sIf, sNil, sRet, sRetV, sSet, setOut, sPar, parOut, sEx, eVar, bVar, eC, eV, dat, vE, eBin, eUn, eTup, vLst, aCons, aNil, eIxV, slD, atD, L2.atI, L2.ixN, eCall, tOf, truD, Dl.tAndT, Dl.tOrT, Dl.tNotT, eAnd, eOr, eIf, notD, eChain, addA_int, subD, negD, absD, lenD, Dl.intD, tupD, cmpD, eqD_ii, neD_ii, eqD_ss, neD_ss, isi_ii, isi_ib, isi_is, isi_it, isi_tt, isi_ti, isi_ts, isi_ss, isi_si, isi_st, this], rfl⟩)
  have h3 := allD_map (fun _ : Rat => true) l
  unfold m_are_amounts b_are_amounts
  unfold rowD at h2 ⊢
  simp [fnP, runG, sSeq, sIf, sNil, sRet, sRetV, sSet, setOut, sPar, parOut, sEx, eVar, bVar, eC, eV, dat, vE, eBin, eUn, eTup, vLst, aCons, aNil, eIxV, slD, atD, L2.atI, L2.ixN, eCall, tOf, truD, Dl.tAndT, Dl.tOrT, Dl.tNotT, eAnd, eOr, eIf, notD, eChain, addA_int, subD, negD, absD, lenD, Dl.intD, tupD, cmpD, eqD_ii, neD_ii, eqD_ss, neD_ss, isi_ii, isi_ib, isi_is, isi_it, isi_tt, isi_ti, isi_ts, isi_ss, isi_si, isi_st, h1, h2, h3, backG, wipeG]
theorem is_method_ok {n : Nat} {m : Me} (hn : n ≤ 6) (h : MeOk n m) : m_is_method [.int n, meD m] = some (.v (.bool true)) := by
  have h1 := is_sized_ok [.int m.good, rowD m.uses, qD m.work] 3 3 (by simp) (by simp)
  have hg := h.good
  have h2 := is_within_ok m.good 0 ((n : Int) - 1) (by omega) (by omega)
  have h3 := are_amounts_ok h.uses h.len (by omega)
  have h4 := is_amount_ok h.work
  unfold m_is_method b_is_method meD
  simp [fnP, runG, sSeq, sIf, sNil, sRet, sRetV, sSet, setOut, sPar, parOut, sEx, eVar, bVar, eC, eV, dat, vE, eBin, eUn, eTup, vLst, aCons, aNil, eIxV, slD, atD, L2.atI, L2.ixN, eCall, tOf, truD, Dl.tAndT, Dl.tOrT, Dl.tNotT, eAnd, eOr, eIf, notD, eChain, addA_int, subD, negD, absD, lenD, Dl.intD, tupD, cmpD, eqD_ii, neD_ii, eqD_ss, neD_ss, isi_ii, isi_ib, isi_is, isi_it, isi_tt, isi_ti, isi_ts, isi_ss, isi_si, isi_st, h1, h2, h3, h4]
theorem is_book_ok {n : Nat} {ms : List Me} (h : BookOk n ms) : m_is_book [bookD n ms] = some (.v (.bool true)) := by
  have hlo := h.lo
  have hhi := h.hi
  have hmlo := h.mlo
  have hmhi := h.mhi
  have h1 := is_sized_ok [.int n, mesD ms] 2 2 (by simp) (by simp)
  have h2 := is_within_ok n 1 6 (by omega) (by omega)
  have h3 := is_sized_ok (ms.map meD) 1 20 (by simp; omega) (by simp; omega)
  have h4 := vLc_map (fi := iSeq (eIxV 0 (eC (.int 1)))) (t := gVar 1) (c := cYes) (f := eV (eCall m_is_method (aCons (eIxV 0 (eC (.int 0))) (aCons (eVar 1) aNil)))) (vs := [1]) (g := [.v (bookD n ms), .no]) (g0 := [.v (bookD n ms), .no]) (xs := ms) meD (fun _ => .bool true)
    (by simp [iSeq, fnP, runG, sSeq, sIf, sNil, sRet, sRetV, sSet, setOut, sPar, parOut, sEx, eVar, bVar, eC, eV, dat, vE, eBin, eUn, eTup, vLst, aCons, aNil, eIxV, slD, atD, L2.atI, L2.ixN, eCall, tOf, truD, Dl.tAndT, Dl.tOrT, Dl.tNotT, eAnd, eOr, eIf, notD, eChain, addA_int, subD, negD, absD, lenD, Dl.intD, tupD, cmpD, eqD_ii, neD_ii, eqD_ss, neD_ss, isi_ii, isi_ib, isi_is, isi_it, isi_tt, isi_ti, isi_ts, isi_ss, isi_si, isi_st, bookD, mesD, seqD]) (by simp [okW]) (by omega) (fun x hx => by
      have := is_method_ok hhi (h.ok x hx)
      exact ⟨[.v (bookD n ms), .v (meD x)], [.v (bookD n ms), .v (meD x)], rfl, rfl, by simp [fnP, runG, sSeq, sIf, sNil, sRet, sRetV, sSet, setOut, sPar, parOut, sEx, eVar, bVar, eC, eV, dat, vE, eBin, eUn, eTup, vLst, aCons, aNil, eIxV, slD, atD, L2.atI, L2.ixN, eCall, tOf, truD, Dl.tAndT, Dl.tOrT, Dl.tNotT, eAnd, eOr, eIf, notD, eChain, addA_int, subD, negD, absD, lenD, Dl.intD, tupD, cmpD, eqD_ii, neD_ii, eqD_ss, neD_ss, isi_ii, isi_ib, isi_is, isi_it, isi_tt, isi_ti, isi_ts, isi_ss, isi_si, isi_st, bookD, this], rfl⟩)
  have h5 := allD_map (fun _ : Me => true) ms
  unfold m_is_book b_is_book
  unfold bookD mesD at h4 ⊢
  unfold mesD at h1
  simp [fnP, runG, sSeq, sIf, sNil, sRet, sRetV, sSet, setOut, sPar, parOut, sEx, eVar, bVar, eC, eV, dat, vE, eBin, eUn, eTup, vLst, aCons, aNil, eIxV, slD, atD, L2.atI, L2.ixN, eCall, tOf, truD, Dl.tAndT, Dl.tOrT, Dl.tNotT, eAnd, eOr, eIf, notD, eChain, addA_int, subD, negD, absD, lenD, Dl.intD, tupD, cmpD, eqD_ii, neD_ii, eqD_ss, neD_ss, isi_ii, isi_ib, isi_is, isi_it, isi_tt, isi_ti, isi_ts, isi_ss, isi_si, isi_st, k_MOST_GOODS, k_MOST_METHODS, h1, h2, h3, h4, h5, backG, wipeG]
theorem check_book_ok {n : Nat} {ms : List Me} (h : BookOk n ms) : m_check_book [bookD n ms] = some (.v .none) := by
  have h1 := is_book_ok h
  unfold m_check_book b_check_book
  simp [fnP, runG, sSeq, sIf, sNil, sRet, sRetV, sSet, setOut, sPar, parOut, sEx, eVar, bVar, eC, eV, dat, vE, eBin, eUn, eTup, vLst, aCons, aNil, eIxV, slD, atD, L2.atI, L2.ixN, eCall, tOf, truD, Dl.tAndT, Dl.tOrT, Dl.tNotT, eAnd, eOr, eIf, notD, eChain, addA_int, subD, negD, absD, lenD, Dl.intD, tupD, cmpD, eqD_ii, neD_ii, eqD_ss, neD_ss, isi_ii, isi_ib, isi_is, isi_it, isi_tt, isi_ti, isi_ts, isi_ss, isi_si, isi_st, h1]
theorem is_plan_of_ok {n k : Nat} {ms : List Me} {pl : List Rat} (h : BookOk n ms) (hp : PlanOk k ms pl) : m_is_plan_of [bookD n ms, rowD pl] = some (.v (.bool true)) := by
  have hmhi := h.mhi
  have h1 := are_amounts_ok hp.am hp.len (by omega)
  unfold m_is_plan_of b_is_plan_of bookD mesD
  simp [fnP, runG, sSeq, sIf, sNil, sRet, sRetV, sSet, setOut, sPar, parOut, sEx, eVar, bVar, eC, eV, dat, vE, eBin, eUn, eTup, vLst, aCons, aNil, eIxV, slD, atD, L2.atI, L2.ixN, eCall, tOf, truD, Dl.tAndT, Dl.tOrT, Dl.tNotT, eAnd, eOr, eIf, notD, eChain, addA_int, subD, negD, absD, lenD, Dl.intD, tupD, cmpD, eqD_ii, neD_ii, eqD_ss, neD_ss, isi_ii, isi_ib, isi_is, isi_it, isi_tt, isi_ti, isi_ts, isi_ss, isi_si, isi_st, h1]
theorem is_plan_ok {n k : Nat} {ms : List Me} {pl : List Rat} (h : BookOk n ms) (hp : PlanOk k ms pl) : m_is_plan [bookD n ms, rowD pl] = some (.v (.bool true)) := by
  have h1 := check_book_ok h
  have h2 := is_plan_of_ok h hp
  unfold m_is_plan b_is_plan
  simp [fnP, runG, sSeq, sIf, sNil, sRet, sRetV, sSet, setOut, sPar, parOut, sEx, eVar, bVar, eC, eV, dat, vE, eBin, eUn, eTup, vLst, aCons, aNil, eIxV, slD, atD, L2.atI, L2.ixN, eCall, tOf, truD, Dl.tAndT, Dl.tOrT, Dl.tNotT, eAnd, eOr, eIf, notD, eChain, addA_int, subD, negD, absD, lenD, Dl.intD, tupD, cmpD, eqD_ii, neD_ii, eqD_ss, neD_ss, isi_ii, isi_ib, isi_is, isi_it, isi_tt, isi_ti, isi_ts, isi_ss, isi_si, isi_st, h1, h2]
theorem check_plan_ok {n k : Nat} {ms : List Me} {pl : List Rat} (h : BookOk n ms) (hp : PlanOk k ms pl) : m_check_plan [bookD n ms, rowD pl] = some (.v .none) := by
  have h1 := check_book_ok h
  have h2 := is_plan_of_ok h hp
  unfold m_check_plan b_check_plan
  simp [fnP, runG, sSeq, sIf, sNil, sRet, sRetV, sSet, setOut, sPar, parOut, sEx, eVar, bVar, eC, eV, dat, vE, eBin, eUn, eTup, vLst, aCons, aNil, eIxV, slD, atD, L2.atI, L2.ixN, eCall, tOf, truD, Dl.tAndT, Dl.tOrT, Dl.tNotT, eAnd, eOr, eIf, notD, eChain, addA_int, subD, negD, absD, lenD, Dl.intD, tupD, cmpD, eqD_ii, neD_ii, eqD_ss, neD_ss, isi_ii, isi_ib, isi_is, isi_it, isi_tt, isi_ti, isi_ts, isi_ss, isi_si, isi_st, h1, h2]
theorem check_factor_ok {k : Nat} {r : Rat} (h : Am k r) : m_check_factor [qD r] = some (.v .none) := by
  have h1 := is_amount_ok h
  unfold m_check_factor b_check_factor
  simp [fnP, runG, sSeq, sIf, sNil, sRet, sRetV, sSet, setOut, sPar, parOut, sEx, eVar, bVar, eC, eV, dat, vE, eBin, eUn, eTup, vLst, aCons, aNil, eIxV, slD, atD, L2.atI, L2.ixN, eCall, tOf, truD, Dl.tAndT, Dl.tOrT, Dl.tNotT, eAnd, eOr, eIf, notD, eChain, addA_int, subD, negD, absD, lenD, Dl.intD, tupD, cmpD, eqD_ii, neD_ii, eqD_ss, neD_ss, isi_ii, isi_ib, isi_is, isi_it, isi_tt, isi_ti, isi_ts, isi_ss, isi_si, isi_st, h1]
theorem check_prices_ok {n k : Nat} {ms : List Me} {ps : List Rat} (hn : n ≤ 6) (h : AmL k ps) (hl : ps.length = n) : m_check_prices [bookD n ms, rowD ps] = some (.v .none) := by
  have h1 := are_amounts_ok h hl (by omega)
  unfold m_check_prices b_check_prices bookD
  simp [fnP, runG, sSeq, sIf, sNil, sRet, sRetV, sSet, setOut, sPar, parOut, sEx, eVar, bVar, eC, eV, dat, vE, eBin, eUn, eTup, vLst, aCons, aNil, eIxV, slD, atD, L2.atI, L2.ixN, eCall, tOf, truD, Dl.tAndT, Dl.tOrT, Dl.tNotT, eAnd, eOr, eIf, notD, eChain, addA_int, subD, negD, absD, lenD, Dl.intD, tupD, cmpD, eqD_ii, neD_ii, eqD_ss, neD_ss, isi_ii, isi_ib, isi_is, isi_it, isi_tt, isi_ti, isi_ts, isi_ss, isi_si, isi_st, h1]
theorem is_method_number_ok {n : Nat} {ms : List Me} {i : Nat} (h : i < ms.length) : m_is_method_number [bookD n ms, .int i] = some (.v (.bool true)) := by
  have h1 := is_within_ok i 0 ((ms.length : Int) - 1) (by omega) (by omega)
  unfold m_is_method_number b_is_method_number bookD mesD
  simp [fnP, runG, sSeq, sIf, sNil, sRet, sRetV, sSet, setOut, sPar, parOut, sEx, eVar, bVar, eC, eV, dat, vE, eBin, eUn, eTup, vLst, aCons, aNil, eIxV, slD, atD, L2.atI, L2.ixN, eCall, tOf, truD, Dl.tAndT, Dl.tOrT, Dl.tNotT, eAnd, eOr, eIf, notD, eChain, addA_int, subD, negD, absD, lenD, Dl.intD, tupD, cmpD, eqD_ii, neD_ii, eqD_ss, neD_ss, isi_ii, isi_ib, isi_is, isi_it, isi_tt, isi_ti, isi_ts, isi_ss, isi_si, isi_st, h1]
end K03
set_option Elab.async false
set_option linter.all false
set_option maxRecDepth 100000
namespace K03
open PySem Dl

/-! ### data of fractions -/
theorem lay_q (r : Rat) : (qD r).canLay0 = true := by simp [qD, PyData.canLay0, PyData.canLayAll0]
theorem dep_q (r : Rat) : (qD r).depth = 1 := by simp [qD, PyData.depth, PyData.depthAll]
theorem lay_row (l : List Rat) : (rowD l).canLay0 = true := by
  unfold rowD
  rw [PyData.canLay0]
  exact canLayAll_of fun d hd => by
    obtain ⟨r, _, rfl⟩ := List.mem_map.mp hd
    exact lay_q r
theorem dep_row (l : List Rat) : (rowD l).depth ≤ 2 := by
  unfold rowD
  rw [PyData.depth]
  have := depthAll_of (xs := l.map qD) (n := 1) fun d hd => by
    obtain ⟨r, _, rfl⟩ := List.mem_map.mp hd
    exact Nat.le_of_eq (dep_q r)
  omega
theorem eqv_q (r s : Rat) : PyData.eqv (qD r) (qD s) = decide (r = s) := by
  unfold qD
  rw [eqv_tup]
  simp only [PyData.eqvAll, eqv_int, Bool.and_true]
  rw [Bool.eq_iff_iff]
  simp only [Bool.and_eq_true, decide_eq_true_eq]
  constructor
  · rintro ⟨h1, h2⟩
    exact Rat.ext h1 (by omega)
  · rintro rfl
    exact ⟨rfl, rfl⟩
theorem eqv_row (l m : List Rat) : PyData.eqv (rowD l) (rowD m) = decide (l = m) := by
  unfold rowD
  rw [eqv_tup, eqvAll_map eqv_q]
theorem neD_q (r s : Rat) : neD (qD r) (qD s) = some (.bool (!decide (r = s))) := neD_sh (shaped_of (lay_q r) (by rw [dep_q]; decide)) (shaped_of (lay_q s) (by rw [dep_q]; decide)) (eqv_q r s) rfl
theorem eqD_q (r s : Rat) : eqD (qD r) (qD s) = some (.bool (decide (r = s))) := eqD_sh (shaped_of (lay_q r) (by rw [dep_q]; decide)) (shaped_of (lay_q s) (by rw [dep_q]; decide)) (eqv_q r s) rfl
theorem eqD_row (l m : List Rat) : eqD (rowD l) (rowD m) = some (.bool (decide (l = m))) := eqD_sh (shaped_of (lay_row l) (by have := dep_row l; omega)) (shaped_of (lay_row m) (by have := dep_row m; omega)) (eqv_row l m) rfl
theorem neD_row (l m : List Rat) : neD (rowD l) (rowD m) = some (.bool (!decide (l = m))) := neD_sh (shaped_of (lay_row l) (by have := dep_row l; omega)) (shaped_of (lay_row m) (by have := dep_row m; omega)) (eqv_row l m) rfl

/-! ### sums -/
def S {α : Type} (f : α → Rat) : List α → Rat
  | [] => 0
  | x :: xs => f x + S f xs
theorem foldl_S {α : Type} (f : α → Rat) : ∀ (l : List α) (acc : Rat), (l.map f).foldl (· + ·) acc = acc + S f l
  | [], acc => by simp [S, Rat.add_zero]
  | x :: xs, acc => by
    simp only [List.map_cons, List.foldl_cons, S]
    rw [foldl_S f xs, Rat.add_assoc]
theorem S_congr {α : Type} {f h : α → Rat} : ∀ {l : List α}, (∀ x ∈ l, f x = h x) → S f l = S h l
  | [], _ => rfl
  | x :: xs, H => by
    simp only [S]
    rw [H x (List.mem_cons_self ..), S_congr fun y hy => H y (List.mem_cons_of_mem _ hy)]
theorem S_zero {α : Type} : ∀ (l : List α), S (fun _ => (0 : Rat)) l = 0
  | [] => rfl
  | x :: xs => by simp only [S]; rw [S_zero xs, Rat.add_zero]
theorem S_add {α : Type} (f h : α → Rat) : ∀ (l : List α), S (fun x => f x + h x) l = S f l + S h l
  | [] => by simp only [S, Rat.add_zero]
  | x :: xs => by simp only [S]; rw [S_add f h xs]; grind
theorem S_mul {α : Type} (c : Rat) (f : α → Rat) : ∀ (l : List α), S (fun x => c * f x) l = c * S f l
  | [] => by simp [S]
  | x :: xs => by simp only [S]; rw [S_mul c f xs]; grind
theorem S_swap {α β : Type} (f : α → β → Rat) (m : List β) : ∀ (l : List α), S (fun x => S (fun y => f x y) m) l = S (fun y => S (fun x => f x y) l) m
  | [] => by simp only [S]; rw [S_zero]
  | x :: xs => by simp only [S]; rw [S_swap f m xs, S_add]
theorem S_app {α : Type} (f : α → Rat) : ∀ (l m : List α), S f (l ++ m) = S f l + S f m
  | [], m => by simp [S, Rat.zero_add]
  | x :: xs, m => by simp only [S, List.cons_append]; rw [S_app f xs m]; grind
theorem S_map {α β : Type} (f : β → Rat) (h : α → β) : ∀ (l : List α), S f (l.map h) = S (fun x => f (h x)) l
  | [] => rfl
  | x :: xs => by simp only [S, List.map_cons]; rw [S_map f h xs]
theorem S_filter {α : Type} (p : α → Bool) (f : α → Rat) : ∀ (l : List α), S f (l.filter p) = S (fun x => if p x = true then f x else 0) l
  | [] => rfl
  | x :: xs => by
    simp only [S, List.filter_cons]
    by_cases h : p x = true
    · simp only [h, if_true, S]; rw [S_filter p f xs]
    · simp only [h]; rw [if_neg (by decide), if_neg (by decide), S_filter p f xs, Rat.zero_add]
def B0L (k : Nat) (l : List Rat) : Prop := ∀ r ∈ l, B0 k r
theorem AmL.b0 {k : Nat} {l : List Rat} (h : AmL k l) : B0L k l := fun r hr => (h r hr).b
theorem S_b0 {α : Type} {k : Nat} {f : α → Rat} : ∀ {l : List α} {acc : Rat} {j : Nat}, B0 j acc → (∀ x ∈ l, B0 k (f x)) → B0 (j + l.length * (k + 1)) (acc + S f l)
  | [], acc, j, h, _ => by simpa [S, Rat.add_zero] using h
  | x :: xs, acc, j, h, H => by
    have h1 := h.add (H x (List.mem_cons_self ..))
    have h2 := S_b0 (l := xs) h1 fun y hy => H y (List.mem_cons_of_mem _ hy)
    simp only [S]
    rw [← Rat.add_assoc]
    refine B0.mono h2 ?_
    simp only [List.length_cons, Nat.add_mul]
    omega
theorem S_b1 {α : Type} {k : Nat} {f : α → Rat} {l : List α} (h : ∀ x ∈ l, B0 k (f x)) : B0 (1 + l.length * (k + 1)) (S f l) := by
  have := S_b0 (acc := 0) (j := 1) (b0_zero (by decide)) h
  rwa [Rat.zero_add] at this
theorem law_total_loop {k : Nat} (L : Sl) : ∀ (rs : List Rat) (acc : Rat) (z : Sl) (j : Nat), B0 j acc → B0L k rs → k ≤ 4400 → j + rs.length * (k + 1) ≤ 400000 →
    ∃ z', forGo (gVar 2) (sSet 1 (eCall m__law_plus (aCons (eVar 1) (aCons (eVar 2) aNil)))) (rs.map qD) [L, .v (qD acc), z] = some (.nx [L, .v (qD (rs.foldl (· + ·) acc)), z'])
  | [], acc, z, j, _, _, _, _ => ⟨z, rfl⟩
  | r :: rs, acc, z, j, h, hr, hk, hl => by
    have hr0 := hr r (List.mem_cons_self ..)
    simp only [List.length_cons, Nat.add_mul] at hl
    have h1 := law_plus_ok (h.mono (k := 400000) (by omega)) (hr0.mono hk)
    obtain ⟨z', h2⟩ := law_total_loop L rs (acc + r) (.v (qD r)) _ (h.add hr0) (fun x hx => hr x (List.mem_cons_of_mem _ hx)) hk (by omega)
    refine ⟨z', ?_⟩
    rw [List.map_cons, forGo]
    simp [gVar, fnP, runG, sSeq, sIf, sNil, sRet, sRetV, sSet, setOut, sPar, parOut, sEx, eVar, bVar, eC, eV, dat, vE, eBin, eUn, eTup, vLst, aCons, aNil, eIxV, slD, atD, L2.atI, L2.ixN, eCall, tOf, truD, Dl.tAndT, Dl.tOrT, Dl.tNotT, eAnd, eOr, eIf, notD, eChain, addA_int, subD, negD, absD, lenD, Dl.intD, tupD, cmpD, eqD_ii, neD_ii, eqD_ss, neD_ss, isi_ii, isi_ib, isi_is, isi_it, isi_tt, isi_ti, isi_ts, isi_ss, isi_si, isi_st, h1, h2]
theorem summed_loop {k : Nat} (L : Sl) : ∀ (rs : List Rat) (acc : Rat) (z : Sl) (j : Nat), B0 j acc → B0L k rs → k ≤ 4400 → j + rs.length * (k + 1) ≤ 400000 →
    ∃ z', forGo (gVar 2) (sSet 1 (eCall m_plus (aCons (eVar 1) (aCons (eVar 2) aNil)))) (rs.map qD) [L, .v (qD acc), z] = some (.nx [L, .v (qD (rs.foldl (· + ·) acc)), z'])
  | [], acc, z, j, _, _, _, _ => ⟨z, rfl⟩
  | r :: rs, acc, z, j, h, hr, hk, hl => by
    have hr0 := hr r (List.mem_cons_self ..)
    simp only [List.length_cons, Nat.add_mul] at hl
    have h1 := plus_ok (h.mono (k := 400000) (by omega)) (hr0.mono hk)
    obtain ⟨z', h2⟩ := summed_loop L rs (acc + r) (.v (qD r)) _ (h.add hr0) (fun x hx => hr x (List.mem_cons_of_mem _ hx)) hk (by omega)
    refine ⟨z', ?_⟩
    rw [List.map_cons, forGo]
    simp [gVar, fnP, runG, sSeq, sIf, sNil, sRet, sRetV, sSet, setOut, sPar, parOut, sEx, eVar, bVar, eC, eV, dat, vE, eBin, eUn, eTup, vLst, aCons, aNil, eIxV, slD, atD, L2.atI, L2.ixN, eCall, tOf, truD, Dl.tAndT, Dl.tOrT, Dl.tNotT, eAnd, eOr, eIf, notD, eChain, addA_int, subD, negD, absD, lenD, Dl.intD, tupD, cmpD, eqD_ii, neD_ii, eqD_ss, neD_ss, isi_ii, isi_ib, isi_is, isi_it, isi_tt, isi_ti, isi_ts, isi_ss, isi_si, isi_st, h1, h2]
theorem q_zero : qD 0 = .tuple [.int 0, .int 1] := rfl
theorem total_ok {α : Type} {k : Nat} {f : α → Rat} {l : List α} (h : ∀ x ∈ l, B0 k (f x)) (hk : k ≤ 4400) (hl : l.length ≤ 20) :
    m__law_total [.list (l.map fun x => qD (f x))] = some (.v (qD (S f l))) ∧ m_summed [.list (l.map fun x => qD (f x))] = some (.v (qD (S f l))) := by
  have hB : B0L k (l.map f) := fun r hr => by
    obtain ⟨x, hx, rfl⟩ := List.mem_map.mp hr
    exact h x hx
  have h3 : l.length * (k + 1) ≤ 20 * (k + 1) := Nat.mul_le_mul_right _ hl
  have e : (l.map fun x => qD (f x)) = (l.map f).map qD := by simp
  have e2 := foldl_S f l 0
  rw [Rat.zero_add] at e2
  rw [e]
  refine ⟨?_, ?_⟩
  · obtain ⟨z, h1⟩ := law_total_loop (.v (.list ((l.map f).map qD))) (l.map f) 0 .no 1 (b0_zero (by decide)) hB hk (by simp; omega)
    rw [q_zero, e2] at h1
    unfold m__law_total b__law_total
    simp [fnP, runG, sSeq, sIf, sNil, sRet, sRetV, sSet, setOut, sPar, parOut, sEx, eVar, bVar, eC, eV, dat, vE, eBin, eUn, eTup, vLst, aCons, aNil, eIxV, slD, atD, L2.atI, L2.ixN, eCall, tOf, truD, Dl.tAndT, Dl.tOrT, Dl.tNotT, eAnd, eOr, eIf, notD, eChain, addA_int, subD, negD, absD, lenD, Dl.intD, tupD, cmpD, eqD_ii, neD_ii, eqD_ss, neD_ss, isi_ii, isi_ib, isi_is, isi_it, isi_tt, isi_ti, isi_ts, isi_ss, isi_si, isi_st, sFor, iSeq, seqD] at h1 ⊢
    simp [fnP, runG, sSeq, sIf, sNil, sRet, sRetV, sSet, setOut, sPar, parOut, sEx, eVar, bVar, eC, eV, dat, vE, eBin, eUn, eTup, vLst, aCons, aNil, eIxV, slD, atD, L2.atI, L2.ixN, eCall, tOf, truD, Dl.tAndT, Dl.tOrT, Dl.tNotT, eAnd, eOr, eIf, notD, eChain, addA_int, subD, negD, absD, lenD, Dl.intD, tupD, cmpD, eqD_ii, neD_ii, eqD_ss, neD_ss, isi_ii, isi_ib, isi_is, isi_it, isi_tt, isi_ti, isi_ts, isi_ss, isi_si, isi_st, h1]
  · obtain ⟨z, h1⟩ := summed_loop (.v (.list ((l.map f).map qD))) (l.map f) 0 .no 1 (b0_zero (by decide)) hB hk (by simp; omega)
    rw [q_zero, e2] at h1
    unfold m_summed b_summed
    simp [fnP, runG, sSeq, sIf, sNil, sRet, sRetV, sSet, setOut, sPar, parOut, sEx, eVar, bVar, eC, eV, dat, vE, eBin, eUn, eTup, vLst, aCons, aNil, eIxV, slD, atD, L2.atI, L2.ixN, eCall, tOf, truD, Dl.tAndT, Dl.tOrT, Dl.tNotT, eAnd, eOr, eIf, notD, eChain, addA_int, subD, negD, absD, lenD, Dl.intD, tupD, cmpD, eqD_ii, neD_ii, eqD_ss, neD_ss, isi_ii, isi_ib, isi_is, isi_it, isi_tt, isi_ti, isi_ts, isi_ss, isi_si, isi_st, sFor, iSeq, seqD, k_ZERO] at h1 ⊢
    simp [fnP, runG, sSeq, sIf, sNil, sRet, sRetV, sSet, setOut, sPar, parOut, sEx, eVar, bVar, eC, eV, dat, vE, eBin, eUn, eTup, vLst, aCons, aNil, eIxV, slD, atD, L2.atI, L2.ixN, eCall, tOf, truD, Dl.tAndT, Dl.tOrT, Dl.tNotT, eAnd, eOr, eIf, notD, eChain, addA_int, subD, negD, absD, lenD, Dl.intD, tupD, cmpD, eqD_ii, neD_ii, eqD_ss, neD_ss, isi_ii, isi_ib, isi_is, isi_it, isi_tt, isi_ti, isi_ts, isi_ss, isi_si, isi_st, h1]
theorem zipU_of {α β : Type} {f : Fa} {g g1 : G} {d e : D} {F : α → D} {H : β → D} {l : List α} {m : List β} (e0 : f g = some ([d, e], g1)) (h1 : seqD d = some (l.map F)) (h2 : seqD e = some (m.map H)) :
    iZipU f g = some ((l.zip m).map fun p => .tuple [F p.1, H p.2], g1) := by
  unfold iZipU
  simp only [e0, h1, h2, Option.bind_some, Option.map_some, zipL_map]
theorem ixN_nat {n j : Nat} (h : j < n) : L2.ixN n (j : Int) = some j := by
  unfold L2.ixN
  rw [if_pos (by omega), if_pos (by omega)]
  simp
theorem set_range {α : Type} {n j : Nat} {F F' : Nat → α} (h : ∀ i, i < n → i ≠ j → F i = F' i) : ((List.range n).map F).set j (F' j) = (List.range n).map F' := by
  apply List.ext_getElem
  · simp
  · intro i h1 h2
    have hi : i < n := by simpa using h2
    rw [List.getElem_set]
    by_cases e : j = i
    · subst e; simp
    · rw [if_neg e]
      simp
      exact h i hi fun z => e z.symm
end K03
set_option Elab.async false
set_option linter.all false
set_option maxRecDepth 100000
namespace K03
open PySem Dl

/-! ### what is made, used, left, worked -/
def mdF (ms : List Me) (pl : List Rat) (g : Nat) : Rat := S (fun p : Me × Rat => if p.1.good = g then p.2 else 0) (ms.zip pl)
def usF (ms : List Me) (pl : List Rat) (g : Nat) : Rat := S (fun p : Me × Rat => p.2 * p.1.uses.getD g 0) (ms.zip pl)
def wkF (ms : List Me) (pl : List Rat) : Rat := S (fun p : Me × Rat => p.2 * p.1.work) (ms.zip pl)
def ntF (ms : List Me) (pl : List Rat) (f : Rat) (g : Nat) : Rat := mdF ms pl g - f * usF ms pl g
def rng (n : Nat) (F : Nat → Rat) : List Rat := (List.range n).map F
theorem rng_len (n : Nat) (F : Nat → Rat) : (rng n F).length = n := by simp [rng]
def encP (p : Me × Rat) : D := .tuple [meD p.1, qD p.2]
theorem zip_encP (ms : List Me) (pl : List Rat) : ((ms.zip pl).map fun p => (.tuple [meD p.1, qD p.2] : D)) = (ms.zip pl).map encP := rfl
theorem row_rng (n : Nat) (F : Nat → Rat) : (List.range n).map (fun g => qD (F g)) = (rng n F).map qD := by simp [rng]
theorem dite_b0 {k : Nat} {c : Prop} [Decidable c] {r : Rat} (h : B0 k r) (hk : 1 ≤ k) : B0 k (if c then r else 0) := by
  split
  · exact h
  · exact b0_zero hk
theorem made_loop {n k : Nat} (B P : Sl) (hk1 : 1 ≤ k) (hk : k ≤ 4400) : ∀ (ps : List (Me × Rat)) (A : Nat → Rat) (j : Nat) (z3 z4 z5 z6 : Sl), (∀ p ∈ ps, p.1.good < n ∧ B0 k p.2) → (∀ g, B0 j (A g)) → j + ps.length * (k + 1) ≤ 400000 →
    ∃ z3' z4' z5' z6', forGo (gTup (gsCons (gTup (gsCons (gVar 3) (gsCons (gVar 4) (gsCons (gVar 5) gsNil))) 3) (gsCons (gVar 6) gsNil)) 2) (sPut 2 (eVar 3) (eCall m_plus (aCons (eIxV 2 (eVar 3)) (aCons (eVar 6) aNil)))) (ps.map encP)
      [B, P, .own none ((List.range n).map fun g => qD (A g)), z3, z4, z5, z6] = some (.nx [B, P, .own none ((List.range n).map fun g => qD (A g + S (fun p : Me × Rat => if p.1.good = g then p.2 else 0) ps)), z3', z4', z5', z6'])
  | [], A, j, z3, z4, z5, z6, _, _, _ => ⟨z3, z4, z5, z6, by simp only [S, Rat.add_zero]; rfl⟩
  | p :: ps, A, j, z3, z4, z5, z6, H, hA, hl => by
    obtain ⟨hg, hb⟩ := H p (List.mem_cons_self ..)
    simp only [List.length_cons, Nat.add_mul] at hl
    have hA' : ∀ g, B0 (j + k + 1) (A g + if p.1.good = g then p.2 else 0) := fun g => (hA g).add (dite_b0 hb hk1)
    obtain ⟨z3', z4', z5', z6', ih⟩ := made_loop B P hk1 hk ps (fun g => A g + if p.1.good = g then p.2 else 0) (j + k + 1) (.v (.int p.1.good)) (.v (rowD p.1.uses)) (.v (qD p.1.work)) (.v (qD p.2))
      (fun q hq => H q (List.mem_cons_of_mem _ hq)) hA' (by omega)
    refine ⟨z3', z4', z5', z6', ?_⟩
    have hp := plus_ok ((hA p.1.good).mono (k := 400000) (by omega)) (hb.mono hk)
    have t1 : gTup (gsCons (gTup (gsCons (gVar 3) (gsCons (gVar 4) (gsCons (gVar 5) gsNil))) 3) (gsCons (gVar 6) gsNil)) 2 (encP p) [B, P, .own none ((List.range n).map fun g => qD (A g)), z3, z4, z5, z6] =
      some [B, P, .own none ((List.range n).map fun g => qD (A g)), .v (.int p.1.good), .v (rowD p.1.uses), .v (qD p.1.work), .v (qD p.2)] := rfl
    have i1 : atD (.list ((List.range n).map fun g => qD (A g))) (.int (p.1.good : Int)) = some (qD (A p.1.good)) := atD_mapL (f := fun g => qD (A g)) (List.getElem?_range hg)
    have i2 : eIxV 2 (eVar 3) [B, P, .own none ((List.range n).map fun g => qD (A g)), .v (.int p.1.good), .v (rowD p.1.uses), .v (qD p.1.work), .v (qD p.2)] = some (qD (A p.1.good), [B, P, .own none ((List.range n).map fun g => qD (A g)), .v (.int p.1.good), .v (rowD p.1.uses), .v (qD p.1.work), .v (qD p.2)]) := ixV_v rfl rfl rfl i1
    have b1 := put_of (i := 2) (fj := eVar 3) (t := none) (k := (p.1.good : Int)) (j := p.1.good) (ds := (List.range n).map fun g => qD (A g)) (eV_v (eCall_of (ar_cons i2 (ar_cons (f := eVar 6) rfl ar_nil)) hp)) rfl rfl rfl (ixN_nat (by simp; exact hg))
    have e := set_range (n := n) (j := p.1.good) (F := fun g => qD (A g)) (F' := fun g => qD (A g + if p.1.good = g then p.2 else 0)) (fun i hi hne => by
      have : ¬ p.1.good = i := fun z => hne z.symm
      simp [this, Rat.add_zero])
    simp only [if_true] at e
    rw [e] at b1
    have ih' : forGo (gTup (gsCons (gTup (gsCons (gVar 3) (gsCons (gVar 4) (gsCons (gVar 5) gsNil))) 3) (gsCons (gVar 6) gsNil)) 2) (sPut 2 (eVar 3) (eCall m_plus (aCons (eIxV 2 (eVar 3)) (aCons (eVar 6) aNil)))) (ps.map encP)
      [B, P, .own none ((List.range n).map fun g => qD (A g + if p.1.good = g then p.2 else 0)), .v (.int p.1.good), .v (rowD p.1.uses), .v (qD p.1.work), .v (qD p.2)] = some (.nx [B, P, .own none ((List.range n).map fun g => qD (A g + S (fun p : Me × Rat => if p.1.good = g then p.2 else 0) (p :: ps))), z3', z4', z5', z6']) := by
      rw [ih]
      simp only [S, Rat.add_assoc]
    rw [List.map_cons, forGo, t1]
    show (sPut 2 (eVar 3) _ _).bind _ = _
    rw [b1]
    exact ih'
theorem rep_range (n : Nat) (d : D) : (List.replicate n [d]).flatten = (List.range n).map fun _ => d := by
  induction n with
  | zero => rfl
  | succ n ih =>
    rw [List.replicate_succ, List.flatten_cons, ih]
    simp [List.map_const']
    rw [← List.replicate_succ]
theorem rep_of {fa : Fv} {fb : Fe} {g g1 g2 : G} {d : D} {k : Nat} (e : fa g = some (.own none [d], g1)) (e2 : fb g1 = some (.int (k : Int), g2)) (h : k ≤ 1000) : vRep fa fb g = some (.own none ((List.range k).map fun _ => d), g2) := by
  unfold vRep
  simp only [e, e2, Option.bind_some]
  rw [if_pos (by simp; omega), ← rep_range]
  simp
theorem zip_ok {n k : Nat} {ms : List Me} {pl : List Rat} (h : BookOk n ms) (hp : PlanOk k ms pl) : ∀ p ∈ ms.zip pl, MeOk n p.1 ∧ Am k p.2 := fun p hq => ⟨h.ok _ (List.of_mem_zip hq).1, hp.am _ (List.of_mem_zip hq).2⟩
theorem zip_len {n k : Nat} {ms : List Me} {pl : List Rat} (h : BookOk n ms) (hp : PlanOk k ms pl) : (ms.zip pl).length ≤ 20 := by
  have := h.mhi
  have := hp.len
  simp
  omega
theorem made_by_ok {n k : Nat} {ms : List Me} {pl : List Rat} (h : BookOk n ms) (hp : PlanOk k ms pl) (hk1 : 1 ≤ k) (hk : k ≤ 4000) : m_made_by [bookD n ms, rowD pl] = some (.v (rowD (rng n (mdF ms pl)))) := by
  have hz := zip_len h hp
  have hm := Nat.mul_le_mul_right (k + 1) hz
  have hn := h.hi
  obtain ⟨z3', z4', z5', z6', L⟩ := made_loop (n := n) (.v (bookD n ms)) (.v (rowD pl)) hk1 (Nat.le_trans hk (by decide)) (ms.zip pl) (fun _ => 0) 1 .no .no .no .no (fun p hq => ⟨(zip_ok h hp p hq).1.good, (zip_ok h hp p hq).2.b⟩) (fun _ => b0_zero (by decide)) (by omega)
  simp only [Rat.zero_add] at L
  have e1 : vRep (vLst (aCons (eC k_ZERO) aNil)) (eIxV 0 (eC (.int 0))) [.v (bookD n ms), .v (rowD pl), .no, .no, .no, .no, .no] = some (.own none ((List.range n).map fun _ => qD 0), [.v (bookD n ms), .v (rowD pl), .no, .no, .no, .no, .no]) := by
    have v1 : eIxV 0 (eC (.int 0)) [.v (bookD n ms), .v (rowD pl), .no, .no, .no, .no, .no] = some (.int n, [.v (bookD n ms), .v (rowD pl), .no, .no, .no, .no, .no]) := ixV_v rfl rfl rfl rfl
    exact rep_of rfl v1 (by omega)
  have e2 : iZipU (aCons (eIxV 0 (eC (.int 1))) (aCons (eVar 1) aNil)) [.v (bookD n ms), .v (rowD pl), .own none ((List.range n).map fun _ => qD 0), .no, .no, .no, .no] = some ((ms.zip pl).map encP, [.v (bookD n ms), .v (rowD pl), .own none ((List.range n).map fun _ => qD 0), .no, .no, .no, .no]) :=
    zipU_of (F := meD) (H := qD) (d := mesD ms) (e := rowD pl) (ar_cons (ixV_v rfl rfl rfl rfl) (ar_cons (f := eVar 1) rfl ar_nil)) rfl rfl
  unfold m_made_by
  refine fnP_ret [.v (bookD n ms), .v (rowD pl), .no, .no, .no, .no, .no] rfl (seq_nx (set_o e1) (seq_nx (for_of e2 L) (ret_v (vE_of (eUn_of (f := bVar 2) rfl ?_)))))
  show some (PyData.tuple _) = some (rowD _)
  unfold rowD
  rw [← row_rng]
  rfl
end K03
set_option Elab.async false
set_option linter.all false
set_option maxRecDepth 100000
namespace K03
open PySem Dl

theorem zip_range {β : Type} {n : Nat} {l : List Rat} (hl : l.length = n) (h : Nat × Rat → β) : ((List.range n).zip l).map h = (List.range n).map fun g => h (g, l.getD g 0) := by
  apply List.ext_getElem
  · simp [hl]
  · intro i h1 h2
    have hi : i < n := by simpa using h2
    simp [hl, hi]
theorem getD_b0 {k : Nat} {l : List Rat} (h : B0L k l) (hk : 1 ≤ k) (g : Nat) : B0 k (l.getD g 0) := by
  rw [List.getD_eq_getElem?_getD]
  cases e : l[g]? with
  | none => exact b0_zero hk
  | some r => exact h r (List.mem_of_getElem? e)
theorem used_loop {n k : Nat} (B P : Sl) (hk : k ≤ 4000) : ∀ (ps : List (Me × Rat)) (A : Nat → Rat) (j : Nat) (z3 z4 z5 z6 : Sl), n ≤ 6 → (∀ p ∈ ps, MeOk n p.1 ∧ B0 k p.2) → (∀ g, B0 j (A g)) → j + ps.length * (k + 60 + 1) ≤ 400000 →
    ∃ z3' z4' z5' z6', forGo (gTup (gsCons (gTup (gsCons (gVar 3) (gsCons (gVar 4) (gsCons (gVar 5) gsNil))) 3) (gsCons (gVar 6) gsNil)) 2) (sIf (tOf (eBin neD (eVar 6) (eC k_ZERO))) (sSet 2 (vLc (iZipU (aCons (eVar 2) (aCons (eVar 4) aNil))) (gTup (gsCons (gVar 7) (gsCons (gVar 8) gsNil)) 2) cYes (eV (eCall m_plus (aCons (eVar 7) (aCons (eV (eCall m_times (aCons (eVar 6) (aCons (eVar 8) aNil)))) aNil)))) [7, 8])) sNil) (ps.map encP)
      [B, P, .own none ((List.range n).map fun g => qD (A g)), z3, z4, z5, z6, .no, .no] = some (.nx [B, P, .own none ((List.range n).map fun g => qD (A g + S (fun p : Me × Rat => p.2 * p.1.uses.getD g 0) ps)), z3', z4', z5', z6', .no, .no])
  | [], A, j, z3, z4, z5, z6, _, _, _, _ => ⟨z3, z4, z5, z6, by simp only [S, Rat.add_zero]; rfl⟩
  | p :: ps, A, j, z3, z4, z5, z6, hn, H, hA, hl => by
    obtain ⟨hm, hb⟩ := H p (List.mem_cons_self ..)
    simp only [List.length_cons, Nat.add_mul] at hl
    have hu := hm.uses.b0
    have hA' : ∀ g, B0 (j + (k + 60) + 1) (A g + p.2 * p.1.uses.getD g 0) := fun g => (hA g).add (hb.mul (getD_b0 hu (by decide) g))
    obtain ⟨z3', z4', z5', z6', ih⟩ := used_loop B P hk ps (fun g => A g + p.2 * p.1.uses.getD g 0) (j + (k + 60) + 1) (.v (.int p.1.good)) (.v (rowD p.1.uses)) (.v (qD p.1.work)) (.v (qD p.2)) hn
      (fun q hq => H q (List.mem_cons_of_mem _ hq)) hA' (by omega)
    refine ⟨z3', z4', z5', z6', ?_⟩
    have t1 : gTup (gsCons (gTup (gsCons (gVar 3) (gsCons (gVar 4) (gsCons (gVar 5) gsNil))) 3) (gsCons (gVar 6) gsNil)) 2 (encP p) [B, P, .own none ((List.range n).map fun g => qD (A g)), z3, z4, z5, z6, .no, .no] =
      some [B, P, .own none ((List.range n).map fun g => qD (A g)), .v (.int p.1.good), .v (rowD p.1.uses), .v (qD p.1.work), .v (qD p.2), .no, .no] := rfl
    have c1 : tOf (eBin neD (eVar 6) (eC k_ZERO)) [B, P, .own none ((List.range n).map fun g => qD (A g)), .v (.int p.1.good), .v (rowD p.1.uses), .v (qD p.1.work), .v (qD p.2), .no, .no] = some (!decide (p.2 = 0), [B, P, .own none ((List.range n).map fun g => qD (A g)), .v (.int p.1.good), .v (rowD p.1.uses), .v (qD p.1.work), .v (qD p.2), .no, .no]) :=
      tOf_b (eBin_of (f := eVar 6) (h := eC k_ZERO) (d2 := qD 0) rfl rfl (neD_q p.2 0))
    have fin : ∀ (g : Nat), A g + S (fun p : Me × Rat => p.2 * p.1.uses.getD g 0) (p :: ps) = A g + p.2 * p.1.uses.getD g 0 + S (fun p : Me × Rat => p.2 * p.1.uses.getD g 0) ps := fun g => by simp only [S, Rat.add_assoc]
    have b1 : sIf (tOf (eBin neD (eVar 6) (eC k_ZERO))) (sSet 2 (vLc (iZipU (aCons (eVar 2) (aCons (eVar 4) aNil))) (gTup (gsCons (gVar 7) (gsCons (gVar 8) gsNil)) 2) cYes (eV (eCall m_plus (aCons (eVar 7) (aCons (eV (eCall m_times (aCons (eVar 6) (aCons (eVar 8) aNil)))) aNil)))) [7, 8])) sNil
        [B, P, .own none ((List.range n).map fun g => qD (A g)), .v (.int p.1.good), .v (rowD p.1.uses), .v (qD p.1.work), .v (qD p.2), .no, .no] = some (.nx [B, P, .own none ((List.range n).map fun g => qD (A g + p.2 * p.1.uses.getD g 0)), .v (.int p.1.good), .v (rowD p.1.uses), .v (qD p.1.work), .v (qD p.2), .no, .no]) := by
      by_cases h0 : p.2 = 0
      · have hc : (!decide (p.2 = 0)) = false := by simp [h0]
        rw [hc] at c1
        refine if_f c1 ?_
        have e : (fun g => qD (A g + p.2 * p.1.uses.getD g 0)) = fun g => qD (A g) := by
          funext g
          rw [h0, Rat.zero_mul, Rat.add_zero]
        rw [e]
        rfl
      · have hc : (!decide (p.2 = 0)) = true := by simp [h0]
        rw [hc] at c1
        refine if_t c1 ?_
        have hi : iZipU (aCons (eVar 2) (aCons (eVar 4) aNil)) [B, P, .own none ((List.range n).map fun g => qD (A g)), .v (.int p.1.good), .v (rowD p.1.uses), .v (qD p.1.work), .v (qD p.2), .no, .no] = some (((List.range n).zip p.1.uses).map fun q => .tuple [qD (A q.1), qD q.2], [B, P, .v (.list ((List.range n).map fun g => qD (A g))), .v (.int p.1.good), .v (rowD p.1.uses), .v (qD p.1.work), .v (qD p.2), .no, .no]) :=
          zipU_of (F := fun g => qD (A g)) (H := qD) (d := .list ((List.range n).map fun g => qD (A g))) (e := rowD p.1.uses) rfl rfl rfl
        have lc := vLc_map (fi := iZipU (aCons (eVar 2) (aCons (eVar 4) aNil))) (t := gTup (gsCons (gVar 7) (gsCons (gVar 8) gsNil)) 2) (c := cYes) (f := eV (eCall m_plus (aCons (eVar 7) (aCons (eV (eCall m_times (aCons (eVar 6) (aCons (eVar 8) aNil)))) aNil)))) (vs := [7, 8])
          (g := [B, P, .own none ((List.range n).map fun g => qD (A g)), .v (.int p.1.good), .v (rowD p.1.uses), .v (qD p.1.work), .v (qD p.2), .no, .no]) (g0 := [B, P, .v (.list ((List.range n).map fun g => qD (A g))), .v (.int p.1.good), .v (rowD p.1.uses), .v (qD p.1.work), .v (qD p.2), .no, .no])
          (xs := (List.range n).zip p.1.uses) (fun q => .tuple [qD (A q.1), qD q.2]) (fun q => qD (A q.1 + p.2 * q.2)) hi (by simp [okW]) (by simp; omega) (fun q hq => by
            have hq2 : B0 60 q.2 := hu _ (List.of_mem_zip hq).2
            have m1 := times_ok (hb.mono (k := 4400) (by omega)) (hq2.mono (by decide))
            have m2 := plus_ok ((hA q.1).mono (k := 400000) (by omega)) ((hb.mul hq2).mono (by omega))
            have v1 : eV (eCall m_times (aCons (eVar 6) (aCons (eVar 8) aNil))) [B, P, .v (.list ((List.range n).map fun g => qD (A g))), .v (.int p.1.good), .v (rowD p.1.uses), .v (qD p.1.work), .v (qD p.2), .v (qD (A q.1)), .v (qD q.2)] = some (qD (p.2 * q.2), [B, P, .v (.list ((List.range n).map fun g => qD (A g))), .v (.int p.1.good), .v (rowD p.1.uses), .v (qD p.1.work), .v (qD p.2), .v (qD (A q.1)), .v (qD q.2)]) :=
              eV_v (eCall_of (ar_cons (f := eVar 6) rfl (ar_cons (f := eVar 8) rfl ar_nil)) m1)
            have v2 := eV_v (eCall_of (ar_cons (f := eVar 7) (g := [B, P, .v (.list ((List.range n).map fun g => qD (A g))), .v (.int p.1.good), .v (rowD p.1.uses), .v (qD p.1.work), .v (qD p.2), .v (qD (A q.1)), .v (qD q.2)]) rfl (ar_cons v1 ar_nil)) m2)
            exact ⟨_, _, rfl, rfl, v2, rfl⟩)
        rw [zip_range hm.len] at lc
        exact set_o lc
    rw [List.map_cons, forGo, t1]
    show (sIf _ _ _ _).bind _ = _
    rw [b1]
    simp only [fin]
    exact ih
theorem used_by_ok {n k : Nat} {ms : List Me} {pl : List Rat} (h : BookOk n ms) (hp : PlanOk k ms pl) (hk : k ≤ 4000) : m_used_by [bookD n ms, rowD pl] = some (.v (rowD (rng n (usF ms pl)))) := by
  have hz := zip_len h hp
  have hm := Nat.mul_le_mul_right (k + 60 + 1) hz
  have hn := h.hi
  obtain ⟨z3', z4', z5', z6', L⟩ := used_loop (n := n) (.v (bookD n ms)) (.v (rowD pl)) hk (ms.zip pl) (fun _ => 0) 1 .no .no .no .no hn (fun p hq => ⟨(zip_ok h hp p hq).1, (zip_ok h hp p hq).2.b⟩) (fun _ => b0_zero (by decide)) (by omega)
  simp only [Rat.zero_add] at L
  have e1 : vRep (vLst (aCons (eC k_ZERO) aNil)) (eIxV 0 (eC (.int 0))) [.v (bookD n ms), .v (rowD pl), .no, .no, .no, .no, .no, .no, .no] = some (.own none ((List.range n).map fun _ => qD 0), [.v (bookD n ms), .v (rowD pl), .no, .no, .no, .no, .no, .no, .no]) := by
    have v1 : eIxV 0 (eC (.int 0)) [.v (bookD n ms), .v (rowD pl), .no, .no, .no, .no, .no, .no, .no] = some (.int n, [.v (bookD n ms), .v (rowD pl), .no, .no, .no, .no, .no, .no, .no]) := ixV_v rfl rfl rfl rfl
    exact rep_of rfl v1 (by omega)
  have e2 : iZipU (aCons (eIxV 0 (eC (.int 1))) (aCons (eVar 1) aNil)) [.v (bookD n ms), .v (rowD pl), .own none ((List.range n).map fun _ => qD 0), .no, .no, .no, .no, .no, .no] = some ((ms.zip pl).map encP, [.v (bookD n ms), .v (rowD pl), .own none ((List.range n).map fun _ => qD 0), .no, .no, .no, .no, .no, .no]) :=
    zipU_of (F := meD) (H := qD) (d := mesD ms) (e := rowD pl) (ar_cons (ixV_v rfl rfl rfl rfl) (ar_cons (f := eVar 1) rfl ar_nil)) rfl rfl
  unfold m_used_by
  refine fnP_ret [.v (bookD n ms), .v (rowD pl), .no, .no, .no, .no, .no, .no, .no] rfl (seq_nx (set_o e1) (seq_nx (for_of e2 L) (ret_v (vE_of (eUn_of (f := bVar 2) rfl ?_)))))
  show some (PyData.tuple _) = some (rowD _)
  unfold rowD
  rw [← row_rng]
  rfl
end K03
set_option Elab.async false
set_option linter.all false
set_option maxRecDepth 100000
namespace K03
open PySem Dl

theorem B0.sub {j k : Nat} {r s : Rat} (hr : B0 j r) (hs : B0 k s) : B0 (j + k + 1) (r - s) := by
  rw [Rat.sub_eq_add_neg]
  exact hr.add hs.neg
section
variable {n k : Nat} {ms : List Me} {pl : List Rat} (h : BookOk n ms) (hp : PlanOk k ms pl)
include h hp
theorem md_b0 (hk1 : 1 ≤ k) (g : Nat) : B0 (1 + 20 * (k + 1)) (mdF ms pl g) := by
  have hz := zip_len h hp
  have hm := Nat.mul_le_mul_right (k + 1) hz
  exact (S_b1 (f := fun p : Me × Rat => if p.1.good = g then p.2 else 0) (k := k) fun p hq => dite_b0 (zip_ok h hp p hq).2.b hk1).mono (by omega)
theorem us_b0 (g : Nat) : B0 (1 + 20 * (k + 61)) (usF ms pl g) := by
  have hz := zip_len h hp
  have hm := Nat.mul_le_mul_right (k + 60 + 1) hz
  exact (S_b1 (f := fun p : Me × Rat => p.2 * p.1.uses.getD g 0) (k := k + 60) fun p hq => (zip_ok h hp p hq).2.b.mul (getD_b0 (zip_ok h hp p hq).1.uses.b0 (by decide) g)).mono (by omega)
theorem fu_b0 {f : Rat} (hf : B0 60 f) (g : Nat) : B0 (61 + 20 * (k + 61)) (f * usF ms pl g) := (hf.mul (us_b0 h hp g)).mono (by omega)
theorem nt_b0 (hk1 : 1 ≤ k) {f : Rat} (hf : B0 60 f) (g : Nat) : B0 (63 + 20 * (k + 1) + 20 * (k + 61)) (ntF ms pl f g) := ((md_b0 h hp hk1 g).sub (fu_b0 h hp hf g)).mono (by omega)
end
theorem zip_rng {β : Type} (n : Nat) (F H : Nat → Rat) (h : Rat × Rat → β) : ((rng n F).zip (rng n H)).map h = (List.range n).map fun g => h (F g, H g) := by
  unfold rng
  rw [List.zip_map', List.map_map]
  rfl
theorem lcGo_pair {fi : Fa} {fa : Fa} {f : Fe} {g g0 : G} {vs : List Nat} {t : Fg} (n : Nat) (F H φ : Nat → Rat) (hn : n ≤ 6) (hi : fi g = some (((rng n F).zip (rng n H)).map fun p => .tuple [qD p.1, qD p.2], g0)) (ok : okW g0 vs = true)
    (E : ∀ i, i < n → ∃ g1 g2, t (.tuple [qD (F i), qD (H i)]) (wipeG g0 vs) = some g1 ∧ f g1 = some (qD (φ i), g2) ∧ wipeG g2 vs = wipeG g0 vs) : vLc fi t cYes f vs g = some (.own none ((rng n φ).map qD), backG g0 (wipeG g0 vs) vs) := by
  rw [zip_rng] at hi
  have := vLc_map (fi := fi) (t := t) (c := cYes) (f := f) (vs := vs) (g := g) (g0 := g0) (xs := List.range n) (fun i => .tuple [qD (F i), qD (H i)]) (fun i => qD (φ i)) hi ok (by simp; omega) (fun i hi' => by
    obtain ⟨g1, g2, h1, h2, h3⟩ := E i (List.mem_range.mp hi')
    exact ⟨g1, g2, h1, rfl, h2, h3⟩)
  rw [row_rng] at this
  exact this
section
variable {n k : Nat} {ms : List Me} {pl : List Rat} (h : BookOk n ms) (hp : PlanOk k ms pl) (hk1 : 1 ≤ k) (hk : k ≤ 121)
include h hp hk1 hk
theorem net_of_ok {f : Rat} (hf : Am 60 f) : m_net_of [bookD n ms, rowD pl, qD f] = some (.v (rowD (rng n (ntF ms pl f)))) := by
  have a1 := made_by_ok h hp hk1 (by omega)
  have a2 := used_by_ok h hp (by omega)
  have e0 : aCons (eV (eCall m_made_by (aCons (eVar 0) (aCons (eVar 1) aNil)))) (aCons (eV (eCall m_used_by (aCons (eVar 0) (aCons (eVar 1) aNil)))) aNil) [.v (bookD n ms), .v (rowD pl), .v (qD f), .no, .no, .no] = some ([rowD (rng n (mdF ms pl)), rowD (rng n (usF ms pl))], [.v (bookD n ms), .v (rowD pl), .v (qD f), .no, .no, .no]) :=
    ar_cons (eV_v (eCall_of (ar_cons (f := eVar 0) rfl (ar_cons (f := eVar 1) rfl ar_nil)) a1)) (ar_cons (eV_v (eCall_of (ar_cons (f := eVar 0) rfl (ar_cons (f := eVar 1) rfl ar_nil)) a2)) ar_nil)
  have e1 := zipU_of (F := qD) (H := qD) e0 rfl rfl
  have lc := lcGo_pair (fi := fun _ => some (((rng n (mdF ms pl)).zip (rng n (usF ms pl))).map fun p => .tuple [qD p.1, qD p.2], [.v (bookD n ms), .v (rowD pl), .v (qD f), .no, .no, .no])) (fa := aNil) (t := gTup (gsCons (gVar 4) (gsCons (gVar 5) gsNil)) 2) (f := eV (eCall m_minus (aCons (eVar 4) (aCons (eV (eCall m_times (aCons (eVar 2) (aCons (eVar 5) aNil)))) aNil)))) (vs := [4, 5])
    (g := [.v (bookD n ms), .v (rowD pl), .v (qD f), .no, .no, .no]) (g0 := [.v (bookD n ms), .v (rowD pl), .v (qD f), .no, .no, .no]) n (mdF ms pl) (usF ms pl) (ntF ms pl f) h.hi rfl (by simp [okW]) (fun i hi => by
      have m1 := times_ok (hf.b.mono (k := 4400) (by decide)) ((us_b0 h hp i).mono (by omega))
      have m2 := minus_ok ((md_b0 h hp hk1 i).mono (k := 400000) (by omega)) ((fu_b0 h hp hf.b i).mono (by omega))
      have v1 : eV (eCall m_times (aCons (eVar 2) (aCons (eVar 5) aNil))) [.v (bookD n ms), .v (rowD pl), .v (qD f), .no, .v (qD (mdF ms pl i)), .v (qD (usF ms pl i))] = some (qD (f * usF ms pl i), [.v (bookD n ms), .v (rowD pl), .v (qD f), .no, .v (qD (mdF ms pl i)), .v (qD (usF ms pl i))]) :=
        eV_v (eCall_of (ar_cons (f := eVar 2) rfl (ar_cons (f := eVar 5) rfl ar_nil)) m1)
      exact ⟨_, _, rfl, eV_v (eCall_of (ar_cons (f := eVar 4) (g := [.v (bookD n ms), .v (rowD pl), .v (qD f), .no, .v (qD (mdF ms pl i)), .v (qD (usF ms pl i))]) rfl (ar_cons v1 ar_nil)) m2), rfl⟩)
  unfold m_net_of
  refine fnP_ret (g' := [.v (bookD n ms), .v (rowD pl), .v (qD f), .no, .no, .no]) [.v (bookD n ms), .v (rowD pl), .v (qD f), .no, .no, .no] rfl ?_
  unfold b_net_of sZr
  rw [e1]
  exact ret_v (vE_of (eUn_of (op := tupD) (eV_o lc) rfl))
theorem made_ok : m_made [bookD n ms, rowD pl] = some (.v (rowD (rng n (mdF ms pl)))) := by
  have a1 := made_by_ok h hp hk1 (by omega)
  have a2 := check_plan_ok h hp
  unfold m_made b_made
  simp [fnP, runG, sSeq, sIf, sNil, sRet, sRetV, sSet, setOut, sPar, parOut, sEx, eVar, bVar, eC, eV, dat, vE, eBin, eUn, eTup, vLst, aCons, aNil, eIxV, slD, atD, L2.atI, L2.ixN, eCall, tOf, truD, Dl.tAndT, Dl.tOrT, Dl.tNotT, eAnd, eOr, eIf, notD, eChain, addA_int, subD, negD, absD, lenD, Dl.intD, tupD, cmpD, eqD_ii, neD_ii, eqD_ss, neD_ss, isi_ii, isi_ib, isi_is, isi_it, isi_tt, isi_ti, isi_ts, isi_ss, isi_si, isi_st, a1, a2]
theorem used_ok : m_used [bookD n ms, rowD pl] = some (.v (rowD (rng n (usF ms pl)))) := by
  have a1 := used_by_ok h hp (by omega)
  have a2 := check_plan_ok h hp
  unfold m_used b_used
  simp [fnP, runG, sSeq, sIf, sNil, sRet, sRetV, sSet, setOut, sPar, parOut, sEx, eVar, bVar, eC, eV, dat, vE, eBin, eUn, eTup, vLst, aCons, aNil, eIxV, slD, atD, L2.atI, L2.ixN, eCall, tOf, truD, Dl.tAndT, Dl.tOrT, Dl.tNotT, eAnd, eOr, eIf, notD, eChain, addA_int, subD, negD, absD, lenD, Dl.intD, tupD, cmpD, eqD_ii, neD_ii, eqD_ss, neD_ss, isi_ii, isi_ib, isi_is, isi_it, isi_tt, isi_ti, isi_ts, isi_ss, isi_si, isi_st, a1, a2]
theorem net_ok {f : Rat} (hf : Am 60 f) : m_net [bookD n ms, rowD pl, qD f] = some (.v (rowD (rng n (ntF ms pl f)))) := by
  have a1 := net_of_ok h hp hk1 hk hf
  have a2 := check_plan_ok h hp
  have a3 := check_factor_ok hf
  unfold m_net b_net
  simp [fnP, runG, sSeq, sIf, sNil, sRet, sRetV, sSet, setOut, sPar, parOut, sEx, eVar, bVar, eC, eV, dat, vE, eBin, eUn, eTup, vLst, aCons, aNil, eIxV, slD, atD, L2.atI, L2.ixN, eCall, tOf, truD, Dl.tAndT, Dl.tOrT, Dl.tNotT, eAnd, eOr, eIf, notD, eChain, addA_int, subD, negD, absD, lenD, Dl.intD, tupD, cmpD, eqD_ii, neD_ii, eqD_ss, neD_ss, isi_ii, isi_ib, isi_is, isi_it, isi_tt, isi_ti, isi_ts, isi_ss, isi_si, isi_st, a1, a2, a3]
theorem work_in_ok : m_work_in [bookD n ms, rowD pl] = some (.v (qD (wkF ms pl))) := by
  have e1 : iZipU (aCons (eIxV 0 (eC (.int 1))) (aCons (eVar 1) aNil)) [.v (bookD n ms), .v (rowD pl), .no, .no] = some ((ms.zip pl).map encP, [.v (bookD n ms), .v (rowD pl), .no, .no]) :=
    zipU_of (F := meD) (H := qD) (d := mesD ms) (e := rowD pl) (ar_cons (ixV_v rfl rfl rfl rfl) (ar_cons (f := eVar 1) rfl ar_nil)) rfl rfl
  have lc := vLc_map (fi := iZipU (aCons (eIxV 0 (eC (.int 1))) (aCons (eVar 1) aNil))) (t := gTup (gsCons (gVar 2) (gsCons (gVar 3) gsNil)) 2) (c := cYes) (f := eV (eCall m_times (aCons (eVar 3) (aCons (eIxV 2 (eC (.int 2))) aNil)))) (vs := [2, 3])
    (g := [.v (bookD n ms), .v (rowD pl), .no, .no]) (g0 := [.v (bookD n ms), .v (rowD pl), .no, .no]) (xs := ms.zip pl) encP (fun p => qD (p.2 * p.1.work)) e1 (by simp [okW]) (by have := zip_len h hp; omega) (fun p hq => by
      have hz := zip_ok h hp p hq
      have m1 := times_ok (hz.2.b.mono (k := 4400) (by omega)) (hz.1.work.b.mono (by decide))
      exact ⟨[.v (bookD n ms), .v (rowD pl), .v (meD p.1), .v (qD p.2)], [.v (bookD n ms), .v (rowD pl), .v (meD p.1), .v (qD p.2)], rfl, rfl, eV_v (eCall_of (ar_cons (f := eVar 3) rfl (ar_cons (ixV_v rfl rfl rfl rfl) ar_nil)) m1), rfl⟩)
  have a1 := (total_ok (f := fun p : Me × Rat => p.2 * p.1.work) (l := ms.zip pl) (k := k + 60) (fun p hq => (zip_ok h hp p hq).2.b.mul (zip_ok h hp p hq).1.work.b) (by omega) (zip_len h hp)).2
  unfold m_work_in
  exact fnP_ret [.v (bookD n ms), .v (rowD pl), .no, .no] rfl (ret_v (eCall_of (ar_cons (eV_o lc) ar_nil) a1))
theorem work_of_ok : m_work_of [bookD n ms, rowD pl] = some (.v (qD (wkF ms pl))) := by
  have a1 := work_in_ok h hp hk1 hk
  have a2 := check_plan_ok h hp
  unfold m_work_of b_work_of
  simp [fnP, runG, sSeq, sIf, sNil, sRet, sRetV, sSet, setOut, sPar, parOut, sEx, eVar, bVar, eC, eV, dat, vE, eBin, eUn, eTup, vLst, aCons, aNil, eIxV, slD, atD, L2.atI, L2.ixN, eCall, tOf, truD, Dl.tAndT, Dl.tOrT, Dl.tNotT, eAnd, eOr, eIf, notD, eChain, addA_int, subD, negD, absD, lenD, Dl.intD, tupD, cmpD, eqD_ii, neD_ii, eqD_ss, neD_ss, isi_ii, isi_ib, isi_is, isi_it, isi_tt, isi_ti, isi_ts, isi_ss, isi_si, isi_st, a1, a2]
end
def wo (l m : List Rat) : Rat := S (fun p : Rat × Rat => p.1 * p.2) (l.zip m)
theorem worth_ok {j k : Nat} {l m : List Rat} (hl : B0L j l) (hm : B0L k m) (hj : j + k ≤ 4000) (h6 : l.length ≤ 20) : m_worth [rowD l, rowD m] = some (.v (qD (wo l m))) := by
  have e1 : iZipU (aCons (eVar 0) (aCons (eVar 1) aNil)) [.v (rowD l), .v (rowD m), .no, .no] = some ((l.zip m).map fun p => .tuple [qD p.1, qD p.2], [.v (rowD l), .v (rowD m), .no, .no]) := zipU_of (F := qD) (H := qD) rfl rfl rfl
  have lc := vLc_map (fi := iZipU (aCons (eVar 0) (aCons (eVar 1) aNil))) (t := gTup (gsCons (gVar 2) (gsCons (gVar 3) gsNil)) 2) (c := cYes) (f := eV (eCall m_times (aCons (eVar 2) (aCons (eVar 3) aNil)))) (vs := [2, 3])
    (g := [.v (rowD l), .v (rowD m), .no, .no]) (g0 := [.v (rowD l), .v (rowD m), .no, .no]) (xs := l.zip m) (fun p => .tuple [qD p.1, qD p.2]) (fun p => qD (p.1 * p.2)) e1 (by simp [okW]) (by simp; omega) (fun p hq => by
      have m1 := times_ok ((hl _ (List.of_mem_zip hq).1).mono (k := 4400) (by omega)) ((hm _ (List.of_mem_zip hq).2).mono (by omega))
      exact ⟨[.v (rowD l), .v (rowD m), .v (qD p.1), .v (qD p.2)], [.v (rowD l), .v (rowD m), .v (qD p.1), .v (qD p.2)], rfl, rfl, eV_v (eCall_of (ar_cons (f := eVar 2) rfl (ar_cons (f := eVar 3) rfl ar_nil)) m1), rfl⟩)
  have a1 := (total_ok (f := fun p : Rat × Rat => p.1 * p.2) (l := l.zip m) (k := j + k) (fun p hq => (hl _ (List.of_mem_zip hq).1).mul (hm _ (List.of_mem_zip hq).2)) (by omega) (by simp; omega)).2
  unfold m_worth
  exact fnP_ret [.v (rowD l), .v (rowD m), .no, .no] rfl (ret_v (eCall_of (ar_cons (eV_o lc) ar_nil) a1))
theorem wo_b0 {j k : Nat} {l m : List Rat} (hl : B0L j l) (hm : B0L k m) (h6 : l.length ≤ 6) : B0 (1 + 6 * (j + k + 1)) (wo l m) := by
  have hz : (l.zip m).length ≤ 6 := by simp; omega
  have := Nat.mul_le_mul_right (j + k + 1) hz
  exact (S_b1 (f := fun p : Rat × Rat => p.1 * p.2) (l := l.zip m) (k := j + k) fun p hq => (hl _ (List.of_mem_zip hq).1).mul (hm _ (List.of_mem_zip hq).2)).mono (by omega)
def coF (m : Me) (ps : List Rat) (f : Rat) : Rat := f * wo m.uses ps + m.work
theorem cost_of_ok {n : Nat} {m : Me} {ps : List Rat} {f : Rat} (hn : n ≤ 6) (hm : MeOk n m) (hp : AmL 60 ps) (hf : Am 60 f) : m_cost_of [meD m, rowD ps, qD f] = some (.v (qD (coF m ps f))) := by
  have hl := hm.len
  have a1 := worth_ok hm.uses.b0 hp.b0 (by decide) (by omega)
  have b1 := wo_b0 hm.uses.b0 hp.b0 (by omega)
  have a2 := times_ok (hf.b.mono (k := 4400) (by decide)) (b1.mono (by decide))
  have a3 := plus_ok ((hf.b.mul b1).mono (k := 400000) (by decide)) (hm.work.b.mono (by decide))
  unfold m_cost_of b_cost_of meD
  simp [fnP, runG, sSeq, sIf, sNil, sRet, sRetV, sSet, setOut, sPar, parOut, sEx, eVar, bVar, eC, eV, dat, vE, eBin, eUn, eTup, vLst, aCons, aNil, eIxV, slD, atD, L2.atI, L2.ixN, eCall, tOf, truD, Dl.tAndT, Dl.tOrT, Dl.tNotT, eAnd, eOr, eIf, notD, eChain, addA_int, subD, negD, absD, lenD, Dl.intD, tupD, cmpD, eqD_ii, neD_ii, eqD_ss, neD_ss, isi_ii, isi_ib, isi_is, isi_it, isi_tt, isi_ti, isi_ts, isi_ss, isi_si, isi_st, a1, a2, a3]
  rfl
theorem co_b0 {n : Nat} {m : Me} {ps : List Rat} {f : Rat} (hn : n ≤ 6) (hm : MeOk n m) (hp : AmL 60 ps) (hf : Am 60 f) : B0 900 (coF m ps f) := by
  have hl := hm.len
  have b1 := wo_b0 hm.uses.b0 hp.b0 (by omega)
  exact ((hf.b.mul b1).add hm.work.b).mono (by decide)
theorem cost_ok {n : Nat} {ms : List Me} {i : Nat} {m : Me} {ps : List Rat} {f : Rat} (h : BookOk n ms) (hi : ms[i]? = some m) (hp : AmL 60 ps) (hl : ps.length = n) (hf : Am 60 f) : m_cost [bookD n ms, .int i, rowD ps, qD f] = some (.v (qD (coF m ps f))) := by
  have h0 := (List.getElem?_eq_some_iff.mp hi).1
  have hm := h.ok m (List.mem_of_getElem? hi)
  have a1 := check_book_ok h
  have a2 := is_method_number_ok (n := n) h0
  have a3 := check_prices_ok (ms := ms) h.hi hp hl
  have a4 := check_factor_ok hf
  have a5 := cost_of_ok h.hi hm hp hf
  have a6 : atD (mesD ms) (.int i) = some (meD m) := atD_map hi
  have g0 : ∀ (z : Option Out), z = z := fun z => rfl
  unfold m_cost
  refine fnP_ret (g' := [.v (bookD n ms), .v (.int i), .v (rowD ps), .v (qD f)]) [.v (bookD n ms), .v (.int i), .v (rowD ps), .v (qD f)] rfl ?_
  refine seq_nx (ex_of (eV_v (eCall_of (ar_cons (f := eVar 0) rfl ar_nil) a1))) (seq_nx (if_f (h := sNil) (tNot_of (b := true) (tOf_b (eV_v (eCall_of (ar_cons (f := eVar 0) rfl (ar_cons (f := eVar 1) rfl ar_nil)) a2)))) rfl)
    (seq_nx (ex_of (eV_v (eCall_of (ar_cons (f := eVar 0) rfl (ar_cons (f := eVar 2) rfl ar_nil)) a3))) (seq_nx (ex_of (eV_v (eCall_of (ar_cons (f := eVar 3) rfl ar_nil) a4))) ?_)))
  have v1 : eBin atD (eIxV 0 (eC (.int 1))) (eVar 1) [.v (bookD n ms), .v (.int i), .v (rowD ps), .v (qD f)] = some (meD m, [.v (bookD n ms), .v (.int i), .v (rowD ps), .v (qD f)]) := eBin_of (h := eVar 1) (ixV_v rfl rfl rfl rfl) rfl a6
  exact ret_v (eCall_of (ar_cons v1 (ar_cons (f := eVar 2) rfl (ar_cons (f := eVar 3) rfl ar_nil))) a5)
end K03
set_option Elab.async false
set_option linter.all false
set_option maxRecDepth 100000
namespace K03
open PySem Dl

theorem lcGo_filter {α : Type} {t : Fg} {c : Ft} {f : Fe} {vs : List Nat} {g : G} (enc : α → D) (h : α → D) (p : α → Bool) : ∀ (xs : List α), (∀ x ∈ xs, ∃ g1 g2, t (enc x) g = some g1 ∧ c g1 = some (p x, g2) ∧ wipeG g2 vs = g ∧ ∃ g3, f g2 = some (h x, g3) ∧ wipeG g3 vs = g) → lcGo t c f vs (xs.map enc) g = some ((xs.filter p).map h, g)
  | [], _ => rfl
  | d :: r, H => by
    obtain ⟨g1, g2, h1, h2, h3, g3, h4, h5⟩ := H d (List.mem_cons_self ..)
    have ih := lcGo_filter enc h p r fun d hd => H d (List.mem_cons_of_mem _ hd)
    by_cases e : p d = true
    · simp [lcGo, h1, h2, h4, h5, ih, e]
    · simp only [Bool.not_eq_true] at e
      simp [lcGo, h1, h2, h3, ih, e]
theorem vLc_filter {α : Type} {fi : Fa} {t : Fg} {c : Ft} {f : Fe} {vs : List Nat} {g g0 : G} {xs : List α} (enc : α → D) (h : α → D) (p : α → Bool) (hi : fi g = some (xs.map enc, g0)) (ok : okW g0 vs = true) (hl : xs.length ≤ 1000000)
    (H : ∀ x ∈ xs, ∃ g1 g2, t (enc x) (wipeG g0 vs) = some g1 ∧ c g1 = some (p x, g2) ∧ wipeG g2 vs = wipeG g0 vs ∧ ∃ g3, f g2 = some (h x, g3) ∧ wipeG g3 vs = wipeG g0 vs) : vLc fi t c f vs g = some (.own none ((xs.filter p).map h), backG g0 (wipeG g0 vs) vs) := by
  have e := lcGo_filter enc h p xs H
  have l : (xs.filter p).length ≤ xs.length := List.length_filter_le ..
  exact vLc_of hi ok e (by simp; omega)
theorem zip_swp {α β : Type} : ∀ (l : List α) (m : List β), m.zip l = (l.zip m).map fun p => (p.2, p.1)
  | [], m => by cases m <;> rfl
  | x :: xs, [] => rfl
  | x :: xs, y :: ys => by simp [zip_swp xs ys]
def encS (p : Me × Rat) : D := .tuple [qD p.2, meD p.1]
section
variable {n k : Nat} {ms : List Me} {pl : List Rat} (h : BookOk n ms) (hp : PlanOk k ms pl) (hk1 : 1 ≤ k) (hk : k ≤ 121)
include h hp hk1 hk
theorem zip_encS (z : G) (e0 : aCons (eVar 1) (aCons (eIxV 0 (eC (.int 1))) aNil) z = some ([rowD pl, mesD ms], z)) : iZipU (aCons (eVar 1) (aCons (eIxV 0 (eC (.int 1))) aNil)) z = some ((ms.zip pl).map encS, z) := by
  have e := zipU_of (F := qD) (H := meD) e0 rfl rfl
  rw [zip_swp ms pl, List.map_map] at e
  exact e
theorem law_made_ok : m__law_made [bookD n ms, rowD pl] = some (.v (rowD (rng n (mdF ms pl)))) := by
  have hn := h.hi
  obtain ⟨g', L, z3, hE⟩ := forGo_acc (t := gVar 3) (b := sEx (eApp 2 (eCall m__law_total (aCons (eV (vLc (iZipU (aCons (eVar 1) (aCons (eIxV 0 (eC (.int 1))) aNil))) (gTup (gsCons (gVar 4) (gsCons (gVar 5) gsNil)) 2) (tOf (eBin eqD (eIxV 5 (eC (.int 0))) (eVar 3))) (eVar 4) [4, 5])) aNil))))
    (fun i : Nat => (.int i : D)) (fun i => qD (mdF ms pl i)) (fun acc g => ∃ z3, g = [.v (bookD n ms), .v (rowD pl), .own none acc, z3, .no, .no]) 6 (List.range n) [] [.v (bookD n ms), .v (rowD pl), .own none [], .no, .no, .no] (by simp; omega)
    (fun i hi acc g hacc hE => by
      obtain ⟨z3, rfl⟩ := hE
      refine ⟨[.v (bookD n ms), .v (rowD pl), .own none acc, .v (.int i), .no, .no], [.v (bookD n ms), .v (rowD pl), .own none (acc ++ [qD (mdF ms pl i)]), .v (.int i), .no, .no], rfl, ?_, _, rfl⟩
      have e1 := zip_encS h hp hk1 hk [.v (bookD n ms), .v (rowD pl), .own none acc, .v (.int i), .no, .no] (ar_cons (f := eVar 1) rfl (ar_cons (ixV_v rfl rfl rfl rfl) ar_nil))
      have lc := vLc_filter (fi := iZipU (aCons (eVar 1) (aCons (eIxV 0 (eC (.int 1))) aNil))) (t := gTup (gsCons (gVar 4) (gsCons (gVar 5) gsNil)) 2) (c := tOf (eBin eqD (eIxV 5 (eC (.int 0))) (eVar 3))) (f := eVar 4) (vs := [4, 5])
        (xs := ms.zip pl) encS (fun p => qD p.2) (fun p => decide (p.1.good = i)) e1 (by simp [okW]) (by have := zip_len h hp; omega) (fun p hq => by
          refine ⟨[.v (bookD n ms), .v (rowD pl), .own none acc, .v (.int i), .v (qD p.2), .v (meD p.1)], [.v (bookD n ms), .v (rowD pl), .own none acc, .v (.int i), .v (qD p.2), .v (meD p.1)], rfl, ?_, rfl, _, rfl, rfl⟩
          have v1 : eIxV 5 (eC (.int 0)) [.v (bookD n ms), .v (rowD pl), .own none acc, .v (.int i), .v (qD p.2), .v (meD p.1)] = some (.int p.1.good, [.v (bookD n ms), .v (rowD pl), .own none acc, .v (.int i), .v (qD p.2), .v (meD p.1)]) := ixV_v rfl rfl rfl rfl
          have v2 := eBin_of (h := eVar 3) v1 rfl (eqD_ii (p.1.good : Int) (i : Int))
          have e : decide ((p.1.good : Int) = (i : Int)) = decide (p.1.good = i) := decide_eq_decide.mpr (by omega)
          rw [e] at v2
          exact tOf_b v2)
      have a1 := (total_ok (f := fun p : Me × Rat => p.2) (l := (ms.zip pl).filter fun p => decide (p.1.good = i)) (k := k) (fun p hq => (zip_ok h hp p (List.mem_filter.mp hq).1).2.b) (by omega) (Nat.le_trans (List.length_filter_le ..) (zip_len h hp))).1
      rw [S_filter] at a1
      have e2 : S (fun p : Me × Rat => if decide (p.1.good = i) = true then p.2 else 0) (ms.zip pl) = mdF ms pl i := by simp [mdF]
      rw [e2] at a1
      exact ex_of (app_of rfl (eV_v (eCall_of (ar_cons (eV_o lc) ar_nil) a1)) rfl (by omega))) ⟨_, rfl⟩
  subst hE
  have r1 : iRange1 (aCons (eIxV 0 (eC (.int 0))) aNil) [.v (bookD n ms), .v (rowD pl), .own none [], .no, .no, .no] = some ((List.range n).map fun (i : Nat) => .int (i : Int), [.v (bookD n ms), .v (rowD pl), .own none [], .no, .no, .no]) := rng_of (ar_cons (ixV_v rfl rfl rfl rfl) ar_nil) (by omega)
  have s0 : sSet 2 (vLst aNil) [.v (bookD n ms), .v (rowD pl), .no, .no, .no, .no] = some (.nx [.v (bookD n ms), .v (rowD pl), .own none [], .no, .no, .no]) := rfl
  unfold m__law_made
  refine fnP_ret [.v (bookD n ms), .v (rowD pl), .no, .no, .no, .no] rfl (seq_nx s0 (seq_nx (for_of r1 L) (ret_v (vE_of (eUn_of (f := bVar 2) rfl ?_)))))
  show some (PyData.tuple _) = some (rowD _)
  unfold rowD
  rw [← row_rng]
  rfl
theorem law_used_ok : m__law_used [bookD n ms, rowD pl] = some (.v (rowD (rng n (usF ms pl)))) := by
  have hn := h.hi
  obtain ⟨g', L, z3, hE⟩ := forGo_acc (t := gVar 3) (b := sEx (eApp 2 (eCall m__law_total (aCons (eV (vLc (iZipU (aCons (eVar 1) (aCons (eIxV 0 (eC (.int 1))) aNil))) (gTup (gsCons (gVar 4) (gsCons (gVar 5) gsNil)) 2) cYes (eV (eCall m__law_times (aCons (eVar 4) (aCons (eBin atD (eIxV 5 (eC (.int 1))) (eVar 3)) aNil)))) [4, 5])) aNil))))
    (fun i : Nat => (.int i : D)) (fun i => qD (usF ms pl i)) (fun acc g => ∃ z3, g = [.v (bookD n ms), .v (rowD pl), .own none acc, z3, .no, .no]) 6 (List.range n) [] [.v (bookD n ms), .v (rowD pl), .own none [], .no, .no, .no] (by simp; omega)
    (fun i hi acc g hacc hE => by
      obtain ⟨z3, rfl⟩ := hE
      have hi : i < n := List.mem_range.mp hi
      refine ⟨[.v (bookD n ms), .v (rowD pl), .own none acc, .v (.int i), .no, .no], [.v (bookD n ms), .v (rowD pl), .own none (acc ++ [qD (usF ms pl i)]), .v (.int i), .no, .no], rfl, ?_, _, rfl⟩
      have e1 := zip_encS h hp hk1 hk [.v (bookD n ms), .v (rowD pl), .own none acc, .v (.int i), .no, .no] (ar_cons (f := eVar 1) rfl (ar_cons (ixV_v rfl rfl rfl rfl) ar_nil))
      have lc := vLc_map (fi := iZipU (aCons (eVar 1) (aCons (eIxV 0 (eC (.int 1))) aNil))) (t := gTup (gsCons (gVar 4) (gsCons (gVar 5) gsNil)) 2) (c := cYes) (f := eV (eCall m__law_times (aCons (eVar 4) (aCons (eBin atD (eIxV 5 (eC (.int 1))) (eVar 3)) aNil)))) (vs := [4, 5])
        (xs := ms.zip pl) encS (fun p => qD (p.2 * p.1.uses.getD i 0)) e1 (by simp [okW]) (by have := zip_len h hp; omega) (fun p hq => by
          have hz := zip_ok h hp p hq
          have m1 := law_times_ok (hz.2.b.mono (k := 4400) (by omega)) ((getD_b0 hz.1.uses.b0 (by decide) i).mono (by decide))
          refine ⟨[.v (bookD n ms), .v (rowD pl), .own none acc, .v (.int i), .v (qD p.2), .v (meD p.1)], [.v (bookD n ms), .v (rowD pl), .own none acc, .v (.int i), .v (qD p.2), .v (meD p.1)], rfl, rfl, ?_, rfl⟩
          have v1 : eIxV 5 (eC (.int 1)) [.v (bookD n ms), .v (rowD pl), .own none acc, .v (.int i), .v (qD p.2), .v (meD p.1)] = some (rowD p.1.uses, [.v (bookD n ms), .v (rowD pl), .own none acc, .v (.int i), .v (qD p.2), .v (meD p.1)]) := ixV_v rfl rfl rfl rfl
          have hu : p.1.uses[i]? = some (p.1.uses.getD i 0) := by
            have : i < p.1.uses.length := by rw [hz.1.len]; exact hi
            simp [this]
          have v2 := eBin_of (op := atD) (h := eVar 3) (d2 := .int i) v1 rfl (atD_map hu)
          exact eV_v (eCall_of (ar_cons (f := eVar 4) rfl (ar_cons v2 ar_nil)) m1))
      have a1 := (total_ok (f := fun p : Me × Rat => p.2 * p.1.uses.getD i 0) (l := ms.zip pl) (k := k + 60) (fun p hq => (zip_ok h hp p hq).2.b.mul (getD_b0 (zip_ok h hp p hq).1.uses.b0 (by decide) i)) (by omega) (zip_len h hp)).1
      exact ex_of (app_of rfl (eV_v (eCall_of (ar_cons (eV_o lc) ar_nil) a1)) rfl (by omega))) ⟨_, rfl⟩
  subst hE
  have r1 : iRange1 (aCons (eIxV 0 (eC (.int 0))) aNil) [.v (bookD n ms), .v (rowD pl), .own none [], .no, .no, .no] = some ((List.range n).map fun (i : Nat) => .int (i : Int), [.v (bookD n ms), .v (rowD pl), .own none [], .no, .no, .no]) := rng_of (ar_cons (ixV_v rfl rfl rfl rfl) ar_nil) (by omega)
  have s0 : sSet 2 (vLst aNil) [.v (bookD n ms), .v (rowD pl), .no, .no, .no, .no] = some (.nx [.v (bookD n ms), .v (rowD pl), .own none [], .no, .no, .no]) := rfl
  unfold m__law_used
  refine fnP_ret [.v (bookD n ms), .v (rowD pl), .no, .no, .no, .no] rfl (seq_nx s0 (seq_nx (for_of r1 L) (ret_v (vE_of (eUn_of (f := bVar 2) rfl ?_)))))
  show some (PyData.tuple _) = some (rowD _)
  unfold rowD
  rw [← row_rng]
  rfl
theorem law_work_ok : m__law_work [bookD n ms, rowD pl] = some (.v (qD (wkF ms pl))) := by
  have e1 := zip_encS h hp hk1 hk [.v (bookD n ms), .v (rowD pl), .no, .no] (ar_cons (f := eVar 1) rfl (ar_cons (ixV_v rfl rfl rfl rfl) ar_nil))
  have lc := vLc_map (fi := iZipU (aCons (eVar 1) (aCons (eIxV 0 (eC (.int 1))) aNil))) (t := gTup (gsCons (gVar 2) (gsCons (gVar 3) gsNil)) 2) (c := cYes) (f := eV (eCall m__law_times (aCons (eVar 2) (aCons (eIxV 3 (eC (.int 2))) aNil)))) (vs := [2, 3])
    (xs := ms.zip pl) encS (fun p => qD (p.2 * p.1.work)) e1 (by simp [okW]) (by have := zip_len h hp; omega) (fun p hq => by
      have hz := zip_ok h hp p hq
      have m1 := law_times_ok (hz.2.b.mono (k := 4400) (by omega)) (hz.1.work.b.mono (by decide))
      exact ⟨[.v (bookD n ms), .v (rowD pl), .v (qD p.2), .v (meD p.1)], [.v (bookD n ms), .v (rowD pl), .v (qD p.2), .v (meD p.1)], rfl, rfl, eV_v (eCall_of (ar_cons (f := eVar 2) rfl (ar_cons (ixV_v rfl rfl rfl rfl) ar_nil)) m1), rfl⟩)
  have a1 := (total_ok (f := fun p : Me × Rat => p.2 * p.1.work) (l := ms.zip pl) (k := k + 60) (fun p hq => (zip_ok h hp p hq).2.b.mul (zip_ok h hp p hq).1.work.b) (by omega) (zip_len h hp)).1
  unfold m__law_work
  exact fnP_ret [.v (bookD n ms), .v (rowD pl), .no, .no] rfl (ret_v (eCall_of (ar_cons (eV_o lc) ar_nil) a1))
theorem law_net_ok {f : Rat} (hf : Am 60 f) : m__law_net [bookD n ms, rowD pl, qD f] = some (.v (rowD (rng n (ntF ms pl f)))) := by
  have a1 := law_made_ok h hp hk1 hk
  have a2 := law_used_ok h hp hk1 hk
  have e0 : aCons (eV (eCall m__law_made (aCons (eVar 0) (aCons (eVar 1) aNil)))) (aCons (eV (eCall m__law_used (aCons (eVar 0) (aCons (eVar 1) aNil)))) aNil) [.v (bookD n ms), .v (rowD pl), .v (qD f), .no, .no, .no] = some ([rowD (rng n (mdF ms pl)), rowD (rng n (usF ms pl))], [.v (bookD n ms), .v (rowD pl), .v (qD f), .no, .no, .no]) :=
    ar_cons (eV_v (eCall_of (ar_cons (f := eVar 0) rfl (ar_cons (f := eVar 1) rfl ar_nil)) a1)) (ar_cons (eV_v (eCall_of (ar_cons (f := eVar 0) rfl (ar_cons (f := eVar 1) rfl ar_nil)) a2)) ar_nil)
  have e1 := zipU_of (F := qD) (H := qD) e0 rfl rfl
  obtain ⟨Z, hZ⟩ : ∃ Z, Z = ((rng n (mdF ms pl)).zip (rng n (usF ms pl))).map fun p => (.tuple [qD p.1, qD p.2] : D) := ⟨_, rfl⟩
  rw [← hZ] at e1
  have e2 : sSet 3 (vZip (aCons (eV (eCall m__law_made (aCons (eVar 0) (aCons (eVar 1) aNil)))) (aCons (eV (eCall m__law_used (aCons (eVar 0) (aCons (eVar 1) aNil)))) aNil))) [.v (bookD n ms), .v (rowD pl), .v (qD f), .no, .no, .no] = some (.nx [.v (bookD n ms), .v (rowD pl), .v (qD f), .own none Z, .no, .no]) := by
    refine set_o (ds := Z) (g1 := [.v (bookD n ms), .v (rowD pl), .v (qD f), .no, .no, .no]) ?_
    unfold vZip
    rw [e1]
    rfl
  have e3 : iSeq (eVar 3) [.v (bookD n ms), .v (rowD pl), .v (qD f), .own none Z, .no, .no] = some (((rng n (mdF ms pl)).zip (rng n (usF ms pl))).map fun p => (.tuple [qD p.1, qD p.2] : D), [.v (bookD n ms), .v (rowD pl), .v (qD f), .v (.list Z), .no, .no]) := by
    rw [← hZ]
    exact iSeq_of (f := eVar 3) rfl rfl
  have lc := lcGo_pair (fa := aNil) (t := gTup (gsCons (gVar 4) (gsCons (gVar 5) gsNil)) 2) (f := eV (eCall m__law_minus (aCons (eVar 4) (aCons (eV (eCall m__law_times (aCons (eVar 2) (aCons (eVar 5) aNil)))) aNil)))) (vs := [4, 5])
    n (mdF ms pl) (usF ms pl) (ntF ms pl f) h.hi e3 (by simp [okW]) (fun i hi => by
      have m1 := law_times_ok (hf.b.mono (k := 4400) (by decide)) ((us_b0 h hp i).mono (by omega))
      have m2 := law_minus_ok ((md_b0 h hp hk1 i).mono (k := 400000) (by omega)) ((fu_b0 h hp hf.b i).mono (by omega))
      have v1 : eV (eCall m__law_times (aCons (eVar 2) (aCons (eVar 5) aNil))) [.v (bookD n ms), .v (rowD pl), .v (qD f), .v (.list Z), .v (qD (mdF ms pl i)), .v (qD (usF ms pl i))] = some (qD (f * usF ms pl i), [.v (bookD n ms), .v (rowD pl), .v (qD f), .v (.list Z), .v (qD (mdF ms pl i)), .v (qD (usF ms pl i))]) :=
        eV_v (eCall_of (ar_cons (f := eVar 2) rfl (ar_cons (f := eVar 5) rfl ar_nil)) m1)
      exact ⟨_, _, rfl, eV_v (eCall_of (ar_cons (f := eVar 4) (g := [.v (bookD n ms), .v (rowD pl), .v (qD f), .v (.list Z), .v (qD (mdF ms pl i)), .v (qD (usF ms pl i))]) rfl (ar_cons v1 ar_nil)) m2), rfl⟩)
  unfold m__law_net
  exact fnP_ret [.v (bookD n ms), .v (rowD pl), .v (qD f), .no, .no, .no] rfl (seq_nx e2 (ret_v (vE_of (eUn_of (op := tupD) (eV_o lc) rfl))))
end
end K03
set_option Elab.async false
set_option linter.all false
set_option maxRecDepth 100000
namespace K03
open PySem Dl

theorem isi2_of {d : D} {n T U : String} {a b : Bool} (h : tyD d = some n) (k : L2.kitB n T = some a) (k2 : L2.kitB n U = some b) : isi2D T U d = some (.bool (a || b)) := by
  unfold isi2D
  rw [h]
  simp only [Option.bind_some, k, k2]
theorem isi2_i {i : Int} : isi2D "tuple" "list" (.int i) = some (.bool false) := isi2_of (a := false) (b := false) rfl (by decide +kernel) (by decide +kernel)
theorem isi2_t {l : List D} : isi2D "tuple" "list" (.tuple l) = some (.bool true) := isi2_of (a := true) (b := false) rfl (by decide +kernel) (by decide +kernel)
theorem isi2_l {l : List D} : isi2D "tuple" "list" (.list l) = some (.bool true) := isi2_of (a := false) (b := true) rfl (by decide +kernel) (by decide +kernel)
theorem isi_tl {i : List D} : isiD "tuple" (.list i) = some (.bool false) := isiD_of rfl (by decide +kernel)
theorem neD_bb (b : Bool) : neD (.bool b) (.bool b) = some (.bool false) := by cases b <;> rfl
theorem is_int {me : List D → Option Sl} (i : Int) : fnP (b__law_is me) 4 [.int i, .int i] = some (.v (.bool true)) := by
  have c1 : tOf (eUn (isi2D "tuple" "list") (eVar 1)) [.v (.int i), .v (.int i), .no, .no] = some (false, [.v (.int i), .v (.int i), .no, .no]) := tOf_b (eUn_of (f := eVar 1) rfl isi2_i)
  have c2 : tOf (eBin neD (eUn (isiD "bool") (eVar 0)) (eUn (isiD "bool") (eVar 1))) [.v (.int i), .v (.int i), .no, .no] = some (false, [.v (.int i), .v (.int i), .no, .no]) := tOf_b (eBin_of (eUn_of (f := eVar 0) rfl isi_ib) (eUn_of (f := eVar 1) rfl isi_ib) (neD_bb false))
  have c3 : tOf (eBin neD (eUn (isiD "int") (eVar 0)) (eUn (isiD "int") (eVar 1))) [.v (.int i), .v (.int i), .no, .no] = some (false, [.v (.int i), .v (.int i), .no, .no]) := tOf_b (eBin_of (eUn_of (f := eVar 0) rfl isi_ii) (eUn_of (f := eVar 1) rfl isi_ii) (neD_bb true))
  exact fnP_ret [.v (.int i), .v (.int i), .no, .no] rfl (seq_nx (if_f c1 rfl) (seq_nx (if_f (tOr_f c2 c3) rfl) (ret_v (vE_of (eBin_of (f := eVar 0) (h := eVar 1) rfl rfl (eqD_t rfl))))))
theorem zip_self {α : Type} : ∀ l : List α, l.zip l = l.map fun d => (d, d)
  | [] => rfl
  | x :: xs => by simp [zip_self xs]
theorem is_seq {me : List D → Option Sl} {X : D} {ds : List D} {b : Bool} (h2 : isi2D "tuple" "list" X = some (.bool true)) (h1 : isiD "tuple" X = some (.bool b)) (hs : seqD X = some ds) (hl : lenD X = some (.int (ds.length : Nat))) (hn : ds.length ≤ 1000)
    (H : ∀ d ∈ ds, me [d, d] = some (.v (.bool true))) : fnP (b__law_is me) 4 [X, X] = some (.v (.bool true)) := by
  have c1 : tOf (eUn (isi2D "tuple" "list") (eVar 1)) [.v X, .v X, .no, .no] = some (true, [.v X, .v X, .no, .no]) := tOf_b (eUn_of (f := eVar 1) rfl h2)
  have c2 : tOf (eBin neD (eUn (isiD "tuple") (eVar 0)) (eUn (isiD "tuple") (eVar 1))) [.v X, .v X, .no, .no] = some (false, [.v X, .v X, .no, .no]) := tOf_b (eBin_of (eUn_of (f := eVar 0) rfl h1) (eUn_of (f := eVar 1) rfl h1) (neD_bb b))
  have c3 : Dl.tNotT (tOf (eUn (isi2D "tuple" "list") (eVar 0))) [.v X, .v X, .no, .no] = some (!true, [.v X, .v X, .no, .no]) := tNot_of (tOf_b (eUn_of (f := eVar 0) rfl h2))
  have c4 : eBin eqD (eUn lenD (bVar 0)) (eUn lenD (bVar 1)) [.v X, .v X, .no, .no] = some (.bool true, [.v X, .v X, .no, .no]) := eBin_of (eUn_of (f := bVar 0) rfl hl) (eUn_of (f := bVar 1) rfl hl) (eqD_t rfl)
  have e1 : iZipU (aCons (eVar 0) (aCons (eVar 1) aNil)) [.v X, .v X, .no, .no] = some (ds.map fun d => .tuple [d, d], [.v X, .v X, .no, .no]) := by
    have := zipU_of (f := aCons (eVar 0) (aCons (eVar 1) aNil)) (F := fun d : D => d) (H := fun d : D => d) (g := [.v X, .v X, .no, .no]) (g1 := [.v X, .v X, .no, .no]) (l := ds) (m := ds) rfl (by rw [hs, List.map_id']) (by rw [hs, List.map_id'])
    rw [zip_self, List.map_map] at this
    exact this
  have lc := vLc_map (t := gTup (gsCons (gVar 2) (gsCons (gVar 3) gsNil)) 2) (c := cYes) (f := eV (eCall me (aCons (eVar 2) (aCons (eVar 3) aNil)))) (vs := [2, 3]) (xs := ds) (fun d : D => .tuple [d, d]) (fun _ => .bool true) e1 (by simp [okW]) (by omega) (fun d hd =>
    ⟨[.v X, .v X, .v d, .v d], [.v X, .v X, .v d, .v d], rfl, rfl, eV_v (eCall_of (ar_cons (f := eVar 2) rfl (ar_cons (f := eVar 3) rfl ar_nil)) (H d hd)), rfl⟩)
  have a1 := allD_map (fun _ : D => true) ds
  have e2 : (ds.all fun _ => true) = true := by simp
  rw [e2] at a1
  exact fnP_ret [.v X, .v X, .no, .no] rfl (seq_ret (if_t c1 (seq_nx (if_f (tOr_f c2 c3) rfl) (ret_v (vE_of (eAnd_t c4 (eUn_of (eV_o lc) a1)))))))
theorem is_tup {me : List D → Option Sl} {ds : List D} (hn : ds.length ≤ 1000) (H : ∀ d ∈ ds, me [d, d] = some (.v (.bool true))) : fnP (b__law_is me) 4 [.tuple ds, .tuple ds] = some (.v (.bool true)) := is_seq isi2_t isi_tt rfl rfl hn H
theorem is_q (m : Nat) (r : Rat) : mr__law_is (m + 2) [qD r, qD r] = some (.v (.bool true)) := by
  show fnP (b__law_is (mr__law_is (m + 1))) 4 [qD r, qD r] = _
  refine is_tup (by simp) fun d hd => ?_
  simp only [List.mem_cons, List.not_mem_nil, or_false] at hd
  rcases hd with rfl | rfl
  · exact is_int _
  · exact is_int _
theorem is_row (m : Nat) (l : List Rat) (hl : l.length ≤ 1000) : mr__law_is (m + 3) [rowD l, rowD l] = some (.v (.bool true)) := by
  show fnP (b__law_is (mr__law_is (m + 2))) 4 [rowD l, rowD l] = _
  refine is_tup (by simp; exact hl) fun d hd => ?_
  obtain ⟨r, _, rfl⟩ := List.mem_map.mp hd
  exact is_q m r
theorem law_is_ok (a b c : List Rat) (r : Rat) (ha : a.length ≤ 1000) (hb : b.length ≤ 1000) (hc : c.length ≤ 1000) : m__law_is [.list [rowD a, rowD b, rowD c, qD r], .list [rowD a, rowD b, rowD c, qD r]] = some (.v (.bool true)) := by
  show fnP (b__law_is (mr__law_is 7)) 4 _ = _
  refine is_seq isi2_l isi_tl rfl rfl (by simp) fun d hd => ?_
  simp only [List.mem_cons, List.not_mem_nil, or_false] at hd
  rcases hd with rfl | rfl | rfl | rfl
  · exact is_row 4 a ha
  · exact is_row 4 b hb
  · exact is_row 4 c hc
  · exact is_q 5 r
theorem call2 {m : List D → Option Sl} {a b d : D} {g : G} (i j : Nat) (h1 : eVar i g = some (a, g)) (h2 : eVar j g = some (b, g)) (h : m [a, b] = some (.v d)) : eV (eCall m (aCons (eVar i) (aCons (eVar j) aNil))) g = some (d, g) := eV_v (eCall_of (ar_cons h1 (ar_cons h2 ar_nil)) h)
theorem call3 {m : List D → Option Sl} {a b c d : D} {g : G} (i j k : Nat) (h1 : eVar i g = some (a, g)) (h2 : eVar j g = some (b, g)) (h3 : eVar k g = some (c, g)) (h : m [a, b, c] = some (.v d)) : eV (eCall m (aCons (eVar i) (aCons (eVar j) (aCons (eVar k) aNil)))) g = some (d, g) := eV_v (eCall_of (ar_cons h1 (ar_cons h2 (ar_cons h3 ar_nil))) h)
section
variable {n : Nat} {ms : List Me} {pl : List Rat} {f : Rat} (h : BookOk n ms) (hp : PlanOk 60 ms pl) (hf : Am 60 f)
include h hp hf
theorem law_right_ok : m__law_right [bookD n ms, rowD pl, qD f] = some (.v (.bool true)) := by
  have hn := h.hi
  have hl : ∀ F, (rng n F).length ≤ 1000 := fun F => by rw [rng_len]; omega
  obtain ⟨L, hL⟩ : ∃ L, L = [rowD (rng n (mdF ms pl)), rowD (rng n (usF ms pl)), rowD (rng n (ntF ms pl f)), qD (wkF ms pl)] := ⟨_, rfl⟩
  have a0 := law_is_ok (rng n (mdF ms pl)) (rng n (usF ms pl)) (rng n (ntF ms pl f)) (wkF ms pl) (hl _) (hl _) (hl _)
  rw [← hL] at a0
  have s1 : sSet 3 (vLst (aCons (eV (eCall m_made (aCons (eVar 0) (aCons (eVar 1) aNil)))) (aCons (eV (eCall m_used (aCons (eVar 0) (aCons (eVar 1) aNil)))) (aCons (eV (eCall m_net (aCons (eVar 0) (aCons (eVar 1) (aCons (eVar 2) aNil))))) (aCons (eV (eCall m_work_of (aCons (eVar 0) (aCons (eVar 1) aNil)))) aNil)))))
      [.v (bookD n ms), .v (rowD pl), .v (qD f), .no, .no] = some (.nx [.v (bookD n ms), .v (rowD pl), .v (qD f), .own none L, .no]) := by
    rw [hL]
    exact set_o (vLst_of (ar_cons (call2 0 1 rfl rfl (made_ok h hp (by decide) (by decide))) (ar_cons (call2 0 1 rfl rfl (used_ok h hp (by decide) (by decide))) (ar_cons (call3 0 1 2 rfl rfl rfl (net_ok h hp (by decide) (by decide) hf)) (ar_cons (call2 0 1 rfl rfl (work_of_ok h hp (by decide) (by decide))) ar_nil)))))
  have s2 : sSet 4 (vLst (aCons (eV (eCall m__law_made (aCons (eVar 0) (aCons (eVar 1) aNil)))) (aCons (eV (eCall m__law_used (aCons (eVar 0) (aCons (eVar 1) aNil)))) (aCons (eV (eCall m__law_net (aCons (eVar 0) (aCons (eVar 1) (aCons (eVar 2) aNil))))) (aCons (eV (eCall m__law_work (aCons (eVar 0) (aCons (eVar 1) aNil)))) aNil)))))
      [.v (bookD n ms), .v (rowD pl), .v (qD f), .own none L, .no] = some (.nx [.v (bookD n ms), .v (rowD pl), .v (qD f), .own none L, .own none L]) := by
    refine set_o (ds := L) (g1 := [.v (bookD n ms), .v (rowD pl), .v (qD f), .own none L, .no]) ?_
    have v := vLst_of (ar_cons (call2 (g := [.v (bookD n ms), .v (rowD pl), .v (qD f), .own none L, .no]) 0 1 rfl rfl (law_made_ok h hp (by decide) (by decide))) (ar_cons (call2 0 1 rfl rfl (law_used_ok h hp (by decide) (by decide))) (ar_cons (call3 0 1 2 rfl rfl rfl (law_net_ok h hp (by decide) (by decide) hf)) (ar_cons (call2 0 1 rfl rfl (law_work_ok h hp (by decide) (by decide))) ar_nil))))
    rw [v, hL]
  have v1 : eV (eCall m__law_is (aCons (eVar 3) (aCons (eVar 4) aNil))) [.v (bookD n ms), .v (rowD pl), .v (qD f), .own none L, .own none L] = some (.bool true, [.v (bookD n ms), .v (rowD pl), .v (qD f), .v (.list L), .v (.list L)]) := eV_v (eCall_of (ar_cons (f := eVar 3) rfl (ar_cons (f := eVar 4) rfl ar_nil)) a0)
  have v2 : eBin isBD (eV (eCall m_is_book (aCons (eVar 0) aNil))) (eC (.bool true)) [.v (bookD n ms), .v (rowD pl), .v (qD f), .v (.list L), .v (.list L)] = some (.bool true, [.v (bookD n ms), .v (rowD pl), .v (qD f), .v (.list L), .v (.list L)]) := eBin_of (h := eC (.bool true)) (eV_v (eCall_of (ar_cons (f := eVar 0) rfl ar_nil) (is_book_ok h))) rfl rfl
  have v3 : eBin isBD (eV (eCall m_is_plan (aCons (eVar 0) (aCons (eVar 1) aNil)))) (eC (.bool true)) [.v (bookD n ms), .v (rowD pl), .v (qD f), .v (.list L), .v (.list L)] = some (.bool true, [.v (bookD n ms), .v (rowD pl), .v (qD f), .v (.list L), .v (.list L)]) := eBin_of (h := eC (.bool true)) (call2 0 1 rfl rfl (is_plan_ok h hp)) rfl rfl
  unfold m__law_right
  exact fnP_ret [.v (bookD n ms), .v (rowD pl), .v (qD f), .no, .no] rfl (seq_nx s1 (seq_nx s2 (ret_v (vE_of (eAnd_t v1 (eAnd_t v2 v3))))))
end
end K03
set_option Elab.async false
set_option linter.all false
set_option maxRecDepth 100000
namespace K03
open PySem Dl

/-! ### sums of plans -/
def bo (p q : List Rat) : List Rat := (p.zip q).map fun x => x.1 + x.2
def mo (t : Rat) (p : List Rat) : List Rat := p.map fun x => t * x
theorem nn_of {r : Rat} (h : 0 ≤ r.num) : 0 ≤ r := Rat.num_nonneg.mp h
theorem Am.add {j k : Nat} {r s : Rat} (hr : Am j r) (hs : Am k s) : Am (j + k + 1) (r + s) := ⟨hr.b.add hs.b, Rat.num_nonneg.mpr (Rat.add_nonneg (nn_of hr.nn) (nn_of hs.nn))⟩
theorem Am.mul {j k : Nat} {r s : Rat} (hr : Am j r) (hs : Am k s) : Am (j + k) (r * s) := ⟨hr.b.mul hs.b, Rat.num_nonneg.mpr (Rat.mul_nonneg (nn_of hr.nn) (nn_of hs.nn))⟩
theorem S_bo (φ : Me → Rat → Rat) (hφ : ∀ m a b, φ m (a + b) = φ m a + φ m b) : ∀ (ms : List Me) (p q : List Rat), p.length = ms.length → q.length = ms.length → S (fun x : Me × Rat => φ x.1 x.2) (ms.zip (bo p q)) = S (fun x => φ x.1 x.2) (ms.zip p) + S (fun x => φ x.1 x.2) (ms.zip q)
  | [], _, _, _, _ => by simp [S, Rat.add_zero]
  | m :: ms, a :: p, b :: q, h1, h2 => by
    have ih := S_bo φ hφ ms p q (by simpa using h1) (by simpa using h2)
    have e : (m :: ms).zip (bo (a :: p) (b :: q)) = (m, a + b) :: ms.zip (bo p q) := rfl
    rw [e]
    simp only [S, List.zip_cons_cons]
    rw [ih, hφ]
    grind
theorem S_mo (t : Rat) (φ : Me → Rat → Rat) (hφ : ∀ m a, φ m (t * a) = t * φ m a) : ∀ (ms : List Me) (p : List Rat), S (fun x : Me × Rat => φ x.1 x.2) (ms.zip (mo t p)) = t * S (fun x => φ x.1 x.2) (ms.zip p)
  | [], _ => by simp [S]
  | m :: ms, [] => by simp [S, mo]
  | m :: ms, a :: p => by
    have ih := S_mo t φ hφ ms p
    have e : (m :: ms).zip (mo t (a :: p)) = (m, t * a) :: ms.zip (mo t p) := rfl
    rw [e]
    simp only [S, List.zip_cons_cons]
    rw [ih, hφ]
    grind
theorem md_bo (ms : List Me) (p q : List Rat) (h1 : p.length = ms.length) (h2 : q.length = ms.length) (g : Nat) : mdF ms (bo p q) g = mdF ms p g + mdF ms q g := S_bo (fun m a => if m.good = g then a else 0) (fun m a b => by split <;> grind) ms p q h1 h2
theorem us_bo (ms : List Me) (p q : List Rat) (h1 : p.length = ms.length) (h2 : q.length = ms.length) (g : Nat) : usF ms (bo p q) g = usF ms p g + usF ms q g := S_bo (fun m a => a * m.uses.getD g 0) (fun m a b => by grind) ms p q h1 h2
theorem wk_bo (ms : List Me) (p q : List Rat) (h1 : p.length = ms.length) (h2 : q.length = ms.length) : wkF ms (bo p q) = wkF ms p + wkF ms q := S_bo (fun m a => a * m.work) (fun m a b => by grind) ms p q h1 h2
theorem nt_bo (ms : List Me) (p q : List Rat) (h1 : p.length = ms.length) (h2 : q.length = ms.length) (f : Rat) (g : Nat) : ntF ms (bo p q) f g = ntF ms p f g + ntF ms q f g := by
  unfold ntF
  rw [md_bo ms p q h1 h2, us_bo ms p q h1 h2]
  grind
theorem md_mo (ms : List Me) (t : Rat) (p : List Rat) (g : Nat) : mdF ms (mo t p) g = t * mdF ms p g := S_mo t (fun m a => if m.good = g then a else 0) (fun m a => by split <;> grind) ms p
theorem us_mo (ms : List Me) (t : Rat) (p : List Rat) (g : Nat) : usF ms (mo t p) g = t * usF ms p g := S_mo t (fun m a => a * m.uses.getD g 0) (fun m a => by grind) ms p
theorem nt_mo (ms : List Me) (t : Rat) (p : List Rat) (f : Rat) (g : Nat) : ntF ms (mo t p) f g = t * ntF ms p f g := by
  unfold ntF
  rw [md_mo, us_mo]
  grind
theorem bo_ok {ms : List Me} {p q : List Rat} (hp : PlanOk 60 ms p) (hq : PlanOk 60 ms q) : PlanOk 121 ms (bo p q) := ⟨by simp [bo, hp.len, hq.len], fun r hr => by
  obtain ⟨x, hx, rfl⟩ := List.mem_map.mp hr
  exact (hp.am _ (List.of_mem_zip hx).1).add (hq.am _ (List.of_mem_zip hx).2)⟩
theorem mo_ok {ms : List Me} {p : List Rat} {t : Rat} (hp : PlanOk 60 ms p) (ht : Am 60 t) : PlanOk 120 ms (mo t p) := ⟨by simp [mo, hp.len], fun r hr => by
  obtain ⟨x, hx, rfl⟩ := List.mem_map.mp hr
  exact ht.mul (hp.am _ hx)⟩
theorem rng_congr {n : Nat} {F H : Nat → Rat} (h : ∀ g, g < n → F g = H g) : rng n F = rng n H := List.map_congr_left fun g hg => h g (List.mem_range.mp hg)
theorem mem_rng {n k : Nat} {F : Nat → Rat} (h : ∀ g, B0 k (F g)) : B0L k (rng n F) := fun r hr => by
  obtain ⟨g, _, rfl⟩ := List.mem_map.mp hr
  exact h g
/-- sums of two rows, as the law takes them -/
theorem lc_plus {l m : List Rat} {k : Nat} (hl : B0L k l) (hm : B0L k m) (hk : k ≤ 4400) (hn : l.length ≤ 1000) {fi : Fa} {g g0 : G} {i j : Nat} (hi : fi g = some ((l.zip m).map fun p => .tuple [qD p.1, qD p.2], g0)) (ok : okW g0 [i, j] = true)
    (E : ∀ x y : D, ∃ g1, gTup (gsCons (gVar i) (gsCons (gVar j) gsNil)) 2 (.tuple [x, y]) (wipeG g0 [i, j]) = some g1 ∧ eVar i g1 = some (x, g1) ∧ eVar j g1 = some (y, g1) ∧ wipeG g1 [i, j] = wipeG g0 [i, j]) :
    vLc fi (gTup (gsCons (gVar i) (gsCons (gVar j) gsNil)) 2) cYes (eV (eCall m__law_plus (aCons (eVar i) (aCons (eVar j) aNil)))) [i, j] g = some (.own none ((bo l m).map qD), backG g0 (wipeG g0 [i, j]) [i, j]) := by
  have lc := vLc_map (t := gTup (gsCons (gVar i) (gsCons (gVar j) gsNil)) 2) (c := cYes) (f := eV (eCall m__law_plus (aCons (eVar i) (aCons (eVar j) aNil)))) (xs := l.zip m) (fun p => .tuple [qD p.1, qD p.2]) (fun p => qD (p.1 + p.2)) hi ok (by simp; omega) (fun p hp => by
    obtain ⟨g1, h1, h2, h3, h4⟩ := E (qD p.1) (qD p.2)
    exact ⟨g1, g1, h1, rfl, call2 i j h2 h3 (law_plus_ok ((hl _ (List.of_mem_zip hp).1).mono (k := 400000) (by omega)) ((hm _ (List.of_mem_zip hp).2).mono hk)), h4⟩)
  have e : ((l.zip m).map fun p => qD (p.1 + p.2)) = (bo l m).map qD := by simp [bo]
  rw [e] at lc
  exact lc
theorem lc_times {l : List Rat} {t : Rat} (hl : B0L 4400 l) (ht : B0 4400 t) (hn : l.length ≤ 1000) {fi : Fa} {g g0 : G} {i j : Nat} (hi : fi g = some (l.map qD, g0)) (ok : okW g0 [i] = true)
    (E : ∀ x : D, ∃ g1, gVar i x (wipeG g0 [i]) = some g1 ∧ eVar j g1 = some (qD t, g1) ∧ eVar i g1 = some (x, g1) ∧ wipeG g1 [i] = wipeG g0 [i]) :
    vLc fi (gVar i) cYes (eV (eCall m__law_times (aCons (eVar j) (aCons (eVar i) aNil)))) [i] g = some (.own none ((mo t l).map qD), backG g0 (wipeG g0 [i]) [i]) := by
  have lc := vLc_map (t := gVar i) (c := cYes) (f := eV (eCall m__law_times (aCons (eVar j) (aCons (eVar i) aNil)))) (xs := l) qD (fun p => qD (t * p)) hi ok (by omega) (fun p hp => by
    obtain ⟨g1, h1, h2, h3, h4⟩ := E (qD p)
    exact ⟨g1, g1, h1, rfl, call2 j i h2 h3 (law_times_ok ht (hl _ hp)), h4⟩)
  have e : (l.map fun p => qD (t * p)) = (mo t l).map qD := by simp [mo]
  rw [e] at lc
  exact lc
theorem bo_rng (n : Nat) (F H : Nat → Rat) : bo (rng n F) (rng n H) = rng n fun g => F g + H g := zip_rng n F H fun p => p.1 + p.2
theorem mo_rng (n : Nat) (t : Rat) (F : Nat → Rat) : mo t (rng n F) = rng n fun g => t * F g := by simp [mo, rng]
theorem zip_row (f : Fa) {g : G} {l m : List Rat} (h : f g = some ([rowD l, rowD m], g)) : iZipU f g = some ((l.zip m).map fun p => .tuple [qD p.1, qD p.2], g) := zipU_of (F := qD) (H := qD) h rfl rfl
section
variable {n : Nat} {ms : List Me} {p q : List Rat} {f t : Rat} (h : BookOk n ms) (hp : PlanOk 60 ms p) (hq : PlanOk 60 ms q) (hf : Am 60 f) (ht : Am 60 t)
include h hp hq hf ht
theorem law_together_ok : m__law_together_right [bookD n ms, rowD p, rowD q, qD f, qD t] = some (.v (.bool true)) := by
  have hn := h.hi
  have hms := h.mhi
  have hpl := hp.len
  have hql := hq.len
  have hb := bo_ok hp hq
  have hm := mo_ok hp ht
  have n1 := net_ok h hp (by decide) (by decide) hf
  have n2 := net_ok h hq (by decide) (by decide) hf
  have n3 := net_ok h hb (by decide) (by decide) hf
  have n4 := net_ok h hm (by decide) (by decide) hf
  have b1 : B0L 4400 (rng n (ntF ms p f)) := mem_rng fun g => (nt_b0 h hp (by decide) hf.b g).mono (by decide)
  have b2 : B0L 4400 (rng n (ntF ms q f)) := mem_rng fun g => (nt_b0 h hq (by decide) hf.b g).mono (by decide)
  have w1 := work_of_ok h hp (by decide) (by decide)
  have w2 := work_of_ok h hq (by decide) (by decide)
  have w3 := work_of_ok h hb (by decide) (by decide)
  have wb : ∀ {p : List Rat}, PlanOk 60 ms p → B0 4400 (wkF ms p) := fun hp => by
    have hz := zip_len h hp
    have := Nat.mul_le_mul_right (60 + 60 + 1) hz
    exact (S_b1 (f := fun p : Me × Rat => p.2 * p.1.work) (k := 60 + 60) fun p hq => (zip_ok h hp p hq).2.b.mul (zip_ok h hp p hq).1.work.b).mono (by omega)
  have w4 := law_plus_ok ((wb hp).mono (k := 400000) (by decide)) (wb hq)
  rw [wk_bo ms p q hpl hql] at w3
  have e1 : rng n (ntF ms (bo p q) f) = bo (rng n (ntF ms p f)) (rng n (ntF ms q f)) := by
    rw [bo_rng]
    exact rng_congr fun g _ => nt_bo ms p q hpl hql f g
  have e2 : rng n (ntF ms (mo t p) f) = mo t (rng n (ntF ms p f)) := by
    rw [mo_rng]
    exact rng_congr fun g _ => nt_mo ms t p f g
  rw [e1] at n3
  rw [e2] at n4
  obtain ⟨N1, hN1⟩ : ∃ N1, N1 = rng n (ntF ms p f) := ⟨_, rfl⟩
  obtain ⟨N2, hN2⟩ : ∃ N2, N2 = rng n (ntF ms q f) := ⟨_, rfl⟩
  have l1 : N1.length ≤ 1000 := by rw [hN1, rng_len]; omega
  rw [← hN1, ← hN2] at n3
  rw [← hN1] at n1 n4 b1
  rw [← hN2] at n2 b2
  clear e1 e2
  have s1 := set_v (i := 5) (vE_of (eUn_of (op := tupD) (eV_o (lc_plus (k := 60) (i := 10) (j := 11) hp.am.b0 hq.am.b0 (by decide) (by omega) (zip_row (aCons (eVar 1) (aCons (eVar 2) aNil)) (g := [.v (bookD n ms), .v (rowD p), .v (rowD q), .v (qD f), .v (qD t), .no, .no, .no, .no, .no, .no, .no]) rfl) (by simp [okW]) (fun x y => ⟨_, rfl, rfl, rfl, rfl⟩))) rfl))
  have s2 := set_v (i := 6) (vE_of (eUn_of (op := tupD) (eV_o (lc_times (l := p) (t := t) (i := 10) (j := 4) (fun r hr => (hp.am.b0 r hr).mono (by decide)) (ht.b.mono (by decide)) (by omega) (iSeq_of (f := eVar 1) (d := rowD p) (g := [.v (bookD n ms), .v (rowD p), .v (rowD q), .v (qD f), .v (qD t), .v (rowD (bo p q)), .no, .no, .no, .no, .no, .no]) rfl rfl) (by simp [okW]) (fun x => ⟨_, rfl, rfl, rfl, rfl⟩))) rfl))
  have s3 : sPar3 7 8 9 (aCons (eV (eCall m_net (aCons (eVar 0) (aCons (eVar 1) (aCons (eVar 3) aNil))))) (aCons (eV (eCall m_net (aCons (eVar 0) (aCons (eVar 2) (aCons (eVar 3) aNil))))) (aCons (eV (eCall m_net (aCons (eVar 0) (aCons (eVar 5) (aCons (eVar 3) aNil))))) aNil)))
      [.v (bookD n ms), .v (rowD p), .v (rowD q), .v (qD f), .v (qD t), .v (rowD (bo p q)), .v (rowD (mo t p)), .no, .no, .no, .no, .no] = some (.nx [.v (bookD n ms), .v (rowD p), .v (rowD q), .v (qD f), .v (qD t), .v (rowD (bo p q)), .v (rowD (mo t p)), .v (rowD N1), .v (rowD N2), .v (rowD (bo N1 N2)), .no, .no]) := by
    have v := ar_cons (call3 (g := [.v (bookD n ms), .v (rowD p), .v (rowD q), .v (qD f), .v (qD t), .v (rowD (bo p q)), .v (rowD (mo t p)), .no, .no, .no, .no, .no]) 0 1 3 rfl rfl rfl n1) (ar_cons (call3 0 2 3 rfl rfl rfl n2) (ar_cons (call3 0 5 3 rfl rfl rfl n3) ar_nil))
    unfold sPar3
    rw [v]
    rfl
  have c1 := lc_plus (k := 4400) (i := 10) (j := 11) b1 b2 (by decide) l1 (zip_row (aCons (eVar 7) (aCons (eVar 8) aNil)) (g := [.v (bookD n ms), .v (rowD p), .v (rowD q), .v (qD f), .v (qD t), .v (rowD (bo p q)), .v (rowD (mo t p)), .v (rowD N1), .v (rowD N2), .v (rowD (bo N1 N2)), .no, .no]) rfl) (by simp [okW]) (fun x y => ⟨_, rfl, rfl, rfl, rfl⟩)
  have d1 := neD_row (bo N1 N2) (bo N1 N2)
  have c2 := lc_times (l := N1) (t := t) (i := 10) (j := 4) b1 (ht.b.mono (by decide)) l1 (iSeq_of (f := eVar 7) (d := rowD N1) (g := [.v (bookD n ms), .v (rowD p), .v (rowD q), .v (qD f), .v (qD t), .v (rowD (bo p q)), .v (rowD (mo t p)), .v (rowD N1), .v (rowD N2), .v (rowD (bo N1 N2)), .no, .no]) rfl rfl) (by simp [okW]) (fun x => ⟨_, rfl, rfl, rfl, rfl⟩)
  have d2 := neD_row (mo t N1) (mo t N1)
  have d3 := eqD_q (wkF ms p + wkF ms q) (wkF ms p + wkF ms q)
  rw [decide_eq_true rfl] at d1 d2 d3
  unfold m__law_together_right
  refine fnP_ret (g' := [.v (bookD n ms), .v (rowD p), .v (rowD q), .v (qD f), .v (qD t), .v (rowD (bo p q)), .v (rowD (mo t p)), .v (rowD N1), .v (rowD N2), .v (rowD (bo N1 N2)), .no, .no]) [.v (bookD n ms), .v (rowD p), .v (rowD q), .v (qD f), .v (qD t), .no, .no, .no, .no, .no, .no, .no] rfl (seq_nx s1 (seq_nx s2 (seq_nx s3 ?_)))
  refine seq_nx (if_f (h := sNil) (tOf_b (eBin_of (f := eVar 9) rfl (eUn_of (op := tupD) (eV_o c1) rfl) d1)) rfl) ?_
  refine seq_nx (if_f (h := sNil) (tOf_b (eBin_of (call3 0 6 3 rfl rfl rfl n4) (eUn_of (op := tupD) (eV_o c2) rfl) d2)) rfl) ?_
  exact ret_v (vE_of (eBin_of (call2 0 5 rfl rfl w3) (eV_v (eCall_of (ar_cons (call2 0 1 rfl rfl w1) (ar_cons (call2 0 2 rfl rfl w2) ar_nil)) w4)) d3))
end
end K03
set_option Elab.async false
set_option linter.all false
set_option maxRecDepth 100000
namespace K03
open PySem Dl

/-! ### what methods earn -/
theorem S_delta {n c : Nat} (a : Nat → Rat) (hc : c < n) : S (fun g => if c = g then a g else 0) (List.range n) = a c := by
  induction n with
  | zero => omega
  | succ n ih =>
    rw [List.range_succ, S_app]
    by_cases e : c = n
    · subst e
      have : S (fun g => if c = g then a g else 0) (List.range c) = 0 := by
        rw [S_congr (h := fun _ => 0) (fun x hx => if_neg (by have := List.mem_range.mp hx; omega)), S_zero]
      rw [this]
      simp [S, Rat.add_zero, Rat.zero_add]
    · rw [ih (by omega)]
      simp [S, e, Rat.add_zero]
theorem zip_getD {l : List Rat} {n : Nat} (hl : l.length = n) : l = rng n fun g => l.getD g 0 := by
  apply List.ext_getElem
  · simp [rng, hl]
  · intro i h1 h2
    simp [rng, h1]
theorem wo_rng {n : Nat} {l : List Rat} (hl : l.length = n) (F : Nat → Rat) : wo l (rng n F) = S (fun g => l.getD g 0 * F g) (List.range n) := by
  unfold wo
  have e : l.zip (rng n F) = (List.range n).map fun g => (l.getD g 0, F g) := by
    have := zip_rng n (fun g => l.getD g 0) F fun p => p
    rw [← zip_getD hl, List.map_id'] at this
    exact this
  rw [e, S_map]
def eaF (pr : List Rat) (f : Rat) (m : Me) (a : Rat) : Rat := a * (pr.getD m.good 0 - coF m pr f + m.work)
theorem worth_eq {n k : Nat} {ms : List Me} {pl pr : List Rat} {f : Rat} (h : BookOk n ms) (hp : PlanOk k ms pl) (hl : pr.length = n) : wo pr (rng n (ntF ms pl f)) = S (fun x : Me × Rat => eaF pr f x.1 x.2) (ms.zip pl) := by
  rw [wo_rng hl]
  have e1 : ∀ g, pr.getD g 0 * ntF ms pl f g = S (fun x : Me × Rat => (if x.1.good = g then x.2 * pr.getD g 0 else 0) + (-f) * (x.2 * (x.1.uses.getD g 0 * pr.getD g 0))) (ms.zip pl) := fun g => by
    unfold ntF mdF usF
    have a1 : S (fun p : Me × Rat => if p.1.good = g then p.2 * pr.getD g 0 else 0) (ms.zip pl) = pr.getD g 0 * S (fun p : Me × Rat => if p.1.good = g then p.2 else 0) (ms.zip pl) := by
      rw [← S_mul]
      exact S_congr fun x _ => by split <;> grind
    have a2 : S (fun p : Me × Rat => p.2 * (p.1.uses.getD g 0 * pr.getD g 0)) (ms.zip pl) = pr.getD g 0 * S (fun p : Me × Rat => p.2 * p.1.uses.getD g 0) (ms.zip pl) := by
      rw [← S_mul]
      exact S_congr fun x _ => by grind
    rw [S_add, S_mul, a1, a2]
    grind
  rw [S_congr (fun g _ => e1 g), S_swap]
  refine S_congr fun x hx => ?_
  have hm := (zip_ok h hp x hx).1
  rw [S_add, S_mul, S_mul, S_delta (fun g => x.2 * pr.getD g 0) hm.good]
  have e2 : S (fun g => x.1.uses.getD g 0 * pr.getD g 0) (List.range n) = wo x.1.uses pr := by
    have := wo_rng hm.len fun g => pr.getD g 0
    rw [← zip_getD hl] at this
    exact this.symm
  rw [e2]
  unfold eaF coF
  grind
theorem zipIdx_zip {ms : List Me} {pl : List Rat} (hl : pl.length = ms.length) : (ms.zipIdx).map (fun x => (x.1, pl.getD x.2 0)) = ms.zip pl := by
  apply List.ext_getElem
  · simp [hl]
  · intro i h1 h2
    have hi : i < ms.length := by simpa using h1
    have hi2 : i < pl.length := by omega
    simp [hi2]
section
variable {n : Nat} {ms : List Me} {pl pr : List Rat} {f : Rat} (h : BookOk n ms) (hp : PlanOk 60 ms pl) (hpr : AmL 60 pr) (hl : pr.length = n) (hf : Am 60 f)
include h hp hpr hl hf
theorem law_worth_ok : m__law_worth_right [bookD n ms, rowD pl, rowD pr, qD f] = some (.v (.bool true)) := by
  have hn := h.hi
  have hms := h.mhi
  have hpl := hp.len
  have n1 := net_ok h hp (by decide) (by decide) hf
  have b1 : B0L 3703 (rng n (ntF ms pl f)) := mem_rng fun g => (nt_b0 h hp (by decide) hf.b g).mono (by decide)
  have we := worth_eq (f := f) h hp hl
  obtain ⟨N1, hN1⟩ : ∃ N1, N1 = rng n (ntF ms pl f) := ⟨_, rfl⟩
  rw [← hN1] at n1 b1 we
  have e1 : iZipU (aCons (eVar 2) (aCons (eV (eCall m_net (aCons (eVar 0) (aCons (eVar 1) (aCons (eVar 3) aNil))))) aNil)) [.v (bookD n ms), .v (rowD pl), .v (rowD pr), .v (qD f), .no, .no, .no, .no, .no, .no, .no] = some ((pr.zip N1).map fun p => .tuple [qD p.1, qD p.2], [.v (bookD n ms), .v (rowD pl), .v (rowD pr), .v (qD f), .no, .no, .no, .no, .no, .no, .no]) :=
    zip_row _ (ar_cons (f := eVar 2) rfl (ar_cons (call3 0 1 3 rfl rfl rfl n1) ar_nil))
  have lc := vLc_map (t := gTup (gsCons (gVar 9) (gsCons (gVar 10) gsNil)) 2) (c := cYes) (f := eV (eCall m__law_times (aCons (eVar 9) (aCons (eVar 10) aNil)))) (vs := [9, 10]) (xs := pr.zip N1) (fun p => .tuple [qD p.1, qD p.2]) (fun p => qD (p.1 * p.2)) e1 (by simp [okW]) (by simp; omega) (fun p hq =>
    ⟨[.v (bookD n ms), .v (rowD pl), .v (rowD pr), .v (qD f), .no, .no, .no, .no, .no, .v (qD p.1), .v (qD p.2)], [.v (bookD n ms), .v (rowD pl), .v (rowD pr), .v (qD f), .no, .no, .no, .no, .no, .v (qD p.1), .v (qD p.2)], rfl, rfl, call2 9 10 rfl rfl (law_times_ok ((hpr.b0 _ (List.of_mem_zip hq).1).mono (k := 4400) (by decide)) ((b1 _ (List.of_mem_zip hq).2).mono (by decide))), rfl⟩)
  have t1 := (total_ok (f := fun p : Rat × Rat => p.1 * p.2) (l := pr.zip N1) (k := 3763) (fun p hq => ((hpr.b0 _ (List.of_mem_zip hq).1).mul (b1 _ (List.of_mem_zip hq).2)).mono (by decide)) (by decide) (by simp; omega)).1
  have t1 : m__law_total [.list ((pr.zip N1).map fun p => qD (p.1 * p.2))] = some (.v (qD (wo pr N1))) := t1
  have s1 : sSet 4 (eCall m__law_total (aCons (eV (vLc (iZipU (aCons (eVar 2) (aCons (eV (eCall m_net (aCons (eVar 0) (aCons (eVar 1) (aCons (eVar 3) aNil))))) aNil))) (gTup (gsCons (gVar 9) (gsCons (gVar 10) gsNil)) 2) cYes (eV (eCall m__law_times (aCons (eVar 9) (aCons (eVar 10) aNil)))) [9, 10])) aNil))
      [.v (bookD n ms), .v (rowD pl), .v (rowD pr), .v (qD f), .no, .no, .no, .no, .no, .no, .no] = some (.nx [.v (bookD n ms), .v (rowD pl), .v (rowD pr), .v (qD f), .v (qD (wo pr N1)), .no, .no, .no, .no, .no, .no]) :=
    set_v (eCall_of (ar_cons (eV_o lc) ar_nil) t1)
  rw [we] at s1
  obtain ⟨W, hW⟩ : ∃ W, W = S (fun x : Me × Rat => eaF pr f x.1 x.2) (ms.zip pl) := ⟨_, rfl⟩
  rw [← hW] at s1
  have gb : ∀ x ∈ ms.zipIdx, ms[x.2]? = some x.1 ∧ MeOk n x.1 ∧ pl[x.2]? = some (pl.getD x.2 0) ∧ B0 60 (pl.getD x.2 0) ∧ pr[x.1.good]? = some (pr.getD x.1.good 0) ∧ B0 60 (pr.getD x.1.good 0) := fun x hx => by
    have e := List.mem_zipIdx_iff_getElem?.mp hx
    have hm := h.ok _ (List.mem_of_getElem? e)
    have h0 := (List.getElem?_eq_some_iff.mp e).1
    have h1 : x.2 < pl.length := by omega
    have hg := hm.good
    have h2 : x.1.good < pr.length := by omega
    exact ⟨e, hm, by simp [h1], getD_b0 hp.am.b0 (by decide) _, by simp [h2], getD_b0 hpr.b0 (by decide) _⟩
  obtain ⟨g', L, hE⟩ := forGo_acc (t := gTup (gsCons (gVar 6) (gsCons (gVar 7) gsNil)) 2) (b := sSeq (sSet 8 (eCall m__law_minus (aCons (eIxV 2 (eIxV 7 (eC (.int 0)))) (aCons (eV (eCall m_cost (aCons (eVar 0) (aCons (eVar 6) (aCons (eVar 2) (aCons (eVar 3) aNil)))))) aNil))))
    (sEx (eApp 5 (eCall m__law_times (aCons (eIxV 1 (eVar 6)) (aCons (eV (eCall m__law_plus (aCons (eVar 8) (aCons (eIxV 7 (eC (.int 2))) aNil)))) aNil))))))
    (fun x : Me × Nat => (.tuple [.int (x.2 : Nat), meD x.1] : D)) (fun x => qD (eaF pr f x.1 (pl.getD x.2 0))) (fun acc g => ∃ z6 z7 z8, g = [.v (bookD n ms), .v (rowD pl), .v (rowD pr), .v (qD f), .v (qD W), .own none acc, z6, z7, z8, .no, .no]) 20 ms.zipIdx [] [.v (bookD n ms), .v (rowD pl), .v (rowD pr), .v (qD f), .v (qD W), .own none [], .no, .no, .no, .no, .no] (by simp; omega)
    (fun x hx acc g hacc hE => by
      obtain ⟨z6, z7, z8, rfl⟩ := hE
      obtain ⟨x1, x2, x3, x4, x5, x6⟩ := gb x hx
      have k1 := cost_ok h x1 hpr hl hf
      have cb := co_b0 hn x2 hpr hf
      have k2 := law_minus_ok (x6.mono (k := 400000) (by decide)) (cb.mono (by decide))
      have b2 := x6.sub cb
      have k3 := law_plus_ok (b2.mono (k := 400000) (by decide)) (x2.work.b.mono (by decide))
      have k4 := law_times_ok (x4.mono (k := 4400) (by decide)) ((b2.add x2.work.b).mono (by decide))
      refine ⟨[.v (bookD n ms), .v (rowD pl), .v (rowD pr), .v (qD f), .v (qD W), .own none acc, .v (.int (x.2 : Nat)), .v (meD x.1), z8, .no, .no], [.v (bookD n ms), .v (rowD pl), .v (rowD pr), .v (qD f), .v (qD W), .own none (acc ++ [qD (eaF pr f x.1 (pl.getD x.2 0))]), .v (.int (x.2 : Nat)), .v (meD x.1), .v (qD (pr.getD x.1.good 0 - coF x.1 pr f)), .no, .no], rfl, ?_, _, _, _, rfl⟩
      have v1 : eIxV 7 (eC (.int 0)) [.v (bookD n ms), .v (rowD pl), .v (rowD pr), .v (qD f), .v (qD W), .own none acc, .v (.int (x.2 : Nat)), .v (meD x.1), z8, .no, .no] = some (.int x.1.good, [.v (bookD n ms), .v (rowD pl), .v (rowD pr), .v (qD f), .v (qD W), .own none acc, .v (.int (x.2 : Nat)), .v (meD x.1), z8, .no, .no]) := ixV_v rfl rfl rfl rfl
      have i1 : atD (rowD pr) (.int (x.1.good : Int)) = some (qD (pr.getD x.1.good 0)) := atD_map (f := qD) x5
      have v2 : eIxV 2 (eIxV 7 (eC (.int 0))) [.v (bookD n ms), .v (rowD pl), .v (rowD pr), .v (qD f), .v (qD W), .own none acc, .v (.int (x.2 : Nat)), .v (meD x.1), z8, .no, .no] = some (qD (pr.getD x.1.good 0), [.v (bookD n ms), .v (rowD pl), .v (rowD pr), .v (qD f), .v (qD W), .own none acc, .v (.int (x.2 : Nat)), .v (meD x.1), z8, .no, .no]) := ixV_v rfl v1 rfl i1
      have v3 : eV (eCall m_cost (aCons (eVar 0) (aCons (eVar 6) (aCons (eVar 2) (aCons (eVar 3) aNil))))) [.v (bookD n ms), .v (rowD pl), .v (rowD pr), .v (qD f), .v (qD W), .own none acc, .v (.int (x.2 : Nat)), .v (meD x.1), z8, .no, .no] = some (qD (coF x.1 pr f), [.v (bookD n ms), .v (rowD pl), .v (rowD pr), .v (qD f), .v (qD W), .own none acc, .v (.int (x.2 : Nat)), .v (meD x.1), z8, .no, .no]) :=
        eV_v (eCall_of (ar_cons (f := eVar 0) rfl (ar_cons (f := eVar 6) rfl (ar_cons (f := eVar 2) rfl (ar_cons (f := eVar 3) rfl ar_nil)))) k1)
      have S1 := set_v (i := 8) (eCall_of (m := m__law_minus) (ar_cons v2 (ar_cons v3 ar_nil)) k2)
      have i2 : atD (rowD pl) (.int (x.2 : Nat)) = some (qD (pl.getD x.2 0)) := atD_map (f := qD) x3
      have v4 : eIxV 1 (eVar 6) [.v (bookD n ms), .v (rowD pl), .v (rowD pr), .v (qD f), .v (qD W), .own none acc, .v (.int (x.2 : Nat)), .v (meD x.1), .v (qD (pr.getD x.1.good 0 - coF x.1 pr f)), .no, .no] = some (qD (pl.getD x.2 0), [.v (bookD n ms), .v (rowD pl), .v (rowD pr), .v (qD f), .v (qD W), .own none acc, .v (.int (x.2 : Nat)), .v (meD x.1), .v (qD (pr.getD x.1.good 0 - coF x.1 pr f)), .no, .no]) := ixV_v rfl rfl rfl i2
      have v5 : eV (eCall m__law_plus (aCons (eVar 8) (aCons (eIxV 7 (eC (.int 2))) aNil))) [.v (bookD n ms), .v (rowD pl), .v (rowD pr), .v (qD f), .v (qD W), .own none acc, .v (.int (x.2 : Nat)), .v (meD x.1), .v (qD (pr.getD x.1.good 0 - coF x.1 pr f)), .no, .no] = some (qD (pr.getD x.1.good 0 - coF x.1 pr f + x.1.work), [.v (bookD n ms), .v (rowD pl), .v (rowD pr), .v (qD f), .v (qD W), .own none acc, .v (.int (x.2 : Nat)), .v (meD x.1), .v (qD (pr.getD x.1.good 0 - coF x.1 pr f)), .no, .no]) :=
        eV_v (eCall_of (ar_cons (f := eVar 8) rfl (ar_cons (ixV_v rfl rfl rfl rfl) ar_nil)) k3)
      exact seq_nx S1 (ex_of (app_of rfl (eV_v (eCall_of (ar_cons v4 (ar_cons v5 ar_nil)) k4)) rfl (by omega)))) ⟨_, _, _, rfl⟩
  obtain ⟨z6, z7, z8, rfl⟩ := hE
  have r1 : iEnum' (aCons (eIxV 0 (eC (.int 1))) aNil) [.v (bookD n ms), .v (rowD pl), .v (rowD pr), .v (qD f), .v (qD W), .own none [], .no, .no, .no, .no, .no] = some (ms.zipIdx.map fun x : Me × Nat => (.tuple [.int (x.2 : Nat), meD x.1] : D), [.v (bookD n ms), .v (rowD pl), .v (rowD pr), .v (qD f), .v (qD W), .own none [], .no, .no, .no, .no, .no]) := by
    have := enum_of (f := aCons (eIxV 0 (eC (.int 1))) aNil) (g := [.v (bookD n ms), .v (rowD pl), .v (rowD pr), .v (qD f), .v (qD W), .own none [], .no, .no, .no, .no, .no]) (d := mesD ms) (ds := ms.map meD) (ar_cons (ixV_v rfl rfl rfl rfl) ar_nil) rfl
    rw [pairL_map] at this
    exact this
  have s2 : sSet 5 (vLst aNil) [.v (bookD n ms), .v (rowD pl), .v (rowD pr), .v (qD f), .v (qD W), .no, .no, .no, .no, .no, .no] = some (.nx [.v (bookD n ms), .v (rowD pl), .v (rowD pr), .v (qD f), .v (qD W), .own none [], .no, .no, .no, .no, .no]) := rfl
  have t2 := (total_ok (f := fun x : Me × Nat => eaF pr f x.1 (pl.getD x.2 0)) (l := ms.zipIdx) (k := 1400) (fun x hx => by
    obtain ⟨x1, x2, x3, x4, x5, x6⟩ := gb x hx
    exact (x4.mul ((x6.sub (co_b0 hn x2 hpr hf)).add x2.work.b)).mono (by decide)) (by decide) (by simp; omega)).1
  have e5 : S (fun x : Me × Nat => eaF pr f x.1 (pl.getD x.2 0)) ms.zipIdx = W := by
    rw [hW, ← zipIdx_zip hpl, S_map]
  rw [e5] at t2
  have d3 := eqD_q W W
  rw [decide_eq_true rfl] at d3
  unfold m__law_worth_right
  refine fnP_ret [.v (bookD n ms), .v (rowD pl), .v (rowD pr), .v (qD f), .no, .no, .no, .no, .no, .no, .no] rfl (seq_nx s1 (seq_nx s2 (seq_nx (for_of r1 L) (ret_v (vE_of (eBin_of (f := eVar 4) rfl (eV_v (eCall_of (ar_cons (f := eVar 5) rfl ar_nil) t2)) d3))))))
end
end K03
set_option Elab.async false
set_option linter.all false
set_option maxRecDepth 100000
namespace K03
open PySem Dl

/-! ### the hand -/
def handL (cs : List Int) (p q r s : Int) : List D := [.list (cs.map .int), .int p, .int q, .int r, .int s]
def Hand (es : List D) : Prop := ∃ (cs : List Int) (p q r s : Int), es = handL cs p q r s ∧ 0 ≤ p ∧ 0 ≤ q
theorem ten18 : powD (.int 10) (.int 18) = some (.int 1000000000000000000) := by
  show (if (0 : Int) ≤ 18 ∧ (18 : Int) ≤ 1000000 ∧ Int.natAbs 10 < 2 ^ 64 then some (PyData.int (10 ^ (18 : Int).toNat)) else none) = _
  rw [if_pos (by decide)]
  rfl
theorem draw_first (cs : List Int) (p q r s m : Int) (hp : 0 ≤ p) (hq : 0 ≤ q) : ∃ (p' q' r' : Int) (z : Sl), 0 ≤ p' ∧ 0 ≤ q' ∧ ∀ t,
    sIf (Dl.tAndT (tOf (eBin eqD (eIxV 0 (eC (.int 2))) (eC (.int 0)))) (tOf (eBin ltD (eIxV 0 (eC (.int 1))) (eUn lenD (eIxV 0 (eC (.int 0))))))) (sSeq (sSet 2 (vE (eBin atD (eIxV 0 (eC (.int 0))) (eIxV 0 (eC (.int 1))))))
    (sSeq (sPut 0 (eC (.int 1)) (vE (eBin addA (eIxV 0 (eC (.int 1))) (eC (.int 1)))))
    (sSeq (sPut 0 (eC (.int 3)) (vE (eBin modD (eUn Dl.intD (eBin addA (eBin addA (eBin mulD (eIxV 0 (eC (.int 3))) (eC (.int 69621))) (eBin mulD (eVar 2) (eC (.int 40692)))) (eC (.int 31)))) (eC (.int 2147483629)))))
    (sIf (tOf (eBin geD (eVar 2) (eBin powD (eC (.int 10)) (eC (.int 18))))) (sPut 0 (eC (.int 2)) (vE (eVar 2))) sNil)))) sNil
      [.own t (handL cs p q r s), .v (.int m), .no, .no, .no] = some (.nx [.own t (handL cs p' q' r' s), .v (.int m), z, .no, .no]) := by
  have hl : lenD (.list (cs.map PyData.int)) = some (.int (cs.length : Nat)) := by simp [lenD]
  by_cases h0 : q = 0
  · subst h0
    have c1 : ∀ t, tOf (eBin eqD (eIxV 0 (eC (.int 2))) (eC (.int 0))) [.own t (handL cs p 0 r s), .v (.int m), .no, .no, .no] = some (true, [.own t (handL cs p 0 r s), .v (.int m), .no, .no, .no]) := fun t =>
      tOf_b (eBin_of (g1 := [.own t (handL cs p 0 r s), .v (.int m), .no, .no, .no]) (ixV_v rfl rfl rfl rfl) rfl (eqD_t rfl))
    have c2 : ∀ t, eUn lenD (eIxV 0 (eC (.int 0))) [.own t (handL cs p 0 r s), .v (.int m), .no, .no, .no] = some (.int (cs.length : Nat), [.own t (handL cs p 0 r s), .v (.int m), .no, .no, .no]) := fun t =>
      eUn_of (ixV_v rfl rfl rfl rfl) hl
    have c3 : ∀ t, eIxV 0 (eC (.int 1)) [.own t (handL cs p 0 r s), .v (.int m), .no, .no, .no] = some (.int p, [.own t (handL cs p 0 r s), .v (.int m), .no, .no, .no]) := fun t => ixV_v rfl rfl rfl rfl
    by_cases h1 : p < (cs.length : Nat)
    · obtain ⟨n, hn⟩ := Int.eq_ofNat_of_zero_le hp
      have h1n : n < cs.length := by omega
      obtain ⟨c, hcc⟩ : ∃ c, cs[n]? = some c := ⟨_, List.getElem?_eq_getElem h1n⟩
      have hc : atD (.list (cs.map PyData.int)) (.int p) = some (.int c) := by rw [hn]; exact atD_mapL hcc
      have T0 : ∀ t, Dl.tAndT (tOf (eBin eqD (eIxV 0 (eC (.int 2))) (eC (.int 0)))) (tOf (eBin ltD (eIxV 0 (eC (.int 1))) (eUn lenD (eIxV 0 (eC (.int 0)))))) [.own t (handL cs p 0 r s), .v (.int m), .no, .no, .no] = some (true, [.own t (handL cs p 0 r s), .v (.int m), .no, .no, .no]) := fun t =>
        tAnd_t (c1 t) (tOf_b (eBin_of (c3 t) (c2 t) (ltD_t h1)))
      have A1 : ∀ t, sSet 2 (vE (eBin atD (eIxV 0 (eC (.int 0))) (eIxV 0 (eC (.int 1))))) [.own t (handL cs p 0 r s), .v (.int m), .no, .no, .no] = some (.nx [.own t (handL cs p 0 r s), .v (.int m), .v (.int c), .no, .no]) := fun t => by
        have v1 : eIxV 0 (eC (.int 0)) [.own t (handL cs p 0 r s), .v (.int m), .no, .no, .no] = some (.list (cs.map .int), [.own t (handL cs p 0 r s), .v (.int m), .no, .no, .no]) := ixV_v rfl rfl rfl rfl
        exact set_v (vE_of (eBin_of v1 (c3 t) hc))
      have A2 : ∀ t, sPut 0 (eC (.int 1)) (vE (eBin addA (eIxV 0 (eC (.int 1))) (eC (.int 1)))) [.own t (handL cs p 0 r s), .v (.int m), .v (.int c), .no, .no] = some (.nx [.own t (handL cs (p + 1) 0 r s), .v (.int m), .v (.int c), .no, .no]) := fun t => by
        have v1 : eIxV 0 (eC (.int 1)) [.own t (handL cs p 0 r s), .v (.int m), .v (.int c), .no, .no] = some (.int p, [.own t (handL cs p 0 r s), .v (.int m), .v (.int c), .no, .no]) := ixV_v rfl rfl rfl rfl
        have v2 := eV_v (vE_of (eBin_of (h := eC (.int 1)) v1 rfl (addA_int p 1)))
        exact put_of (i := 0) (fj := eC (.int 1)) (k := 1) (j := 1) (ds := handL cs p 0 r s) v2 rfl rfl rfl rfl
      have A3 : ∀ t, sPut 0 (eC (.int 3)) (vE (eBin modD (eUn Dl.intD (eBin addA (eBin addA (eBin mulD (eIxV 0 (eC (.int 3))) (eC (.int 69621))) (eBin mulD (eVar 2) (eC (.int 40692)))) (eC (.int 31)))) (eC (.int 2147483629)))) [.own t (handL cs (p + 1) 0 r s), .v (.int m), .v (.int c), .no, .no] =
          some (.nx [.own t (handL cs (p + 1) 0 ((r * 69621 + c * 40692 + 31).fmod 2147483629) s), .v (.int m), .v (.int c), .no, .no]) := fun t => by
        have v1 : eIxV 0 (eC (.int 3)) [.own t (handL cs (p + 1) 0 r s), .v (.int m), .v (.int c), .no, .no] = some (.int r, [.own t (handL cs (p + 1) 0 r s), .v (.int m), .v (.int c), .no, .no]) := ixV_v rfl rfl rfl rfl
        have v2 := eBin_of (h := eC (.int 69621)) v1 rfl (mulD_of (i := r) (j := 69621) (mulOk_r (by decide)))
        have v3 : eBin mulD (eVar 2) (eC (.int 40692)) [.own t (handL cs (p + 1) 0 r s), .v (.int m), .v (.int c), .no, .no] = some (.int (c * 40692), [.own t (handL cs (p + 1) 0 r s), .v (.int m), .v (.int c), .no, .no]) := eBin_of rfl rfl (mulD_of (i := c) (j := 40692) (mulOk_r (by decide)))
        have v4 := eBin_of v2 v3 (addA_int _ _)
        have v5 := eBin_of (h := eC (.int 31)) v4 rfl (addA_int _ 31)
        have v6 := eBin_of (h := eC (.int 2147483629)) (eUn_of (op := Dl.intD) v5 rfl) rfl (modD_of (j := 2147483629) (by decide))
        exact put_of (i := 0) (fj := eC (.int 3)) (k := 3) (j := 3) (ds := handL cs (p + 1) 0 r s) (eV_v (vE_of v6)) rfl rfl rfl rfl
      have v7 : ∀ t r', eBin powD (eC (.int 10)) (eC (.int 18)) [.own t (handL cs (p + 1) 0 r' s), .v (.int m), .v (.int c), .no, .no] = some (.int 1000000000000000000, [.own t (handL cs (p + 1) 0 r' s), .v (.int m), .v (.int c), .no, .no]) := fun t r' => eBin_of rfl rfl ten18
      by_cases h2 : 1000000000000000000 ≤ c
      · refine ⟨p + 1, c, (r * 69621 + c * 40692 + 31).fmod 2147483629, .v (.int c), by omega, by omega, fun t => if_t (T0 t) (seq_nx (A1 t) (seq_nx (A2 t) (seq_nx (A3 t) (if_t (tOf_b (eBin_of (f := eVar 2) rfl (v7 t _) (geD_t h2))) ?_))))⟩
        have v8 : eV (vE (eVar 2)) [.own t (handL cs (p + 1) 0 ((r * 69621 + c * 40692 + 31).fmod 2147483629) s), .v (.int m), .v (.int c), .no, .no] = some (.int c, [.own t (handL cs (p + 1) 0 ((r * 69621 + c * 40692 + 31).fmod 2147483629) s), .v (.int m), .v (.int c), .no, .no]) := rfl
        exact put_of (i := 0) (fj := eC (.int 2)) (k := 2) (j := 2) (ds := handL cs (p + 1) 0 ((r * 69621 + c * 40692 + 31).fmod 2147483629) s) v8 rfl rfl rfl rfl
      · exact ⟨p + 1, 0, (r * 69621 + c * 40692 + 31).fmod 2147483629, .v (.int c), by omega, by omega, fun t => if_t (T0 t) (seq_nx (A1 t) (seq_nx (A2 t) (seq_nx (A3 t) (if_f (tOf_b (eBin_of (f := eVar 2) rfl (v7 t _) (geD_f h2))) rfl))))⟩
    · exact ⟨p, 0, r, .no, hp, by omega, fun t => if_f (tAnd_t (c1 t) (tOf_b (eBin_of (c3 t) (c2 t) (ltD_f h1)))) rfl⟩
  · refine ⟨p, q, r, .no, hp, hq, fun t => ?_⟩
    have c1 : tOf (eBin eqD (eIxV 0 (eC (.int 2))) (eC (.int 0))) [.own t (handL cs p q r s), .v (.int m), .no, .no, .no] = some (false, [.own t (handL cs p q r s), .v (.int m), .no, .no, .no]) :=
      tOf_b (eBin_of (g1 := [.own t (handL cs p q r s), .v (.int m), .no, .no, .no]) (ixV_v rfl rfl rfl rfl) rfl (eqD_f h0))
    exact if_f (tAnd_f c1) rfl
theorem fmod_rng (a : Int) {m : Int} (hm : 0 < m) : 0 ≤ a.fmod m ∧ a.fmod m < m := ⟨Int.fmod_nonneg_of_pos a hm, Int.fmod_lt_of_pos a hm⟩
theorem draw_ok {es : List D} {m : Int} (h : Hand es) (hm : 0 < m) (hm2 : m < 18446744073709551616) : ∃ x es', m__law_draw es [.int m] = some (.v (.int x), es') ∧ 0 ≤ x ∧ x < m ∧ Hand es' := by
  obtain ⟨cs, p, q, r, s, rfl, hp, hq⟩ := h
  obtain ⟨p', q', r', z, hp', hq', F⟩ := draw_first cs p q r s m hp hq
  have hd : Dl.DivOk m = true := divOk_s (by omega) (by omega)
  have hm0 : m ≠ 0 := by omega
  have c2 : ∀ a, eIxV 0 (eC (.int 2)) [.own (some a) (handL cs p' q' r' s), .v (.int m), z, .no, .no] = some (.int q', [.own (some a) (handL cs p' q' r' s), .v (.int m), z, .no, .no]) := fun a => ixV_v rfl rfl rfl rfl
  by_cases h1 : 0 < q'
  · refine ⟨q'.fmod m, handL cs p' (q'.fdiv m) r' s, ?_, (fmod_rng q' hm).1, (fmod_rng q' hm).2, ⟨cs, p', _, r', s, rfl, hp', Int.fdiv_nonneg hq' (by omega)⟩⟩
    unfold m__law_draw
    refine fnI_of fun a => ⟨[.own (some a) (handL cs p' (q'.fdiv m) r' s), .v (.int m), z, .v (.int (q'.fmod m)), .no], ?_, rfl⟩
    have S1 : sSet 3 (vE (eBin modD (eUn Dl.intD (eIxV 0 (eC (.int 2)))) (eVar 1))) [.own (some a) (handL cs p' q' r' s), .v (.int m), z, .no, .no] = some (.nx [.own (some a) (handL cs p' q' r' s), .v (.int m), z, .v (.int (q'.fmod m)), .no]) :=
      set_v (vE_of (eBin_of (h := eVar 1) (eUn_of (op := Dl.intD) (c2 a) rfl) rfl (modD_of hm0)))
    have S2 : sPut 0 (eC (.int 2)) (vE (eBin fdivD (eIxV 0 (eC (.int 2))) (eVar 1))) [.own (some a) (handL cs p' q' r' s), .v (.int m), z, .v (.int (q'.fmod m)), .no] = some (.nx [.own (some a) (handL cs p' (q'.fdiv m) r' s), .v (.int m), z, .v (.int (q'.fmod m)), .no]) := by
      have v1 : eIxV 0 (eC (.int 2)) [.own (some a) (handL cs p' q' r' s), .v (.int m), z, .v (.int (q'.fmod m)), .no] = some (.int q', [.own (some a) (handL cs p' q' r' s), .v (.int m), z, .v (.int (q'.fmod m)), .no]) := ixV_v rfl rfl rfl rfl
      exact put_of (i := 0) (fj := eC (.int 2)) (k := 2) (j := 2) (ds := handL cs p' q' r' s) (eV_v (vE_of (eBin_of (h := eVar 1) v1 rfl (fdivD_of hd)))) rfl rfl rfl rfl
    have S3 : sRetV 3 [.own (some a) (handL cs p' (q'.fdiv m) r' s), .v (.int m), z, .v (.int (q'.fmod m)), .no] = some (.ret (.v (.int (q'.fmod m))) [.own (some a) (handL cs p' (q'.fdiv m) r' s), .v (.int m), z, .v (.int (q'.fmod m)), .no]) := retV_v rfl
    unfold runG b__law_draw
    have e := seq_nx (F (some a)) (seq_ret (h := sSeq (sPut 0 (eC (.int 4)) (vE (eBin addA (eIxV 0 (eC (.int 4))) (eC (.int 1)))))
    (sSeq (sSet 4 (vE (eBin modD (eUn Dl.intD (eBin mulD (eUn Dl.intD (eBin addA (eIxV 0 (eC (.int 3))) (eBin mulD (eC (.int 7919)) (eIxV 0 (eC (.int 4)))))) (eC (.int 48271)))) (eC (.int 2147483647)))))
    (sSeq (sSet 4 (vE (eBin modD (eUn Dl.intD (eBin mulD (eVar 4) (eBin addA (eBin fdivD (eVar 4) (eC (.int 1009))) (eC (.int 69621))))) (eC (.int 2147483647)))))
    (sSeq (sSet 4 (vE (eBin modD (eUn Dl.intD (eBin mulD (eVar 4) (eBin addA (eBin fdivD (eVar 4) (eC (.int 2003))) (eC (.int 40014))))) (eC (.int 2147483563)))))
    (sRet (vE (eBin modD (eUn Dl.intD (eBin fdivD (eVar 4) (eC (.int 16)))) (eVar 1)))))))) (if_t (h := sNil) (tOf_b (eBin_of (h := eC (.int 0)) (c2 a) rfl (gtD_t h1))) (seq_nx S1 (seq_nx S2 S3))))
    exact congrArg (fun o => match o with
      | some (.ret x g') => some (x, g')
      | some (.nx g') => some (.v .none, g')
      | _ => none) e
  · have h0 : q' = 0 := by omega
    subst h0
    obtain ⟨w1, hw1⟩ : ∃ w1, w1 = ((r' + 7919 * (s + 1)) * 48271).fmod 2147483647 := ⟨_, rfl⟩
    obtain ⟨w2, hw2⟩ : ∃ w2, w2 = (w1 * (w1.fdiv 1009 + 69621)).fmod 2147483647 := ⟨_, rfl⟩
    obtain ⟨w3, hw3⟩ : ∃ w3, w3 = (w2 * (w2.fdiv 2003 + 40014)).fmod 2147483563 := ⟨_, rfl⟩
    have b1 := fmod_rng ((r' + 7919 * (s + 1)) * 48271) (m := 2147483647) (by decide)
    have b2 := fmod_rng (w1 * (w1.fdiv 1009 + 69621)) (m := 2147483647) (by decide)
    rw [← hw1] at b1
    rw [← hw2] at b2
    refine ⟨(w3.fdiv 16).fmod m, handL cs p' 0 r' (s + 1), ?_, (fmod_rng _ hm).1, (fmod_rng _ hm).2, ⟨cs, p', _, r', s + 1, rfl, hp', Int.le_refl _⟩⟩
    unfold m__law_draw
    refine fnI_of fun a => ⟨[.own (some a) (handL cs p' 0 r' (s + 1)), .v (.int m), z, .no, .v (.int w3)], ?_, rfl⟩
    have S1 : sPut 0 (eC (.int 4)) (vE (eBin addA (eIxV 0 (eC (.int 4))) (eC (.int 1)))) [.own (some a) (handL cs p' 0 r' s), .v (.int m), z, .no, .no] = some (.nx [.own (some a) (handL cs p' 0 r' (s + 1)), .v (.int m), z, .no, .no]) := by
      have v1 : eIxV 0 (eC (.int 4)) [.own (some a) (handL cs p' 0 r' s), .v (.int m), z, .no, .no] = some (.int s, [.own (some a) (handL cs p' 0 r' s), .v (.int m), z, .no, .no]) := ixV_v rfl rfl rfl rfl
      exact put_of (i := 0) (fj := eC (.int 4)) (k := 4) (j := 4) (ds := handL cs p' 0 r' s) (eV_v (vE_of (eBin_of (h := eC (.int 1)) v1 rfl (addA_int s 1)))) rfl rfl rfl rfl
    have S2 : sSet 4 (vE (eBin modD (eUn Dl.intD (eBin mulD (eUn Dl.intD (eBin addA (eIxV 0 (eC (.int 3))) (eBin mulD (eC (.int 7919)) (eIxV 0 (eC (.int 4)))))) (eC (.int 48271)))) (eC (.int 2147483647)))) [.own (some a) (handL cs p' 0 r' (s + 1)), .v (.int m), z, .no, .no] = some (.nx [.own (some a) (handL cs p' 0 r' (s + 1)), .v (.int m), z, .no, .v (.int w1)]) := by
      have v1 : eIxV 0 (eC (.int 4)) [.own (some a) (handL cs p' 0 r' (s + 1)), .v (.int m), z, .no, .no] = some (.int (s + 1), [.own (some a) (handL cs p' 0 r' (s + 1)), .v (.int m), z, .no, .no]) := ixV_v rfl rfl rfl rfl
      have v2 : eIxV 0 (eC (.int 3)) [.own (some a) (handL cs p' 0 r' (s + 1)), .v (.int m), z, .no, .no] = some (.int r', [.own (some a) (handL cs p' 0 r' (s + 1)), .v (.int m), z, .no, .no]) := ixV_v rfl rfl rfl rfl
      have v3 := eBin_of (f := eC (.int 7919)) rfl v1 (mulD_of (i := 7919) (mulOk_l (by decide)))
      have v4 := eBin_of v2 v3 (addA_int _ _)
      have v5 := eBin_of (h := eC (.int 48271)) (eUn_of (op := Dl.intD) v4 rfl) rfl (mulD_of (j := 48271) (mulOk_r (by decide)))
      have v6 := eBin_of (h := eC (.int 2147483647)) (eUn_of (op := Dl.intD) v5 rfl) rfl (modD_of (j := 2147483647) (by decide))
      rw [hw1]
      exact set_v (vE_of v6)
    have S3 : sSet 4 (vE (eBin modD (eUn Dl.intD (eBin mulD (eVar 4) (eBin addA (eBin fdivD (eVar 4) (eC (.int 1009))) (eC (.int 69621))))) (eC (.int 2147483647)))) [.own (some a) (handL cs p' 0 r' (s + 1)), .v (.int m), z, .no, .v (.int w1)] = some (.nx [.own (some a) (handL cs p' 0 r' (s + 1)), .v (.int m), z, .no, .v (.int w2)]) := by
      have v1 : eBin fdivD (eVar 4) (eC (.int 1009)) [.own (some a) (handL cs p' 0 r' (s + 1)), .v (.int m), z, .no, .v (.int w1)] = some (.int (w1.fdiv 1009), [.own (some a) (handL cs p' 0 r' (s + 1)), .v (.int m), z, .no, .v (.int w1)]) := eBin_of rfl rfl (fdivD_of (divOk_s (by decide) (by decide)))
      have v2 := eBin_of (h := eC (.int 69621)) v1 rfl (addA_int _ _)
      have v3 := eBin_of (f := eVar 4) (g := [.own (some a) (handL cs p' 0 r' (s + 1)), .v (.int m), z, .no, .v (.int w1)]) (d := .int w1) rfl v2 (mulD_of (i := w1) (mulOk_l (by omega)))
      have v4 := eBin_of (h := eC (.int 2147483647)) (eUn_of (op := Dl.intD) v3 rfl) rfl (modD_of (j := 2147483647) (by decide))
      rw [hw2]
      exact set_v (vE_of v4)
    have S4 : sSet 4 (vE (eBin modD (eUn Dl.intD (eBin mulD (eVar 4) (eBin addA (eBin fdivD (eVar 4) (eC (.int 2003))) (eC (.int 40014))))) (eC (.int 2147483563)))) [.own (some a) (handL cs p' 0 r' (s + 1)), .v (.int m), z, .no, .v (.int w2)] = some (.nx [.own (some a) (handL cs p' 0 r' (s + 1)), .v (.int m), z, .no, .v (.int w3)]) := by
      have v1 : eBin fdivD (eVar 4) (eC (.int 2003)) [.own (some a) (handL cs p' 0 r' (s + 1)), .v (.int m), z, .no, .v (.int w2)] = some (.int (w2.fdiv 2003), [.own (some a) (handL cs p' 0 r' (s + 1)), .v (.int m), z, .no, .v (.int w2)]) := eBin_of rfl rfl (fdivD_of (divOk_s (by decide) (by decide)))
      have v2 := eBin_of (h := eC (.int 40014)) v1 rfl (addA_int _ _)
      have v3 := eBin_of (f := eVar 4) (g := [.own (some a) (handL cs p' 0 r' (s + 1)), .v (.int m), z, .no, .v (.int w2)]) (d := .int w2) rfl v2 (mulD_of (i := w2) (mulOk_l (by omega)))
      have v4 := eBin_of (h := eC (.int 2147483563)) (eUn_of (op := Dl.intD) v3 rfl) rfl (modD_of (j := 2147483563) (by decide))
      rw [hw3]
      exact set_v (vE_of v4)
    have S5 : sRet (vE (eBin modD (eUn Dl.intD (eBin fdivD (eVar 4) (eC (.int 16)))) (eVar 1))) [.own (some a) (handL cs p' 0 r' (s + 1)), .v (.int m), z, .no, .v (.int w3)] = some (.ret (.v (.int ((w3.fdiv 16).fmod m))) [.own (some a) (handL cs p' 0 r' (s + 1)), .v (.int m), z, .no, .v (.int w3)]) := by
      have v1 : eBin fdivD (eVar 4) (eC (.int 16)) [.own (some a) (handL cs p' 0 r' (s + 1)), .v (.int m), z, .no, .v (.int w3)] = some (.int (w3.fdiv 16), [.own (some a) (handL cs p' 0 r' (s + 1)), .v (.int m), z, .no, .v (.int w3)]) := eBin_of rfl rfl (fdivD_of (divOk_s (by decide) (by decide)))
      exact ret_v (vE_of (eBin_of (h := eVar 1) (eUn_of (op := Dl.intD) v1 rfl) rfl (modD_of hm0)))
    unfold runG b__law_draw
    have e := seq_nx (F (some a)) (seq_nx (if_f (f := sSeq (sSet 3 (vE (eBin modD (eUn Dl.intD (eIxV 0 (eC (.int 2)))) (eVar 1)))) (sSeq (sPut 0 (eC (.int 2)) (vE (eBin fdivD (eIxV 0 (eC (.int 2))) (eVar 1)))) (sRetV 3))) (h := sNil) (tOf_b (eBin_of (h := eC (.int 0)) (c2 a) rfl (gtD_f h1))) rfl) (seq_nx S1 (seq_nx S2 (seq_nx S3 (seq_nx S4 S5)))))
    exact congrArg (fun o => match o with
      | some (.ret x g') => some (x, g')
      | some (.nx g') => some (.v .none, g')
      | _ => none) e
end K03
set_option Elab.async false
set_option linter.all false
set_option maxRecDepth 100000
namespace K03
open PySem Dl

theorem atI_mem {l : List D} {x : Int} (h0 : 0 ≤ x) (h : x < (l.length : Nat)) : ∃ d, L2.atI l x = some d ∧ d ∈ l := by
  obtain ⟨n, rfl⟩ := Int.eq_ofNat_of_zero_le h0
  have hn : n < l.length := by omega
  have := atI_map (f := id) (l := l) (i := n) (a := l[n]) (List.getElem?_eq_getElem hn)
  rw [List.map_id] at this
  exact ⟨l[n], this, List.getElem_mem hn⟩
theorem any_ok {es ds : List D} (h : Hand es) (hn : ds ≠ []) (hl : ds.length < 1000000) : ∃ d es', m__law_any es [.list ds] = some (.v d, es') ∧ d ∈ ds ∧ Hand es' := by
  have hp : 0 < ds.length := List.length_pos_iff.mpr hn
  obtain ⟨x, es', e, h0, h1, H⟩ := draw_ok h (m := (ds.length : Nat)) (by omega) (by omega)
  obtain ⟨d, hd, hm⟩ := atI_mem h0 h1
  refine ⟨d, es', ?_, hm, H⟩
  unfold m__law_any b__law_any
  refine fnI_ret fun a => ⟨[.own (some a) es', .v (.list ds)], ?_, rfl⟩
  have v1 : eCallI m__law_draw 0 (aCons (eUn lenD (bVar 1)) aNil) [.own (some a) es, .v (.list ds)] = some (.v (.int x), [.own (some a) es', .v (.list ds)]) := callI_of (i := 0) (g1 := [.own (some a) es, .v (.list ds)]) (t := some a) (ds := [.int (ds.length : Nat)]) rfl (ar_cons (eUn_of (op := lenD) (d := .list ds) rfl rfl) ar_nil) rfl e
  exact ret_v (vE_of (ixV_v rfl (eV_v v1) rfl hd))
theorem hand_ok (ns : List Int) (hl : ns.length ≤ 1000) : ∃ es, m__law_hand [.list (ns.map .int)] = some (.own none es) ∧ Hand es := by
  have hcl : (cutL ns none (some 63)).length ≤ 1000 := by
    unfold cutL
    simp only [List.length_take, List.length_drop]
    omega
  have v0 : eSlU (eVar 0) oNone (oSome (eC (.int 63))) [.v (.list (ns.map .int)), .no, .no] = some (.list ((cutL ns none (some 63)).map .int), [.v (.list (ns.map .int)), .no, .no]) := by
    have := eSlU_ofL (fa := eVar 0) (fl := oNone) (fh := oSome (eC (.int 63))) (g := [.v (.list (ns.map .int)), .no, .no]) (ds := ns.map .int) rfl rfl (oSome_of rfl)
    rw [cutL_map] at this
    exact this
  have v1 := vLc_map (fi := iSeq (eSlU (eVar 0) oNone (oSome (eC (.int 63))))) (t := gVar 2) (c := cYes) (f := eUn absD (eUn Dl.intD (bVar 2))) (vs := [2]) (g := [.v (.list (ns.map .int)), .no, .no]) (g0 := [.v (.list (ns.map .int)), .no, .no]) (xs := cutL ns none (some 63)) PyData.int (fun i => .int (if i < 0 then -i else i))
    (iSeq_of v0 rfl) rfl (by omega) (fun x hx => ⟨[.v (.list (ns.map .int)), .no, .v (.int x)], [.v (.list (ns.map .int)), .no, .v (.int x)], rfl, rfl, eUn_of (eUn_of rfl rfl) rfl, rfl⟩)
  obtain ⟨cs, hcs⟩ : ∃ cs : List Int, cs = (cutL ns none (some 63)).map fun i => if i < 0 then -i else i := ⟨_, rfl⟩
  have e : ((cutL ns none (some 63)).map fun i => PyData.int (if i < 0 then -i else i)) = cs.map PyData.int := by rw [hcs]; simp
  rw [e] at v1
  have s1 := set_o (i := 1) v1
  have l0 : lenD (.list (cs.map PyData.int)) = some (.int (cs.length : Nat)) := by simp [lenD]
  have w1 : eBin addA (eC (.int 61)) (eBin mulD (eC (.int 7)) (eUn lenD (bVar 1))) [.v (.list (ns.map .int)), .v (.list (cs.map .int)), .no] = some (.int (61 + 7 * (cs.length : Nat)), [.v (.list (ns.map .int)), .v (.list (cs.map .int)), .no]) := eBin_of rfl (eBin_of rfl (eUn_of rfl l0) (mulD_of (mulOk_l (by decide)))) (addA_int _ _)
  have w2 := vLst_of (f := aCons (eVar 1) (aCons (eC (.int 0)) (aCons (eC (.int 0)) (aCons (eBin addA (eC (.int 61)) (eBin mulD (eC (.int 7)) (eUn lenD (bVar 1)))) (aCons (eC (.int 0)) aNil))))) (g := [.v (.list (ns.map .int)), .own none (cs.map .int), .no])
    (ar_cons (d := .list (cs.map .int)) rfl (ar_cons rfl (ar_cons rfl (ar_cons w1 (ar_cons rfl ar_nil)))))
  refine ⟨handL cs 0 0 (61 + 7 * (cs.length : Nat)) 0, ?_, cs, 0, 0, _, 0, rfl, Int.le_refl _, Int.le_refl _⟩
  unfold m__law_hand b__law_hand
  exact fnP_ret _ rfl (seq_nx s1 (ret_o w2))
theorem drawV {i : Nat} {f : Fe} {g : G} {t : Option Addr} {es es' : List D} {m x : Int} (e0 : g[i]? = some (.own t es)) (ef : f g = some (.int m, g)) (e : m__law_draw es [.int m] = some (.v (.int x), es')) :
    eV (eCallI m__law_draw i (aCons f aNil)) g = some (.int x, g.set i (.own t es')) := eV_v (callI_of (by rw [e0]; rfl) (ar_cons ef ar_nil) e0 e)
theorem pow60 : (1000000000000000000 : Nat) < 2 ^ 60 := by decide
theorem frac_am {a b : Int} (ha : 0 ≤ a) (hb : 0 < b) (h1 : a ≤ 1000000000000000000) (h2 : b ≤ 1000000000000000000) : m__law_frac [.int a, .int b] = some (.v (qD (Rat.divInt a b))) ∧ Am 60 (Rat.divInt a b) := by
  have hp := pow60
  refine ⟨frac_ok hb ?_, divInt_b0 hb (by omega) (by omega), ?_⟩
  · have := gcd_le_den a hb
    exact Nat.lt_of_le_of_lt (m := 1000000000000000000) (by omega) (Nat.lt_of_lt_of_le hp (Nat.pow_le_pow_right (by decide) (by decide)))
  · rw [Rat.num_divInt, Int.sign_eq_one_of_pos hb, Int.one_mul]
    exact Int.ediv_nonneg ha (by omega)
theorem am_zero : Am 60 0 := ⟨b0_zero (by decide), by decide⟩
theorem amount_ok {es : List D} (h : Hand es) : ∃ r es', m__law_amount es [] = some (.v (qD r), es') ∧ Am 60 r ∧ Hand es' := by
  obtain ⟨x1, es1, e1, h10, h11, H1⟩ := draw_ok h (m := 12) (by decide) (by decide)
  have s1 : ∀ t, sSet 1 (eCallI m__law_draw 0 (aCons (eC (.int 12)) aNil)) [.own t es, .no] = some (.nx [.own t es1, .v (.int x1)]) := fun t => set_v (callI_of (i := 0) (g1 := [.own t es, .no]) (t := t) (ds := [.int 12]) rfl (ar_cons rfl ar_nil) rfl e1)
  by_cases c0 : x1 = 0
  · subst c0
    refine ⟨0, es1, ?_, am_zero, H1⟩
    unfold m__law_amount b__law_amount
    refine fnI_ret fun a => ⟨[.own (some a) es1, .v (.int 0)], ?_, rfl⟩
    exact seq_nx (s1 _) (seq_ret (if_t (tOf_b (eBin_of (f := eVar 1) (h := eC (.int 0)) rfl rfl (eqD_t rfl))) rfl))
  · have n0 : ∀ t (k : Fs) (z : Option Out), k [.own t es1, .v (.int x1)] = z → sSeq (sIf (tOf (eBin eqD (eVar 1) (eC (.int 0)))) (sRet (vE (eTup (aCons (eC (.int 0)) (aCons (eC (.int 1)) aNil))))) sNil) k [.own t es1, .v (.int x1)] = z := fun t k z hk => seq_nx (if_f (h := sNil) (tOf_b (eBin_of (f := eVar 1) (h := eC (.int 0)) rfl rfl (eqD_f c0))) rfl) hk
    by_cases c1 : x1 = 1
    · obtain ⟨x2, es2, e2, h20, h21, H2⟩ := draw_ok H1 (m := 1000000000000000000) (by decide) (by decide)
      obtain ⟨x3, es3, e3, h30, h31, H3⟩ := draw_ok H2 (m := 1000000000000000000) (by decide) (by decide)
      obtain ⟨k1, k2⟩ := frac_am (a := 1 + x2) (b := 1 + x3) (by omega) (by omega) (by omega) (by omega)
      refine ⟨_, es3, ?_, k2, H3⟩
      unfold m__law_amount b__law_amount
      refine fnI_ret fun a => ⟨[.own (some a) es3, .v (.int x1)], ?_, rfl⟩
      have p18 : ∀ es, eBin powD (eC (.int 10)) (eC (.int 18)) [.own (some a) es, .v (.int x1)] = some (.int 1000000000000000000, [.own (some a) es, .v (.int x1)]) := fun es => eBin_of rfl rfl ten18
      have v1 := eBin_of (f := eC (.int 1)) rfl (drawV (i := 0) (g := [.own (some a) es1, .v (.int x1)]) rfl (p18 es1) e2) (addA_int 1 x2)
      have v2 := eBin_of (f := eC (.int 1)) rfl (drawV (i := 0) (g := [.own (some a) es2, .v (.int x1)]) rfl (p18 es2) e3) (addA_int 1 x3)
      exact seq_nx (s1 _) (n0 _ _ _ (seq_ret (if_t (tOf_b (eBin_of (f := eVar 1) (h := eC (.int 1)) rfl rfl (eqD_t c1))) (ret_v (eCall_of (ar_cons v1 (ar_cons v2 ar_nil)) k1)))))
    · obtain ⟨x2, es2, e2, h20, h21, H2⟩ := draw_ok H1 (m := 24) (by decide) (by decide)
      obtain ⟨x3, es3, e3, h30, h31, H3⟩ := draw_ok H2 (m := 3) (by decide) (by decide)
      obtain ⟨w, hw, hw0, hw1⟩ : ∃ w : Int, atD (.list [.int 1, .int 4, .int 12]) (.int x3) = some (.int w) ∧ 0 < w ∧ w ≤ 12 := by
        have : x3 = 0 ∨ x3 = 1 ∨ x3 = 2 := by omega
        rcases this with rfl | rfl | rfl
        · exact ⟨1, rfl, by decide, by decide⟩
        · exact ⟨4, rfl, by decide, by decide⟩
        · exact ⟨12, rfl, by decide, by decide⟩
      obtain ⟨x4, es4, e4, h40, h41, H4⟩ := draw_ok H3 (m := w) (by omega) (by omega)
      obtain ⟨k1, k2⟩ := frac_am (a := x2) (b := 1 + x4) (by omega) (by omega) (by omega) (by omega)
      refine ⟨_, es4, ?_, k2, H4⟩
      unfold m__law_amount b__law_amount
      refine fnI_ret fun a => ⟨[.own (some a) es4, .v (.int x1)], ?_, rfl⟩
      have v1 := drawV (i := 0) (f := eC (.int 24)) (g := [.own (some a) es1, .v (.int x1)]) rfl rfl e2
      have v2 := drawV (i := 0) (f := eC (.int 3)) (g := [.own (some a) es2, .v (.int x1)]) rfl rfl e3
      have v3 : eV (vLst (aCons (eC (.int 1)) (aCons (eC (.int 4)) (aCons (eC (.int 12)) aNil)))) [.own (some a) es2, .v (.int x1)] = some (.list [.int 1, .int 4, .int 12], [.own (some a) es2, .v (.int x1)]) := rfl
      have v4 := eBin_of v3 v2 hw
      have v5 : eV (eCallI m__law_draw 0 (aCons (eBin atD (eV (vLst (aCons (eC (.int 1)) (aCons (eC (.int 4)) (aCons (eC (.int 12)) aNil))))) (eV (eCallI m__law_draw 0 (aCons (eC (.int 3)) aNil)))) aNil)) [.own (some a) es2, .v (.int x1)] = some (.int x4, [.own (some a) es4, .v (.int x1)]) :=
        eV_v (callI_of (i := 0) (t := some a) rfl (ar_cons v4 ar_nil) rfl e4)
      have v6 := eBin_of (f := eC (.int 1)) rfl v5 (addA_int 1 x4)
      exact seq_nx (s1 _) (n0 _ _ _ (seq_nx (if_f (h := sNil) (tOf_b (eBin_of (f := eVar 1) (h := eC (.int 1)) rfl rfl (eqD_f c1))) rfl) (ret_v (eCall_of (ar_cons v1 (ar_cons v6 ar_nil)) k1))))
theorem lshare_ok {es : List D} {n : Nat} (h : Hand es) (hn : n ≤ 6) : ∃ r es', m__law_share es [.int n] = some (.v (qD r), es') ∧ Am 60 r ∧ Hand es' := by
  obtain ⟨x1, es1, e1, h10, h11, H1⟩ := draw_ok h (m := 8) (by decide) (by decide)
  have s1 : ∀ t, sSet 2 (eCallI m__law_draw 0 (aCons (eC (.int 8)) aNil)) [.own t es, .v (.int n), .no] = some (.nx [.own t es1, .v (.int n), .v (.int x1)]) := fun t => set_v (callI_of (i := 0) (g1 := [.own t es, .v (.int n), .no]) (t := t) (ds := [.int 8]) rfl (ar_cons rfl ar_nil) rfl e1)
  by_cases c0 : x1 < 3
  · refine ⟨0, es1, ?_, am_zero, H1⟩
    unfold m__law_share b__law_share
    refine fnI_ret fun a => ⟨[.own (some a) es1, .v (.int n), .v (.int x1)], ?_, rfl⟩
    exact seq_nx (s1 _) (seq_ret (if_t (tOf_b (eBin_of (f := eVar 2) (h := eC (.int 3)) rfl rfl (ltD_t c0))) rfl))
  · by_cases c1 : x1 = 3
    · obtain ⟨r, es2, e2, b2, H2⟩ := amount_ok H1
      refine ⟨r, es2, ?_, b2, H2⟩
      unfold m__law_share b__law_share
      refine fnI_ret fun a => ⟨[.own (some a) es2, .v (.int n), .v (.int x1)], ?_, rfl⟩
      exact seq_nx (s1 _) (seq_nx (if_f (h := sNil) (tOf_b (eBin_of (f := eVar 2) (h := eC (.int 3)) rfl rfl (ltD_f c0))) rfl) (seq_ret (if_t (tOf_b (eBin_of (f := eVar 2) (h := eC (.int 3)) rfl rfl (eqD_t c1))) (ret_v (callI_of (i := 0) (t := some a) rfl ar_nil rfl e2)))))
    · obtain ⟨x2, es2, e2, h20, h21, H2⟩ := draw_ok H1 (m := 6) (by decide) (by decide)
      obtain ⟨x3, es3, e3, h30, h31, H3⟩ := draw_ok H2 (m := 5) (by decide) (by decide)
      have hz : 0 ≤ (n : Int) * x3 ∧ (n : Int) * x3 ≤ 24 := by
        have a1 : (n : Int) * x3 ≤ 6 * x3 := Int.mul_le_mul_of_nonneg_right (by omega) h30
        have a2 : 0 ≤ (n : Int) * x3 := Int.mul_nonneg (by omega) h30
        omega
      obtain ⟨k1, k2⟩ := frac_am (a := x2) (b := 4 + (n : Int) * x3) (by omega) (by omega) (by omega) (by omega)
      refine ⟨_, es3, ?_, k2, H3⟩
      unfold m__law_share b__law_share
      refine fnI_ret fun a => ⟨[.own (some a) es3, .v (.int n), .v (.int x1)], ?_, rfl⟩
      have v1 := drawV (i := 0) (f := eC (.int 6)) (g := [.own (some a) es1, .v (.int n), .v (.int x1)]) rfl rfl e2
      have v2 := drawV (i := 0) (f := eC (.int 5)) (g := [.own (some a) es2, .v (.int n), .v (.int x1)]) rfl rfl e3
      have v3 := eBin_of (f := eVar 1) (g := [.own (some a) es2, .v (.int n), .v (.int x1)]) (d := .int n) rfl v2 (mulD_of (mulOk_l (by omega)))
      have v4 := eBin_of (f := eC (.int 4)) rfl v3 (addA_int 4 _)
      exact seq_nx (s1 _) (seq_nx (if_f (h := sNil) (tOf_b (eBin_of (f := eVar 2) (h := eC (.int 3)) rfl rfl (ltD_f c0))) rfl) (seq_nx (if_f (h := sNil) (tOf_b (eBin_of (f := eVar 2) (h := eC (.int 3)) rfl rfl (eqD_f c1))) rfl) (ret_v (eCall_of (ar_cons v1 (ar_cons v4 ar_nil)) k1))))
/-- a comprehension that draws -/
theorem draw_lc {α : Type} {iv v : Nat} {f : Fe} (hne : iv ≠ v) (Γ : G → Prop) (hΓ1 : ∀ g x, Γ g → Γ (g.set iv x)) (hΓ2 : ∀ g x, Γ g → Γ (g.set v x)) (enc : α → D) (P : α → Prop) : ∀ (ds : List D) (es : List D), Hand es →
    (∀ d ∈ ds, ∀ es, Hand es → ∃ a es', P a ∧ Hand es' ∧ ∀ (g : G) (t : Option Addr), g[iv]? = some (.own t es) → g[v]? = some (.v d) → Γ g → f g = some (enc a, g.set iv (.own t es'))) →
    ∃ (rs : List α) (es' : List D), rs.length = ds.length ∧ (∀ a ∈ rs, P a) ∧ Hand es' ∧ ∀ (g : G) (t : Option Addr), g[iv]? = some (.own t es) → g[v]? = some .no → Γ g → lcGo (gVar v) cYes f [v] ds g = some (rs.map enc, g.set iv (.own t es'))
  | [], es, h, _ => ⟨[], es, rfl, fun r hr => by simp at hr, h, fun g t hg _ _ => by
    show some ([], g) = some ([], g.set iv (.own t es))
    congr 2
    obtain ⟨hi, e⟩ := List.getElem?_eq_some_iff.mp hg
    rw [← e, List.set_getElem_self]⟩
  | d :: ds, es, h, H => by
    obtain ⟨r0, es1, b1, H1, e1⟩ := H d (List.mem_cons_self ..) es h
    obtain ⟨rs, es', h1, h2, h3, h4⟩ := draw_lc hne Γ hΓ1 hΓ2 enc P ds es1 H1 fun d hd => H d (List.mem_cons_of_mem _ hd)
    refine ⟨r0 :: rs, es', by simp [h1], fun r hr => ?_, h3, fun g t hg hv hG => ?_⟩
    · rcases List.mem_cons.mp hr with rfl | hr
      · exact b1
      · exact h2 r hr
    · obtain ⟨hi, _⟩ := List.getElem?_eq_some_iff.mp hg
      obtain ⟨hvl, ev⟩ := List.getElem?_eq_some_iff.mp hv
      have k1 : (g.set v (.v d))[iv]? = some (.own t es) := by rw [List.getElem?_set_ne (Ne.symm hne)]; exact hg
      have k3 : ((g.set v (.v d)).set iv (.own t es1)).set v .no = g.set iv (.own t es1) := by
        rw [List.set_comm _ _ hne, List.set_set]
        congr 1
        rw [← ev, List.set_getElem_self]
      have k4 := h4 (g.set iv (.own t es1)) t (List.getElem?_set_self hi) (by rw [List.getElem?_set_ne hne]; exact hv) (hΓ1 _ _ hG)
      rw [List.set_set] at k4
      have k5 := e1 (g.set v (.v d)) t k1 (List.getElem?_set_self hvl) (hΓ2 _ _ hG)
      show ((gVar v d g).bind fun g1 => (cYes g1).bind fun p => if p.1 = true then (f p.2).bind fun q => (lcGo (gVar v) cYes f [v] ds (wipeG q.2 [v])).map fun w => (q.1 :: w.1, w.2) else _) = _
      simp only [gVar, Option.bind_some, cYes, if_true, k5, wipeG, k3, k4, Option.map_some, List.map_cons]
theorem row_ok {es : List D} {m : Nat} (h : Hand es) (hm : m ≤ 1000) : ∃ rs es', m__law_row es [.int m] = some (.v (rowD rs), es') ∧ rs.length = m ∧ AmL 60 rs ∧ Hand es' := by
  obtain ⟨rs, es', h1, h2, h3, h4⟩ := draw_lc (iv := 0) (v := 2) (f := eV (eCallI m__law_amount 0 aNil)) (by decide) (fun _ => True) (fun _ _ _ => trivial) (fun _ _ _ => trivial) qD (Am 60) ((List.range m).map fun (i : Nat) => .int (i : Int)) es h (fun d hd es h => by
    obtain ⟨r, es', e, b, H⟩ := amount_ok h
    exact ⟨r, es', b, H, fun g t hg _ _ => eV_v (callI_of (by rw [hg]; rfl) ar_nil hg e)⟩)
  have h1 : rs.length = m := by simpa using h1
  refine ⟨rs, es', ?_, h1, h2, h3⟩
  unfold m__law_row b__law_row
  refine fnI_ret fun a => ⟨[.own (some a) es', .v (.int m), .no], ?_, rfl⟩
  have k := vLc_of (fi := iRange1 (aCons (eVar 1) aNil)) (g := [.own (some a) es, .v (.int m), .no]) (rng_of (n := m) (ar_cons (f := eVar 1) rfl ar_nil) (by omega)) rfl (h4 [.own (some a) es, .v (.int m), .no] (some a) rfl rfl trivial) (by simp [h1]; omega)
  exact ret_v (vE_of (eUn_of (op := tupD) (eV_o k) rfl))
theorem method_ok {es : List D} {n c : Nat} (h : Hand es) (hn : n ≤ 6) (hc : c < n) : ∃ m es', m__law_method es [.int n, .int c] = some (.v (meD m), es') ∧ MeOk n m ∧ Hand es' := by
  obtain ⟨rs, es1, h1, h2, H1, h4⟩ := draw_lc (iv := 0) (v := 4) (f := eV (eCallI m__law_share 0 (aCons (eVar 1) aNil))) (by decide) (fun g => g[1]? = some (.v (.int n))) (fun g x h => by rw [List.getElem?_set_ne (by decide)]; exact h) (fun g x h => by rw [List.getElem?_set_ne (by decide)]; exact h) qD (Am 60) ((List.range n).map fun (i : Nat) => .int (i : Int)) es h (fun d hd es h => by
    obtain ⟨r, es', e, b, H⟩ := lshare_ok h hn
    refine ⟨r, es', b, H, fun g t hg _ hG => eV_v (callI_of (by rw [hg]; rfl) (ar_cons (f := eVar 1) ?_ ar_nil) hg e)⟩
    unfold eVar
    rw [hG])
  have h1 : rs.length = n := by simpa using h1
  obtain ⟨w, es2, e2, b2, H2⟩ := amount_ok H1
  refine ⟨⟨c, rs, w⟩, es2, ?_, ⟨hc, h1, h2, b2⟩, H2⟩
  unfold m__law_method b__law_method
  refine fnI_ret fun a => ⟨[.own (some a) es2, .v (.int n), .v (.int c), .v (rowD rs), .no], ?_, rfl⟩
  have k := vLc_of (fi := iRange1 (aCons (eVar 1) aNil)) (g := [.own (some a) es, .v (.int n), .v (.int c), .no, .no]) (rng_of (n := n) (ar_cons (f := eVar 1) rfl ar_nil) (by omega)) rfl (h4 [.own (some a) es, .v (.int n), .v (.int c), .no, .no] (some a) rfl rfl rfl) (by simp [h1]; omega)
  have s1 := set_v (i := 3) (vE_of (eUn_of (op := tupD) (eV_o k) rfl))
  have v1 := callI_of (m := m__law_amount) (i := 0) (g := [.own (some a) es1, .v (.int n), .v (.int c), .v (rowD rs), .no]) (t := some a) rfl ar_nil rfl e2
  exact seq_nx s1 (ret_v (vE_of (eTup_of (ar_cons (f := eVar 2) rfl (ar_cons (f := eVar 3) rfl (ar_cons (eV_v v1) ar_nil))))))
end K03
set_option Elab.async false
set_option linter.all false
set_option maxRecDepth 100000
namespace K03
open PySem Dl

def r1110 : Rat := ⟨11, 10, by decide, by decide⟩
def r32 : Rat := ⟨3, 2, by decide, by decide⟩
theorem factor_ok {es : List D} (h : Hand es) : ∃ r es', m__law_factor es [] = some (.v (qD r), es') ∧ Am 60 r ∧ Hand es' := by
  obtain ⟨r0, es1, e1, b1, H1⟩ := amount_ok h
  obtain ⟨d, es2, e2, hd, H2⟩ := any_ok (ds := [qD 1, qD 1, qD r1110, qD 0, qD r32, qD r0]) H1 (by simp) (by simp)
  have hb : ∃ r, d = qD r ∧ Am 60 r := by
    simp only [List.mem_cons, List.not_mem_nil, or_false] at hd
    rcases hd with rfl | rfl | rfl | rfl | rfl | rfl
    · exact ⟨1, rfl, ⟨by decide, by decide⟩, by decide⟩
    · exact ⟨1, rfl, ⟨by decide, by decide⟩, by decide⟩
    · exact ⟨r1110, rfl, ⟨by decide, by decide⟩, by decide⟩
    · exact ⟨0, rfl, am_zero⟩
    · exact ⟨r32, rfl, ⟨by decide, by decide⟩, by decide⟩
    · exact ⟨r0, rfl, b1⟩
  obtain ⟨r, rfl, hr⟩ := hb
  refine ⟨r, es2, ?_, hr, H2⟩
  unfold m__law_factor b__law_factor
  refine fnI_ret fun a => ⟨[.own (some a) es2], ?_, rfl⟩
  have v0 : eV (eCallI m__law_amount 0 aNil) [.own (some a) es] = some (qD r0, [.own (some a) es1]) := eV_v (callI_of (i := 0) (t := some a) rfl ar_nil rfl e1)
  have v1 := vLst_of (ar_cons (f := eTup (aCons (eC (.int 1)) (aCons (eC (.int 1)) aNil))) (g := [.own (some a) es]) rfl (ar_cons (f := eTup (aCons (eC (.int 1)) (aCons (eC (.int 1)) aNil))) rfl (ar_cons (f := eTup (aCons (eC (.int 11)) (aCons (eC (.int 10)) aNil))) rfl (ar_cons (f := eTup (aCons (eC (.int 0)) (aCons (eC (.int 1)) aNil))) rfl (ar_cons (f := eTup (aCons (eC (.int 3)) (aCons (eC (.int 2)) aNil))) rfl (ar_cons v0 ar_nil))))))
  exact ret_v (callI_of (i := 0) (t := some a) rfl (ar_cons (eV_o v1) ar_nil) rfl e2)
def insD (l : List Me) (k : Nat) (m : Me) : List Me := l.take k ++ [m] ++ l.drop k
theorem ins_map (l : List Me) (k : Nat) (m : Me) : (l.map meD).take k ++ [meD m] ++ (l.map meD).drop k = (insD l k m).map meD := by simp [insD, List.map_take, List.map_drop]
theorem ins_len (l : List Me) (k : Nat) (m : Me) : (insD l k m).length = l.length + 1 := by
  simp [insD]
  omega
theorem ins_mem {l : List Me} {k : Nat} {m : Me} {P : Me → Prop} (h : ∀ x ∈ l, P x) (hm : P m) : ∀ x ∈ insD l k m, P x := fun x hx => by
  simp only [insD, List.mem_append, List.mem_singleton] at hx
  rcases hx with (hx | rfl) | hx
  · exact h x (List.mem_of_mem_take hx)
  · exact hm
  · exact h x (List.mem_of_mem_drop hx)
theorem book_loop {n : Nat} (hn : n ≤ 6) (hn0 : 1 ≤ n) (mo : Sl) (many : Nat) (hmany : many ≤ 20) : ∀ (j : Nat) (es : List D) (ms : List Me), Hand es → ms.length + j = many → (∀ m ∈ ms, MeOk n m) →
    ∃ (es' : List D) (ms' : List Me), Hand es' ∧ ms'.length = many ∧ (∀ m ∈ ms', MeOk n m) ∧ ∀ t, sWhile (tOf (eBin ltD (eUn lenD (bVar 4)) (eVar 3))) (sEx (eIns 4 (aCons (eV (eCallI m__law_draw 0 (aCons (eBin addA (eUn lenD (bVar 4)) (eC (.int 1))) aNil))) (aCons (eV (eCallI m__law_method 0 (aCons (eVar 1) (aCons (eV (eCallI m__law_draw 0 (aCons (eVar 1) aNil))) aNil)))) aNil))))
      [.own t es, .v (.int n), mo, .v (.int many), .own none (ms.map meD), .no] = some (.nx [.own t es', .v (.int n), mo, .v (.int many), .own none (ms'.map meD), .no]) := by
  have c0 : ∀ t es (ms : List Me), eUn lenD (bVar 4) [.own t es, .v (.int n), mo, .v (.int many), .own none (ms.map meD), .no] = some (.int (ms.length : Nat), [.own t es, .v (.int n), mo, .v (.int many), .own none (ms.map meD), .no]) := fun t es ms => eUn_of (f := bVar 4) rfl (by simp [lenD])
  intro j
  induction j with
  | zero =>
    intro es ms h hl hm
    refine ⟨es, ms, h, by omega, hm, fun t => sWhile_stop (tOf_b (eBin_of (h := eVar 3) (d2 := .int (many : Nat)) (c0 t es ms) rfl (ltD_f (by omega))))⟩
  | succ j ih =>
    intro es ms h hl hm
    obtain ⟨x1, es1, e1, h10, h11, H1⟩ := draw_ok h (m := ((ms.length : Nat) : Int) + 1) (by omega) (by omega)
    obtain ⟨x2, es2, e2, h20, h21, H2⟩ := draw_ok H1 (m := (n : Int)) (by omega) (by omega)
    obtain ⟨c, rfl⟩ := Int.eq_ofNat_of_zero_le h20
    obtain ⟨k, rfl⟩ := Int.eq_ofNat_of_zero_le h10
    obtain ⟨m, es3, e3, hm3, H3⟩ := method_ok H2 hn (c := c) (by omega)
    obtain ⟨es', ms', r1, r2, r3, r4⟩ := ih es3 (insD ms k m) H3 (by rw [ins_len]; omega) (ins_mem hm hm3)
    refine ⟨es', ms', r1, r2, r3, fun t => sWhile_nx (g1 := [.own t es, .v (.int n), mo, .v (.int many), .own none (ms.map meD), .no]) (tOf_b (eBin_of (h := eVar 3) (d2 := .int (many : Nat)) (c0 t es ms) rfl (ltD_t (by omega)))) ?_ (r4 t)⟩
    have v1 := drawV (i := 0) (f := eBin addA (eUn lenD (bVar 4)) (eC (.int 1))) (g := [.own t es, .v (.int n), mo, .v (.int many), .own none (ms.map meD), .no]) rfl (eBin_of (h := eC (.int 1)) (c0 t es ms) rfl (addA_int _ 1)) e1
    have v2 := drawV (i := 0) (f := eVar 1) (g := [.own t es1, .v (.int n), mo, .v (.int many), .own none (ms.map meD), .no]) rfl rfl e2
    have v3 : eV (eCallI m__law_method 0 (aCons (eVar 1) (aCons (eV (eCallI m__law_draw 0 (aCons (eVar 1) aNil))) aNil))) [.own t es1, .v (.int n), mo, .v (.int many), .own none (ms.map meD), .no] = some (meD m, [.own t es3, .v (.int n), mo, .v (.int many), .own none (ms.map meD), .no]) :=
      eV_v (callI_of (i := 0) (t := t) rfl (ar_cons (f := eVar 1) rfl (ar_cons v2 ar_nil)) rfl e3)
    have v4 := ar_cons v1 (ar_cons v3 ar_nil)
    refine ex_of (d := .none) ?_
    unfold eIns
    rw [v4]
    have cond : (ms.map meD).length < 1000000 ∧ (0 : Int) ≤ (k : Nat) ∧ ((k : Nat) : Int) ≤ 1000000 := by simp; omega
    show (if (ms.map meD).length < 1000000 ∧ (0 : Int) ≤ (k : Nat) ∧ ((k : Nat) : Int) ≤ 1000000 then _ else _) = _
    rw [if_pos cond, ← ins_map]
    rfl
theorem book_ok {es : List D} {n : Nat} {most : Int} (h : Hand es) (hn : n ≤ 6) (hn0 : 1 ≤ n) (hm0 : 0 < most) (hm1 : most ≤ 20) : ∃ ms es', m__law_book es [.int n, .int most] = some (.v (bookD n ms), es') ∧ BookOk n ms ∧ Hand es' := by
  obtain ⟨x1, es1, e1, h10, h11, H1⟩ := draw_ok h (m := most) (by omega) (by omega)
  obtain ⟨ms0, es2, l2, p2, H2, k2⟩ := draw_lc (iv := 0) (v := 5) (f := eV (eCallI m__law_method 0 (aCons (eVar 1) (aCons (eIf (tOf (eBin gtD (eV (eCallI m__law_draw 0 (aCons (eC (.int 12)) aNil))) (eC (.int 0)))) (eVar 5) (eC (.int 0))) aNil)))) (by decide) (fun g => g[1]? = some (.v (.int n)))
    (fun g x h => by rw [List.getElem?_set_ne (by decide)]; exact h) (fun g x h => by rw [List.getElem?_set_ne (by decide)]; exact h) meD (MeOk n) ((List.range n).map fun (i : Nat) => .int (i : Int)) es1 H1 (fun d hd es h => by
    obtain ⟨i, hi, rfl⟩ := List.mem_map.mp hd
    have hi := List.mem_range.mp hi
    obtain ⟨x, es1, e1, _, _, H1⟩ := draw_ok h (m := 12) (by decide) (by decide)
    have key : ∀ c : Nat, c < n → (∀ (g : G) (t : Option Addr), g[0]? = some (.own t es) → g[5]? = some (.v (.int (i : Nat))) → eIf (tOf (eBin gtD (eV (eCallI m__law_draw 0 (aCons (eC (.int 12)) aNil))) (eC (.int 0)))) (eVar 5) (eC (.int 0)) g = some (.int (c : Nat), g.set 0 (.own t es1))) →
        ∃ a es', MeOk n a ∧ Hand es' ∧ ∀ (g : G) (t : Option Addr), g[0]? = some (.own t es) → g[5]? = some (.v (.int (i : Nat))) → g[1]? = some (.v (.int n)) → eV (eCallI m__law_method 0 (aCons (eVar 1) (aCons (eIf (tOf (eBin gtD (eV (eCallI m__law_draw 0 (aCons (eC (.int 12)) aNil))) (eC (.int 0)))) (eVar 5) (eC (.int 0))) aNil))) g = some (meD a, g.set 0 (.own t es')) := fun c hc hE => by
      obtain ⟨m, es2, e2, hm2, H2⟩ := method_ok H1 hn hc
      refine ⟨m, es2, hm2, H2, fun g t hg hv hG => ?_⟩
      have a1 : eVar 1 g = some (.int n, g) := by unfold eVar; rw [hG]
      have := eV_v (callI_of (m := m__law_method) (i := 0) (t := t) (by rw [hg]; rfl) (ar_cons a1 (ar_cons (hE g t hg hv) ar_nil)) (by rw [List.getElem?_set_self (List.getElem?_eq_some_iff.mp hg).1]) e2)
      rw [List.set_set] at this
      exact this
    by_cases c0 : 0 < x
    · refine key i hi fun g t hg hv => eIf_t (tOf_b (eBin_of (h := eC (.int 0)) (drawV hg rfl e1) rfl (gtD_t c0))) ?_
      unfold eVar
      rw [List.getElem?_set_ne (by decide), hv]
    · exact key 0 (by omega) fun g t hg hv => eIf_f (tOf_b (eBin_of (h := eC (.int 0)) (drawV hg rfl e1) rfl (gtD_f c0))) rfl)
  have l2 : ms0.length = n := by simpa using l2
  obtain ⟨x, rfl⟩ := Int.eq_ofNat_of_zero_le h10
  obtain ⟨many, hmany, hm3, hm4⟩ : ∃ many : Nat, min2 20 ((n : Int) + (x : Nat)) = (many : Nat) ∧ n ≤ many ∧ many ≤ 20 := by
    unfold min2
    by_cases c : (n : Int) + (x : Nat) < 20
    · exact ⟨n + x, by rw [if_pos c]; omega, by omega, by omega⟩
    · exact ⟨20, by rw [if_neg c]; rfl, by omega, by omega⟩
  obtain ⟨es3, ms, H3, l3, p3, k3⟩ := book_loop hn hn0 (.v (.int most)) many hm4 (many - n) es2 ms0 H2 (by omega) p2
  refine ⟨ms, es3, ?_, ⟨hn0, hn, by omega, by omega, p3⟩, H3⟩
  unfold m__law_book b__law_book
  refine fnI_ret fun a => ⟨[.own (some a) es3, .v (.int n), .v (.int most), .v (.int many), .own none (ms.map meD), .no], ?_, rfl⟩
  have v1 := drawV (i := 0) (f := eVar 2) (g := [.own (some a) es, .v (.int n), .v (.int most), .no, .no, .no]) rfl rfl e1
  have v2 := eBin_of (f := eVar 1) (g := [.own (some a) es, .v (.int n), .v (.int most), .no, .no, .no]) (d := .int n) rfl v1 (addA_int (n : Int) (x : Nat))
  have v3 := ar_cons (f := eC (.int 20)) (g := [.own (some a) es, .v (.int n), .v (.int most), .no, .no, .no]) rfl (ar_cons v2 ar_nil)
  have s1 : sSet 3 (vE (eInt2 min2 (aCons (eC (.int 20)) (aCons (eBin addA (eVar 1) (eV (eCallI m__law_draw 0 (aCons (eVar 2) aNil)))) aNil)))) [.own (some a) es, .v (.int n), .v (.int most), .no, .no, .no] = some (.nx [.own (some a) es1, .v (.int n), .v (.int most), .v (.int many), .no, .no]) := by
    refine set_v (d := .int many) (g1 := [.own (some a) es1, .v (.int n), .v (.int most), .no, .no, .no]) (vE_of ?_)
    unfold eInt2
    rw [v3]
    show some (PyData.int (min2 20 ((n : Int) + (x : Nat))), _) = _
    rw [hmany]
    rfl
  have k := vLc_of (fi := iRange1 (aCons (eVar 1) aNil)) (g := [.own (some a) es1, .v (.int n), .v (.int most), .v (.int many), .no, .no]) (rng_of (n := n) (ar_cons (f := eVar 1) rfl ar_nil) (by omega)) rfl (k2 [.own (some a) es1, .v (.int n), .v (.int most), .v (.int many), .no, .no] (some a) rfl rfl rfl) (by simp [l2]; omega)
  have s2 := set_o (i := 4) k
  exact seq_nx s1 (seq_nx s2 (seq_nx (k3 (some a)) (ret_v (vE_of (eTup_of (ar_cons (f := eVar 1) rfl (ar_cons (eUn_of (op := tupD) (f := bVar 4) rfl rfl) ar_nil)))))))
theorem nt_more {ms : List Me} {p : List Rat} (m : Me) (f : Rat) (hl : p.length = ms.length) (g : Nat) : ntF (ms ++ [m]) (p ++ [0]) f g = ntF ms p f g := by
  have e : (ms ++ [m]).zip (p ++ [0]) = ms.zip p ++ [(m, 0)] := List.zip_append hl.symm
  unfold ntF mdF usF
  rw [e, S_app, S_app]
  simp only [S, ite_self, Rat.zero_mul, Rat.add_zero]
end K03
set_option Elab.async false
set_option linter.all false
set_option maxRecDepth 100000
namespace K03
open PySem Dl

theorem turn_ok (S : D) {es : List D} (hh : Hand es) (a2 a3 a4 a5 a6 a7 a8 : Sl) : ∃ es' b2 b3 b4 b5 b6 b7 b8, Hand es' ∧
    (sSeq (sSet 3 (vE (eBin addA (eC (.int 1)) (eV (eCallI m__law_draw 1 (aCons (eC (.int 6)) aNil))))))
    (sSeq (sSet 4 (eCallI m__law_book 1 (aCons (eVar 3) (aCons (eBin atD (eV (vLst (aCons (eC (.int 3)) (aCons (eC (.int 7)) (aCons (eC (.int 20)) aNil))))) (eV (eCallI m__law_draw 1 (aCons (eC (.int 3)) aNil)))) aNil))))
    (sSeq (sSet 5 (vLc (iRange1 (aCons (eC (.int 2)) aNil)) (gVar 9) cYes (eV (eCallI m__law_row 1 (aCons (eUn lenD (eIxV 4 (eC (.int 1)))) aNil))) [9]))
    (sSeq (sPar 6 7 (eCallI m__law_factor 1 aNil) (eCallI m__law_row 1 (aCons (eVar 3) aNil)))
    (sSeq (sIf (Dl.tNotT (tOf (eUn allD (eV (vLc (iSeq (eVar 5)) (gVar 10) cYes (eV (eCall m__law_right (aCons (eVar 4) (aCons (eVar 10) (aCons (eVar 6) aNil))))) [10]))))) (sRet (vE (eC (.bool false)))) sNil)
    (sSeq (sIf (Dl.tNotT (tOf (eV (eCall m__law_together_right (aCons (eVar 4) (aCons (eIxV 5 (eC (.int 0))) (aCons (eIxV 5 (eC (.int 1))) (aCons (eVar 6) (aCons (eV (eCallI m__law_amount 1 aNil)) aNil))))))))) (sRet (vE (eC (.bool false)))) sNil)
    (sSeq (sIf (Dl.tNotT (tOf (eV (eCall m__law_worth_right (aCons (eVar 4) (aCons (eIxV 5 (eC (.int 0))) (aCons (eVar 7) (aCons (eVar 6) aNil)))))))) (sRet (vE (eC (.bool false)))) sNil)
    (sIf (tOf (eBin ltD (eUn lenD (eIxV 4 (eC (.int 1)))) (eC (.int 20)))) (sSeq (sSet 8 (vE (eTup (aCons (eVar 3) (aCons (eBin addA (eIxV 4 (eC (.int 1))) (eTup (aCons (eV (eCallI m__law_method 1 (aCons (eVar 3) (aCons (eV (eCallI m__law_draw 1 (aCons (eVar 3) aNil))) aNil)))) aNil))) aNil)))))
    (sIf (tOf (eBin neD (eV (eCall m_net (aCons (eVar 8) (aCons (eBin addA (eIxV 5 (eC (.int 0))) (eTup (aCons (eTup (aCons (eC (.int 0)) (aCons (eC (.int 1)) aNil))) aNil))) (aCons (eVar 6) aNil))))) (eV (eCall m_net (aCons (eVar 4) (aCons (eIxV 5 (eC (.int 0))) (aCons (eVar 6) aNil))))))) (sRet (vE (eC (.bool false)))) sNil)) sNil))))))))
      [.v S, .own none es, a2, a3, a4, a5, a6, a7, a8, .no, .no] = some (.nx [.v S, .own none es', b2, b3, b4, b5, b6, b7, b8, .no, .no]) := by
  obtain ⟨x1, es1, e1, h10, h11, H1⟩ := draw_ok hh (m := 6) (by decide) (by decide)
  obtain ⟨x, rfl⟩ := Int.eq_ofNat_of_zero_le h10
  obtain ⟨n, hn⟩ : ∃ n : Nat, (1 : Int) + (x : Nat) = (n : Nat) := ⟨1 + x, by omega⟩
  have hn0 : 1 ≤ n := by omega
  have hn6 : n ≤ 6 := by omega
  obtain ⟨x2, es2, e2, h20, h21, H2⟩ := draw_ok H1 (m := 3) (by decide) (by decide)
  obtain ⟨w, hw, hw0, hw1⟩ : ∃ w : Int, atD (.list [.int 3, .int 7, .int 20]) (.int x2) = some (.int w) ∧ 0 < w ∧ w ≤ 20 := by
    have : x2 = 0 ∨ x2 = 1 ∨ x2 = 2 := by omega
    rcases this with rfl | rfl | rfl
    · exact ⟨3, rfl, by decide, by decide⟩
    · exact ⟨7, rfl, by decide, by decide⟩
    · exact ⟨20, rfl, by decide, by decide⟩
  obtain ⟨ms, es3, e3, hB, H3⟩ := book_ok H2 hn6 hn0 hw0 hw1
  have hmlo := hB.mlo
  have hmhi := hB.mhi
  have s1 : sSet 3 (vE (eBin addA (eC (.int 1)) (eV (eCallI m__law_draw 1 (aCons (eC (.int 6)) aNil))))) [.v S, .own none es, a2, a3, a4, a5, a6, a7, a8, .no, .no] = some (.nx [.v S, .own none es1, a2, .v (.int n), a4, a5, a6, a7, a8, .no, .no]) := by
    have v := eBin_of (f := eC (.int 1)) rfl (drawV (i := 1) (f := eC (.int 6)) (g := [.v S, .own none es, a2, a3, a4, a5, a6, a7, a8, .no, .no]) rfl rfl e1) (addA_int 1 (x : Nat))
    rw [hn] at v
    exact set_v (vE_of v)
  have s2 : sSet 4 (eCallI m__law_book 1 (aCons (eVar 3) (aCons (eBin atD (eV (vLst (aCons (eC (.int 3)) (aCons (eC (.int 7)) (aCons (eC (.int 20)) aNil))))) (eV (eCallI m__law_draw 1 (aCons (eC (.int 3)) aNil)))) aNil))) [.v S, .own none es1, a2, .v (.int n), a4, a5, a6, a7, a8, .no, .no] = some (.nx [.v S, .own none es3, a2, .v (.int n), .v (bookD n ms), a5, a6, a7, a8, .no, .no]) := by
    have v0 : eV (vLst (aCons (eC (.int 3)) (aCons (eC (.int 7)) (aCons (eC (.int 20)) aNil)))) [.v S, .own none es1, a2, .v (.int n), a4, a5, a6, a7, a8, .no, .no] = some (.list [.int 3, .int 7, .int 20], [.v S, .own none es1, a2, .v (.int n), a4, a5, a6, a7, a8, .no, .no]) := rfl
    have v1 := drawV (i := 1) (f := eC (.int 3)) (g := [.v S, .own none es1, a2, .v (.int n), a4, a5, a6, a7, a8, .no, .no]) rfl rfl e2
    exact set_v (callI_of (i := 1) (t := none) rfl (ar_cons (f := eVar 3) rfl (ar_cons (eBin_of v0 v1 hw) ar_nil)) rfl e3)
  obtain ⟨ps, es4, l4, p4, H4, k4⟩ := draw_lc (iv := 1) (v := 9) (f := eV (eCallI m__law_row 1 (aCons (eUn lenD (eIxV 4 (eC (.int 1)))) aNil))) (by decide) (fun g => g[4]? = some (.v (bookD n ms))) (fun g x h => by rw [List.getElem?_set_ne (by decide)]; exact h) (fun g x h => by rw [List.getElem?_set_ne (by decide)]; exact h)
    rowD (PlanOk 60 ms) ((List.range 2).map fun (i : Nat) => .int (i : Int)) es3 H3 (fun d hd es h => by
      obtain ⟨rs, es', e, l, b, H⟩ := row_ok h (m := ms.length) (by omega)
      refine ⟨rs, es', ⟨l, b⟩, H, fun g t hg _ hG => eV_v (callI_of (by rw [hg]; rfl) (ar_cons (d := .int (ms.length : Nat)) ?_ ar_nil) hg e)⟩
      have v : eIxV 4 (eC (.int 1)) g = some (mesD ms, g) := ixV_v (a := bookD n ms) (b := bookD n ms) (by rw [hG]; rfl) rfl (by rw [hG]; rfl) rfl
      exact eUn_of v (by simp [mesD, lenD]))
  obtain ⟨p, q, rfl⟩ : ∃ p q, ps = [p, q] := by
    match ps, l4 with
    | [p, q], _ => exact ⟨p, q, rfl⟩
  have hp := p4 p (by simp)
  have hq := p4 q (by simp)
  have hpl := hp.len
  have s3 := set_o (i := 5) (vLc_of (fi := iRange1 (aCons (eC (.int 2)) aNil)) (g := [.v S, .own none es3, a2, .v (.int n), .v (bookD n ms), a5, a6, a7, a8, .no, .no]) (rng_of (n := 2) (ar_cons rfl ar_nil) (by decide)) rfl (k4 [.v S, .own none es3, a2, .v (.int n), .v (bookD n ms), a5, a6, a7, a8, .no, .no] none rfl rfl rfl) (by simp))
  obtain ⟨f, es5, e5, hf, H5⟩ := factor_ok H4
  obtain ⟨pr, es6, e6, lpr, hpr, H6⟩ := row_ok H5 (m := n) (by omega)
  have s4 := par_of (i := 6) (j := 7) (callI_of (m := m__law_factor) (i := 1) (g := [.v S, .own none es4, a2, .v (.int n), .v (bookD n ms), .own none [rowD p, rowD q], a6, a7, a8, .no, .no]) (t := none) rfl ar_nil rfl e5) (callI_of (m := m__law_row) (i := 1) (g := [.v S, .own none es5, a2, .v (.int n), .v (bookD n ms), .own none [rowD p, rowD q], a6, a7, a8, .no, .no]) (t := none) rfl (ar_cons (f := eVar 3) rfl ar_nil) rfl e6)
  have lc := vLc_map (fi := iSeq (eVar 5)) (t := gVar 10) (c := cYes) (f := eV (eCall m__law_right (aCons (eVar 4) (aCons (eVar 10) (aCons (eVar 6) aNil))))) (vs := [10]) (g := [.v S, .own none es6, a2, .v (.int n), .v (bookD n ms), .own none [rowD p, rowD q], .v (qD f), .v (rowD pr), a8, .no, .no]) (g0 := [.v S, .own none es6, a2, .v (.int n), .v (bookD n ms), .v (.list [rowD p, rowD q]), .v (qD f), .v (rowD pr), a8, .no, .no]) (xs := [p, q]) rowD (fun _ => .bool true)
    (iSeq_of (f := eVar 5) rfl rfl) rfl (by simp) (fun x hx => ⟨[.v S, .own none es6, a2, .v (.int n), .v (bookD n ms), .v (.list [rowD p, rowD q]), .v (qD f), .v (rowD pr), a8, .no, .v (rowD x)], [.v S, .own none es6, a2, .v (.int n), .v (bookD n ms), .v (.list [rowD p, rowD q]), .v (qD f), .v (rowD pr), a8, .no, .v (rowD x)], rfl, rfl, call3 4 10 6 rfl rfl rfl (law_right_ok hB (p4 x hx) hf), rfl⟩)
  have s5 := if_f (f := sRet (vE (eC (.bool false)))) (h := sNil) (tNot_of (b := true) (tOf_b (eUn_of (eV_o lc) (allD_map (fun _ : List Rat => true) [p, q])))) rfl
  obtain ⟨t, es7, e7, ht, H7⟩ := amount_ok H6
  have i0 : eIxV 5 (eC (.int 0)) [.v S, .own none es6, a2, .v (.int n), .v (bookD n ms), .v (.list [rowD p, rowD q]), .v (qD f), .v (rowD pr), a8, .no, .no] = some (rowD p, [.v S, .own none es6, a2, .v (.int n), .v (bookD n ms), .v (.list [rowD p, rowD q]), .v (qD f), .v (rowD pr), a8, .no, .no]) := ixV_v rfl rfl rfl rfl
  have i1 : eIxV 5 (eC (.int 1)) [.v S, .own none es6, a2, .v (.int n), .v (bookD n ms), .v (.list [rowD p, rowD q]), .v (qD f), .v (rowD pr), a8, .no, .no] = some (rowD q, [.v S, .own none es6, a2, .v (.int n), .v (bookD n ms), .v (.list [rowD p, rowD q]), .v (qD f), .v (rowD pr), a8, .no, .no]) := ixV_v rfl rfl rfl rfl
  have v7 := eV_v (callI_of (m := m__law_amount) (i := 1) (g := [.v S, .own none es6, a2, .v (.int n), .v (bookD n ms), .v (.list [rowD p, rowD q]), .v (qD f), .v (rowD pr), a8, .no, .no]) (t := none) rfl ar_nil rfl e7)
  have s6 := if_f (f := sRet (vE (eC (.bool false)))) (h := sNil) (tNot_of (b := true) (tOf_b (eV_v (eCall_of (ar_cons (f := eVar 4) (g := [.v S, .own none es6, a2, .v (.int n), .v (bookD n ms), .v (.list [rowD p, rowD q]), .v (qD f), .v (rowD pr), a8, .no, .no]) rfl (ar_cons i0 (ar_cons i1 (ar_cons (f := eVar 6) rfl (ar_cons v7 ar_nil))))) (law_together_ok hB hp hq hf ht))))) rfl
  have j0 : ∀ es, eIxV 5 (eC (.int 0)) [.v S, .own none es, a2, .v (.int n), .v (bookD n ms), .v (.list [rowD p, rowD q]), .v (qD f), .v (rowD pr), a8, .no, .no] = some (rowD p, [.v S, .own none es, a2, .v (.int n), .v (bookD n ms), .v (.list [rowD p, rowD q]), .v (qD f), .v (rowD pr), a8, .no, .no]) := fun es => ixV_v rfl rfl rfl rfl
  have s7 := if_f (f := sRet (vE (eC (.bool false)))) (h := sNil) (tNot_of (b := true) (tOf_b (eV_v (eCall_of (ar_cons (f := eVar 4) (g := [.v S, .own none es7, a2, .v (.int n), .v (bookD n ms), .v (.list [rowD p, rowD q]), .v (qD f), .v (rowD pr), a8, .no, .no]) rfl (ar_cons (j0 es7) (ar_cons (f := eVar 7) rfl (ar_cons (f := eVar 6) rfl ar_nil)))) (law_worth_ok hB hp hpr lpr hf))))) rfl
  have l4 : ∀ es, eIxV 4 (eC (.int 1)) [.v S, .own none es, a2, .v (.int n), .v (bookD n ms), .v (.list [rowD p, rowD q]), .v (qD f), .v (rowD pr), a8, .no, .no] = some (mesD ms, [.v S, .own none es, a2, .v (.int n), .v (bookD n ms), .v (.list [rowD p, rowD q]), .v (qD f), .v (rowD pr), a8, .no, .no]) := fun es => ixV_v rfl rfl rfl rfl
  have le : lenD (mesD ms) = some (.int (ms.length : Nat)) := by simp [mesD, lenD]
  by_cases c20 : ms.length < 20
  · obtain ⟨x8, es8, e8, h80, h81, H8⟩ := draw_ok H7 (m := (n : Int)) (by omega) (by omega)
    obtain ⟨c, rfl⟩ := Int.eq_ofNat_of_zero_le h80
    obtain ⟨m, es9, e9, hm, H9⟩ := method_ok H8 hn6 (c := c) (by omega)
    have hB2 : BookOk n (ms ++ [m]) := ⟨hn0, hn6, by simp, by simp; omega, fun x hx => by
      rcases List.mem_append.mp hx with hx | hx
      · exact hB.ok x hx
      · rw [List.mem_singleton] at hx; subst hx; exact hm⟩
    have hp2 : PlanOk 60 (ms ++ [m]) (p ++ [0]) := ⟨by simp [hp.len], fun r hr => by
      rcases List.mem_append.mp hr with hr | hr
      · exact hp.am r hr
      · rw [List.mem_singleton] at hr; subst hr; exact am_zero⟩
    have n1 := net_ok hB hp (by decide) (by decide) hf
    have n2 := net_ok hB2 hp2 (by decide) (by decide) hf
    rw [rng_congr fun g _ => nt_more m f hpl g] at n2
    have a1 : addA (mesD ms) (.tuple [meD m]) = some (mesD (ms ++ [m])) := by
      have := addA_cat (xs := ms.map meD) (ys := [meD m]) (by simp; omega)
      have e : ms.map meD ++ [meD m] = (ms ++ [m]).map meD := by simp
      rw [e] at this
      exact this
    have a2' : addA (rowD p) (.tuple [.tuple [.int 0, .int 1]]) = some (rowD (p ++ [0])) := by
      have := addA_cat (xs := p.map qD) (ys := [qD 0]) (by simp; omega)
      have e : p.map qD ++ [qD 0] = (p ++ [0]).map qD := by simp
      rw [e] at this
      exact this
    have w1 := drawV (i := 1) (f := eVar 3) (g := [.v S, .own none es7, a2, .v (.int n), .v (bookD n ms), .v (.list [rowD p, rowD q]), .v (qD f), .v (rowD pr), a8, .no, .no]) rfl rfl e8
    have w2 : eV (eCallI m__law_method 1 (aCons (eVar 3) (aCons (eV (eCallI m__law_draw 1 (aCons (eVar 3) aNil))) aNil))) [.v S, .own none es7, a2, .v (.int n), .v (bookD n ms), .v (.list [rowD p, rowD q]), .v (qD f), .v (rowD pr), a8, .no, .no] = some (meD m, [.v S, .own none es9, a2, .v (.int n), .v (bookD n ms), .v (.list [rowD p, rowD q]), .v (qD f), .v (rowD pr), a8, .no, .no]) :=
      eV_v (callI_of (i := 1) (t := none) rfl (ar_cons (f := eVar 3) rfl (ar_cons w1 ar_nil)) rfl e9)
    have w3 := eBin_of (l4 es7) (eTup_of (ar_cons w2 ar_nil)) a1
    have s8 := set_v (i := 8) (vE_of (eTup_of (ar_cons (f := eVar 3) (g := [.v S, .own none es7, a2, .v (.int n), .v (bookD n ms), .v (.list [rowD p, rowD q]), .v (qD f), .v (rowD pr), a8, .no, .no]) rfl (ar_cons w3 ar_nil))))
    have j1 : eIxV 5 (eC (.int 0)) [.v S, .own none es9, a2, .v (.int n), .v (bookD n ms), .v (.list [rowD p, rowD q]), .v (qD f), .v (rowD pr), .v (bookD n (ms ++ [m])), .no, .no] = some (rowD p, [.v S, .own none es9, a2, .v (.int n), .v (bookD n ms), .v (.list [rowD p, rowD q]), .v (qD f), .v (rowD pr), .v (bookD n (ms ++ [m])), .no, .no]) := ixV_v rfl rfl rfl rfl
    have w4 := eBin_of (h := eTup (aCons (eTup (aCons (eC (.int 0)) (aCons (eC (.int 1)) aNil))) aNil)) j1 rfl a2'
    have d1 := neD_row (rng n (ntF ms p f)) (rng n (ntF ms p f))
    rw [decide_eq_true rfl] at d1
    have s9 := if_f (f := sRet (vE (eC (.bool false)))) (h := sNil) (tOf_b (eBin_of (eV_v (eCall_of (ar_cons (f := eVar 8) (g := [.v S, .own none es9, a2, .v (.int n), .v (bookD n ms), .v (.list [rowD p, rowD q]), .v (qD f), .v (rowD pr), .v (bookD n (ms ++ [m])), .no, .no]) rfl (ar_cons w4 (ar_cons (f := eVar 6) rfl ar_nil))) n2)) (eV_v (eCall_of (ar_cons (f := eVar 4) rfl (ar_cons j1 (ar_cons (f := eVar 6) rfl ar_nil))) n1)) d1)) rfl
    have s10 := if_t (h := sNil) (tOf_b (eBin_of (h := eC (.int 20)) (eUn_of (l4 es7) le) rfl (ltD_t (by omega)))) (seq_nx s8 s9)
    exact ⟨es9, _, _, _, _, _, _, _, H9, seq_nx s1 (seq_nx s2 (seq_nx s3 (seq_nx s4 (seq_nx s5 (seq_nx s6 (seq_nx s7 s10))))))⟩
  · exact ⟨es7, _, _, _, _, _, _, _, H7, seq_nx s1 (seq_nx s2 (seq_nx s3 (seq_nx s4 (seq_nx s5 (seq_nx s6 (seq_nx s7 (if_f (tOf_b (eBin_of (h := eC (.int 20)) (eUn_of (l4 es7) le) rfl (ltD_f (by omega)))) rfl)))))))⟩
theorem law_good : ∀ ns : List Int, ns.length ≤ 63 → m_law [.list (ns.map .int)] = some (.v (.bool true)) := by
  intro ns hl
  obtain ⟨es, e1, H1⟩ := hand_ok ns (by omega)
  have s1 := set_o (i := 1) (eCall_of (m := m__law_hand) (f := aCons (eVar 0) aNil) (g := [.v (.list (ns.map .int)), .no, .no, .no, .no, .no, .no, .no, .no, .no, .no]) (ar_cons rfl ar_nil) e1)
  obtain ⟨g', F, es', b2, b3, b4, b5, b6, b7, b8, H2, rfl⟩ := forGo_inv (t := gVar 2) (b := (sSeq (sSet 3 (vE (eBin addA (eC (.int 1)) (eV (eCallI m__law_draw 1 (aCons (eC (.int 6)) aNil))))))
    (sSeq (sSet 4 (eCallI m__law_book 1 (aCons (eVar 3) (aCons (eBin atD (eV (vLst (aCons (eC (.int 3)) (aCons (eC (.int 7)) (aCons (eC (.int 20)) aNil))))) (eV (eCallI m__law_draw 1 (aCons (eC (.int 3)) aNil)))) aNil))))
    (sSeq (sSet 5 (vLc (iRange1 (aCons (eC (.int 2)) aNil)) (gVar 9) cYes (eV (eCallI m__law_row 1 (aCons (eUn lenD (eIxV 4 (eC (.int 1)))) aNil))) [9]))
    (sSeq (sPar 6 7 (eCallI m__law_factor 1 aNil) (eCallI m__law_row 1 (aCons (eVar 3) aNil)))
    (sSeq (sIf (Dl.tNotT (tOf (eUn allD (eV (vLc (iSeq (eVar 5)) (gVar 10) cYes (eV (eCall m__law_right (aCons (eVar 4) (aCons (eVar 10) (aCons (eVar 6) aNil))))) [10]))))) (sRet (vE (eC (.bool false)))) sNil)
    (sSeq (sIf (Dl.tNotT (tOf (eV (eCall m__law_together_right (aCons (eVar 4) (aCons (eIxV 5 (eC (.int 0))) (aCons (eIxV 5 (eC (.int 1))) (aCons (eVar 6) (aCons (eV (eCallI m__law_amount 1 aNil)) aNil))))))))) (sRet (vE (eC (.bool false)))) sNil)
    (sSeq (sIf (Dl.tNotT (tOf (eV (eCall m__law_worth_right (aCons (eVar 4) (aCons (eIxV 5 (eC (.int 0))) (aCons (eVar 7) (aCons (eVar 6) aNil)))))))) (sRet (vE (eC (.bool false)))) sNil)
    (sIf (tOf (eBin ltD (eUn lenD (eIxV 4 (eC (.int 1)))) (eC (.int 20)))) (sSeq (sSet 8 (vE (eTup (aCons (eVar 3) (aCons (eBin addA (eIxV 4 (eC (.int 1))) (eTup (aCons (eV (eCallI m__law_method 1 (aCons (eVar 3) (aCons (eV (eCallI m__law_draw 1 (aCons (eVar 3) aNil))) aNil)))) aNil))) aNil)))))
    (sIf (tOf (eBin neD (eV (eCall m_net (aCons (eVar 8) (aCons (eBin addA (eIxV 5 (eC (.int 0))) (eTup (aCons (eTup (aCons (eC (.int 0)) (aCons (eC (.int 1)) aNil))) aNil))) (aCons (eVar 6) aNil))))) (eV (eCall m_net (aCons (eVar 4) (aCons (eIxV 5 (eC (.int 0))) (aCons (eVar 6) aNil))))))) (sRet (vE (eC (.bool false)))) sNil)) sNil)))))))))
    (fun g => ∃ es a2 a3 a4 a5 a6 a7 a8, Hand es ∧ g = [.v (.list (ns.map .int)), .own none es, a2, a3, a4, a5, a6, a7, a8, .no, .no]) ((List.range 3).map fun (i : Nat) => .int (i : Int)) (fun d _ g hg => by
      obtain ⟨es, a2, a3, a4, a5, a6, a7, a8, hh, rfl⟩ := hg
      obtain ⟨es', b2, b3, b4, b5, b6, b7, b8, h1, h2⟩ := turn_ok (.list (ns.map .int)) hh (.v d) a3 a4 a5 a6 a7 a8
      exact ⟨[.v (.list (ns.map .int)), .own none es, .v d, a3, a4, a5, a6, a7, a8, .no, .no], _, rfl, h2, es', b2, b3, b4, b5, b6, b7, b8, h1, rfl⟩)
    [.v (.list (ns.map .int)), .own none es, .no, .no, .no, .no, .no, .no, .no, .no, .no] ⟨es, .no, .no, .no, .no, .no, .no, .no, H1, rfl⟩
  have s2 := for_of (f := iRange1 (aCons (eC (.int 3)) aNil)) (g := [.v (.list (ns.map .int)), .own none es, .no, .no, .no, .no, .no, .no, .no, .no, .no]) (rng_of (n := 3) (ar_cons rfl ar_nil) (by decide)) F
  unfold m_law b_law
  exact fnP_ret _ rfl (seq_nx s1 (seq_nx s2 (ret_v rfl)))
end K03
set_option Elab.async false
set_option linter.all false
set_option maxRecDepth 100000
set_option maxHeartbeats 0
namespace K03
open PySem PySem.Spec PyProof.Rows L2 Dl
def dd_is_integer : He.DefD := ⟨("is_integer", none), "is_integer", "is_integer", defArgs s_is_integer, defBody s_is_integer, defScope s_is_integer, [], []⟩
def dd_is_sized : He.DefD := ⟨("is_sized", none), "is_sized", "is_sized", defArgs s_is_sized, defBody s_is_sized, defScope s_is_sized, [], []⟩
def dd_common : He.DefD := ⟨("common", none), "common", "common", defArgs s_common, defBody s_common, defScope s_common, [], []⟩
def dd__law_hand : He.DefD := ⟨("_law_hand", none), "_law_hand", "_law_hand", defArgs s__law_hand, defBody s__law_hand, defScope s__law_hand, [], []⟩
def dd__law_draw : He.DefD := ⟨("_law_draw", none), "_law_draw", "_law_draw", defArgs s__law_draw, defBody s__law_draw, defScope s__law_draw, [], []⟩
def dd__law_gcd : He.DefD := ⟨("_law_gcd", none), "_law_gcd", "_law_gcd", defArgs s__law_gcd, defBody s__law_gcd, defScope s__law_gcd, [], []⟩
def dd_is_within : He.DefD := ⟨("is_within", none), "is_within", "is_within", defArgs s_is_within, defBody s_is_within, defScope s_is_within, [], []⟩
def dd_share : He.DefD := ⟨("share", none), "share", "share", defArgs s_share, defBody s_share, defScope s_share, [], []⟩
def dd_is_share : He.DefD := ⟨("is_share", none), "is_share", "is_share", defArgs s_is_share, defBody s_is_share, defScope s_is_share, [], []⟩
def dd__law_any : He.DefD := ⟨("_law_any", none), "_law_any", "_law_any", defArgs s__law_any, defBody s__law_any, defScope s__law_any, [], []⟩
def dd__law_frac : He.DefD := ⟨("_law_frac", none), "_law_frac", "_law_frac", defArgs s__law_frac, defBody s__law_frac, defScope s__law_frac, [], []⟩
def dd_plus : He.DefD := ⟨("plus", none), "plus", "plus", defArgs s_plus, defBody s_plus, defScope s_plus, [], []⟩
def dd_times : He.DefD := ⟨("times", none), "times", "times", defArgs s_times, defBody s_times, defScope s_times, [], []⟩
def dd_is_amount : He.DefD := ⟨("is_amount", none), "is_amount", "is_amount", defArgs s_is_amount, defBody s_is_amount, defScope s_is_amount, [], []⟩
def dd_is_method_number : He.DefD := ⟨("is_method_number", none), "is_method_number", "is_method_number", defArgs s_is_method_number, defBody s_is_method_number, defScope s_is_method_number, [], []⟩
def dd__law_plus : He.DefD := ⟨("_law_plus", none), "_law_plus", "_law_plus", defArgs s__law_plus, defBody s__law_plus, defScope s__law_plus, [], []⟩
def dd__law_minus : He.DefD := ⟨("_law_minus", none), "_law_minus", "_law_minus", defArgs s__law_minus, defBody s__law_minus, defScope s__law_minus, [], []⟩
def dd__law_times : He.DefD := ⟨("_law_times", none), "_law_times", "_law_times", defArgs s__law_times, defBody s__law_times, defScope s__law_times, [], []⟩
def dd__law_amount : He.DefD := ⟨("_law_amount", none), "_law_amount", "_law_amount", defArgs s__law_amount, defBody s__law_amount, defScope s__law_amount, [], []⟩
def dd_minus : He.DefD := ⟨("minus", none), "minus", "minus", defArgs s_minus, defBody s_minus, defScope s_minus, [], []⟩
def dd_summed : He.DefD := ⟨("summed", none), "summed", "summed", defArgs s_summed, defBody s_summed, defScope s_summed, [], []⟩
def dd_are_amounts : He.DefD := ⟨("are_amounts", none), "are_amounts", "are_amounts", defArgs s_are_amounts, defBody s_are_amounts, defScope s_are_amounts, [], []⟩
def dd_check_factor : He.DefD := ⟨("check_factor", none), "check_factor", "check_factor", defArgs s_check_factor, defBody s_check_factor, defScope s_check_factor, [], []⟩
def dd_made_by : He.DefD := ⟨("made_by", none), "made_by", "made_by", defArgs s_made_by, defBody s_made_by, defScope s_made_by, [], []⟩
def dd_used_by : He.DefD := ⟨("used_by", none), "used_by", "used_by", defArgs s_used_by, defBody s_used_by, defScope s_used_by, [], []⟩
def dd__law_total : He.DefD := ⟨("_law_total", none), "_law_total", "_law_total", defArgs s__law_total, defBody s__law_total, defScope s__law_total, [], []⟩
def dd__law_share : He.DefD := ⟨("_law_share", none), "_law_share", "_law_share", defArgs s__law_share, defBody s__law_share, defScope s__law_share, [], []⟩
def dd__law_factor : He.DefD := ⟨("_law_factor", none), "_law_factor", "_law_factor", defArgs s__law_factor, defBody s__law_factor, defScope s__law_factor, [], []⟩
def dd__law_row : He.DefD := ⟨("_law_row", none), "_law_row", "_law_row", defArgs s__law_row, defBody s__law_row, defScope s__law_row, [], []⟩
def dd_is_method : He.DefD := ⟨("is_method", none), "is_method", "is_method", defArgs s_is_method, defBody s_is_method, defScope s_is_method, [], []⟩
def dd_is_plan_of : He.DefD := ⟨("is_plan_of", none), "is_plan_of", "is_plan_of", defArgs s_is_plan_of, defBody s_is_plan_of, defScope s_is_plan_of, [], []⟩
def dd_check_prices : He.DefD := ⟨("check_prices", none), "check_prices", "check_prices", defArgs s_check_prices, defBody s_check_prices, defScope s_check_prices, [], []⟩
def dd_net_of : He.DefD := ⟨("net_of", none), "net_of", "net_of", defArgs s_net_of, defBody s_net_of, defScope s_net_of, [], []⟩
def dd_work_in : He.DefD := ⟨("work_in", none), "work_in", "work_in", defArgs s_work_in, defBody s_work_in, defScope s_work_in, [], []⟩
def dd_worth : He.DefD := ⟨("worth", none), "worth", "worth", defArgs s_worth, defBody s_worth, defScope s_worth, [], []⟩
def dd__law_method : He.DefD := ⟨("_law_method", none), "_law_method", "_law_method", defArgs s__law_method, defBody s__law_method, defScope s__law_method, [], []⟩
def dd__law_made : He.DefD := ⟨("_law_made", none), "_law_made", "_law_made", defArgs s__law_made, defBody s__law_made, defScope s__law_made, [], []⟩
def dd__law_used : He.DefD := ⟨("_law_used", none), "_law_used", "_law_used", defArgs s__law_used, defBody s__law_used, defScope s__law_used, [], []⟩
def dd__law_work : He.DefD := ⟨("_law_work", none), "_law_work", "_law_work", defArgs s__law_work, defBody s__law_work, defScope s__law_work, [], []⟩
def dd_is_book : He.DefD := ⟨("is_book", none), "is_book", "is_book", defArgs s_is_book, defBody s_is_book, defScope s_is_book, [], []⟩
def dd_cost_of : He.DefD := ⟨("cost_of", none), "cost_of", "cost_of", defArgs s_cost_of, defBody s_cost_of, defScope s_cost_of, [], []⟩
def dd__law_book : He.DefD := ⟨("_law_book", none), "_law_book", "_law_book", defArgs s__law_book, defBody s__law_book, defScope s__law_book, [], []⟩
def dd__law_net : He.DefD := ⟨("_law_net", none), "_law_net", "_law_net", defArgs s__law_net, defBody s__law_net, defScope s__law_net, [], []⟩
def dd_check_book : He.DefD := ⟨("check_book", none), "check_book", "check_book", defArgs s_check_book, defBody s_check_book, defScope s_check_book, [], []⟩
def dd_is_plan : He.DefD := ⟨("is_plan", none), "is_plan", "is_plan", defArgs s_is_plan, defBody s_is_plan, defScope s_is_plan, [], []⟩
def dd_check_plan : He.DefD := ⟨("check_plan", none), "check_plan", "check_plan", defArgs s_check_plan, defBody s_check_plan, defScope s_check_plan, [], []⟩
def dd_cost : He.DefD := ⟨("cost", none), "cost", "cost", defArgs s_cost, defBody s_cost, defScope s_cost, [], []⟩
def dd__law_is : He.DefD := ⟨("_law_is", none), "_law_is", "_law_is", defArgs s__law_is, defBody s__law_is, defScope s__law_is, [], []⟩
def dd_made : He.DefD := ⟨("made", none), "made", "made", defArgs s_made, defBody s_made, defScope s_made, [], []⟩
def dd_used : He.DefD := ⟨("used", none), "used", "used", defArgs s_used, defBody s_used, defScope s_used, [], []⟩
def dd_net : He.DefD := ⟨("net", none), "net", "net", defArgs s_net, defBody s_net, defScope s_net, [], []⟩
def dd_work_of : He.DefD := ⟨("work_of", none), "work_of", "work_of", defArgs s_work_of, defBody s_work_of, defScope s_work_of, [], []⟩
def dd__law_right : He.DefD := ⟨("_law_right", none), "_law_right", "_law_right", defArgs s__law_right, defBody s__law_right, defScope s__law_right, [], []⟩
def dd__law_together_right : He.DefD := ⟨("_law_together_right", none), "_law_together_right", "_law_together_right", defArgs s__law_together_right, defBody s__law_together_right, defScope s__law_together_right, [], []⟩
def dd__law_worth_right : He.DefD := ⟨("_law_worth_right", none), "_law_worth_right", "_law_worth_right", defArgs s__law_worth_right, defBody s__law_worth_right, defScope s__law_worth_right, [], []⟩
def dd_law : He.DefD := ⟨("law", none), "law", "law", defArgs s_law, defBody s_law, defScope s_law, [], []⟩
def hfn : List He.DefD := [dd_is_integer, dd_is_sized, dd_common, dd__law_hand, dd__law_draw, dd__law_gcd, dd_is_within, dd_share, dd_is_share, dd__law_any, dd__law_frac, dd_plus, dd_times, dd_is_amount, dd_is_method_number, dd__law_plus, dd__law_minus, dd__law_times, dd__law_amount, dd_minus, dd_summed, dd_are_amounts, dd_check_factor, dd_made_by, dd_used_by, dd__law_total, dd__law_share, dd__law_factor, dd__law_row, dd_is_method, dd_is_plan_of, dd_check_prices, dd_net_of, dd_work_in, dd_worth, dd__law_method, dd__law_made, dd__law_used, dd__law_work, dd_is_book, dd_cost_of, dd__law_book, dd__law_net, dd_check_book, dd_is_plan, dd_check_plan, dd_cost, dd__law_is, dd_made, dd_used, dd_net, dd_work_of, dd__law_right, dd__law_together_right, dd__law_worth_right, dd_law]
def hfa : List He.Fa := [.glo "is_integer", .glo "is_sized", .glo "common", .glo "_law_hand", .glo "_law_draw", .glo "_law_gcd", .glo "is_within", .glo "share", .glo "is_share", .glo "_law_any", .glo "_law_frac", .glo "plus", .glo "times", .glo "is_amount", .glo "is_method_number", .glo "_law_plus", .glo "_law_minus", .glo "_law_times", .glo "_law_amount", .glo "minus", .glo "summed", .glo "are_amounts", .glo "check_factor", .glo "made_by", .glo "used_by", .glo "_law_total", .glo "_law_share", .glo "_law_factor", .glo "_law_row", .glo "is_method", .glo "is_plan_of", .glo "check_prices", .glo "net_of", .glo "work_in", .glo "worth", .glo "_law_method", .glo "_law_made", .glo "_law_used", .glo "_law_work", .glo "is_book", .glo "cost_of", .glo "_law_book", .glo "_law_net", .glo "check_book", .glo "is_plan", .glo "check_plan", .glo "cost", .glo "_law_is", .glo "made", .glo "used", .glo "net", .glo "work_of", .glo "_law_right", .glo "_law_together_right", .glo "_law_worth_right", .glo "law", .free "abs", .free "all", .free "bool", .free "enumerate", .free "int", .free "isinstance", .free "len", .free "list", .free "min", .free "range", .free "tuple", .free "zip", .int "MOST_GOODS" 6, .int "MOST_METHODS" 20, .glo "ZERO"]
def hex (K : PySem.W.Frag) : Bool := He.tupB K "ZERO" [.int 0, .int 1]
theorem txt_of {w : World} {K : PySem.W.Frag} {h : Heap} {mg : Str → Option Value} (X : K.In h) (G : h.Ns mainGlobals mg) (c : He.SaysX hfa hfn [] [] hex w h K) : Nonempty (Txt K mg) := by
  have cd := c.t.d
  obtain ⟨d0, F0⟩ := cd.def_ 0 (d := dd_is_integer) rfl
  obtain ⟨d1, F1⟩ := cd.def_ 1 (d := dd_is_sized) rfl
  obtain ⟨d2, F2⟩ := cd.def_ 2 (d := dd_common) rfl
  obtain ⟨d3, F3⟩ := cd.def_ 3 (d := dd__law_hand) rfl
  obtain ⟨d4, F4⟩ := cd.def_ 4 (d := dd__law_draw) rfl
  obtain ⟨d5, F5⟩ := cd.def_ 5 (d := dd__law_gcd) rfl
  obtain ⟨d6, F6⟩ := cd.def_ 6 (d := dd_is_within) rfl
  obtain ⟨d7, F7⟩ := cd.def_ 7 (d := dd_share) rfl
  obtain ⟨d8, F8⟩ := cd.def_ 8 (d := dd_is_share) rfl
  obtain ⟨d9, F9⟩ := cd.def_ 9 (d := dd__law_any) rfl
  obtain ⟨d10, F10⟩ := cd.def_ 10 (d := dd__law_frac) rfl
  obtain ⟨d11, F11⟩ := cd.def_ 11 (d := dd_plus) rfl
  obtain ⟨d12, F12⟩ := cd.def_ 12 (d := dd_times) rfl
  obtain ⟨d13, F13⟩ := cd.def_ 13 (d := dd_is_amount) rfl
  obtain ⟨d14, F14⟩ := cd.def_ 14 (d := dd_is_method_number) rfl
  obtain ⟨d15, F15⟩ := cd.def_ 15 (d := dd__law_plus) rfl
  obtain ⟨d16, F16⟩ := cd.def_ 16 (d := dd__law_minus) rfl
  obtain ⟨d17, F17⟩ := cd.def_ 17 (d := dd__law_times) rfl
  obtain ⟨d18, F18⟩ := cd.def_ 18 (d := dd__law_amount) rfl
  obtain ⟨d19, F19⟩ := cd.def_ 19 (d := dd_minus) rfl
  obtain ⟨d20, F20⟩ := cd.def_ 20 (d := dd_summed) rfl
  obtain ⟨d21, F21⟩ := cd.def_ 21 (d := dd_are_amounts) rfl
  obtain ⟨d22, F22⟩ := cd.def_ 22 (d := dd_check_factor) rfl
  obtain ⟨d23, F23⟩ := cd.def_ 23 (d := dd_made_by) rfl
  obtain ⟨d24, F24⟩ := cd.def_ 24 (d := dd_used_by) rfl
  obtain ⟨d25, F25⟩ := cd.def_ 25 (d := dd__law_total) rfl
  obtain ⟨d26, F26⟩ := cd.def_ 26 (d := dd__law_share) rfl
  obtain ⟨d27, F27⟩ := cd.def_ 27 (d := dd__law_factor) rfl
  obtain ⟨d28, F28⟩ := cd.def_ 28 (d := dd__law_row) rfl
  obtain ⟨d29, F29⟩ := cd.def_ 29 (d := dd_is_method) rfl
  obtain ⟨d30, F30⟩ := cd.def_ 30 (d := dd_is_plan_of) rfl
  obtain ⟨d31, F31⟩ := cd.def_ 31 (d := dd_check_prices) rfl
  obtain ⟨d32, F32⟩ := cd.def_ 32 (d := dd_net_of) rfl
  obtain ⟨d33, F33⟩ := cd.def_ 33 (d := dd_work_in) rfl
  obtain ⟨d34, F34⟩ := cd.def_ 34 (d := dd_worth) rfl
  obtain ⟨d35, F35⟩ := cd.def_ 35 (d := dd__law_method) rfl
  obtain ⟨d36, F36⟩ := cd.def_ 36 (d := dd__law_made) rfl
  obtain ⟨d37, F37⟩ := cd.def_ 37 (d := dd__law_used) rfl
  obtain ⟨d38, F38⟩ := cd.def_ 38 (d := dd__law_work) rfl
  obtain ⟨d39, F39⟩ := cd.def_ 39 (d := dd_is_book) rfl
  obtain ⟨d40, F40⟩ := cd.def_ 40 (d := dd_cost_of) rfl
  obtain ⟨d41, F41⟩ := cd.def_ 41 (d := dd__law_book) rfl
  obtain ⟨d42, F42⟩ := cd.def_ 42 (d := dd__law_net) rfl
  obtain ⟨d43, F43⟩ := cd.def_ 43 (d := dd_check_book) rfl
  obtain ⟨d44, F44⟩ := cd.def_ 44 (d := dd_is_plan) rfl
  obtain ⟨d45, F45⟩ := cd.def_ 45 (d := dd_check_plan) rfl
  obtain ⟨d46, F46⟩ := cd.def_ 46 (d := dd_cost) rfl
  obtain ⟨d47, F47⟩ := cd.def_ 47 (d := dd__law_is) rfl
  obtain ⟨d48, F48⟩ := cd.def_ 48 (d := dd_made) rfl
  obtain ⟨d49, F49⟩ := cd.def_ 49 (d := dd_used) rfl
  obtain ⟨d50, F50⟩ := cd.def_ 50 (d := dd_net) rfl
  obtain ⟨d51, F51⟩ := cd.def_ 51 (d := dd_work_of) rfl
  obtain ⟨d52, F52⟩ := cd.def_ 52 (d := dd__law_right) rfl
  obtain ⟨d53, F53⟩ := cd.def_ 53 (d := dd__law_together_right) rfl
  obtain ⟨d54, F54⟩ := cd.def_ 54 (d := dd__law_worth_right) rfl
  obtain ⟨d55, F55⟩ := cd.def_ 55 (d := dd_law) rfl
  obtain ⟨t0, e0⟩ := He.int_ok X G (cd.fact 68 (f := .int "MOST_GOODS" 6) rfl)
  obtain ⟨t1, e1⟩ := He.int_ok X G (cd.fact 69 (f := .int "MOST_METHODS" 20) rfl)
  have ex : hex K = true := c.more
  unfold hex at ex
  exact ⟨{
    f_is_integer := Dk.mk' ⟨d0, F0⟩ (He.glo_ok X G (cd.fact 0 (f := .glo "is_integer") rfl)) fun _ _ _ _ _ _ us hl => match us, hl with | [_], _ => rfl
    f_is_sized := Dk.mk' ⟨d1, F1⟩ (He.glo_ok X G (cd.fact 1 (f := .glo "is_sized") rfl)) fun _ _ _ _ _ _ us hl => match us, hl with | [_, _, _], _ => rfl
    f_common := Dk.mk' ⟨d2, F2⟩ (He.glo_ok X G (cd.fact 2 (f := .glo "common") rfl)) fun _ _ _ _ _ _ us hl => match us, hl with | [_, _], _ => rfl
    f__law_hand := Dk.mk' ⟨d3, F3⟩ (He.glo_ok X G (cd.fact 3 (f := .glo "_law_hand") rfl)) fun _ _ _ _ _ _ us hl => match us, hl with | [_], _ => rfl
    f__law_draw := Dk.mk' ⟨d4, F4⟩ (He.glo_ok X G (cd.fact 4 (f := .glo "_law_draw") rfl)) fun _ _ _ _ _ _ us hl => match us, hl with | [_, _], _ => rfl
    f__law_gcd := Dk.mk' ⟨d5, F5⟩ (He.glo_ok X G (cd.fact 5 (f := .glo "_law_gcd") rfl)) fun _ _ _ _ _ _ us hl => match us, hl with | [_, _], _ => rfl
    f_is_within := Dk.mk' ⟨d6, F6⟩ (He.glo_ok X G (cd.fact 6 (f := .glo "is_within") rfl)) fun _ _ _ _ _ _ us hl => match us, hl with | [_, _, _], _ => rfl
    f_share := Dk.mk' ⟨d7, F7⟩ (He.glo_ok X G (cd.fact 7 (f := .glo "share") rfl)) fun _ _ _ _ _ _ us hl => match us, hl with | [_, _], _ => rfl
    f_is_share := Dk.mk' ⟨d8, F8⟩ (He.glo_ok X G (cd.fact 8 (f := .glo "is_share") rfl)) fun _ _ _ _ _ _ us hl => match us, hl with | [_], _ => rfl
    f__law_any := Dk.mk' ⟨d9, F9⟩ (He.glo_ok X G (cd.fact 9 (f := .glo "_law_any") rfl)) fun _ _ _ _ _ _ us hl => match us, hl with | [_, _], _ => rfl
    f__law_frac := Dk.mk' ⟨d10, F10⟩ (He.glo_ok X G (cd.fact 10 (f := .glo "_law_frac") rfl)) fun _ _ _ _ _ _ us hl => match us, hl with | [_, _], _ => rfl
    f_plus := Dk.mk' ⟨d11, F11⟩ (He.glo_ok X G (cd.fact 11 (f := .glo "plus") rfl)) fun _ _ _ _ _ _ us hl => match us, hl with | [_, _], _ => rfl
    f_times := Dk.mk' ⟨d12, F12⟩ (He.glo_ok X G (cd.fact 12 (f := .glo "times") rfl)) fun _ _ _ _ _ _ us hl => match us, hl with | [_, _], _ => rfl
    f_is_amount := Dk.mk' ⟨d13, F13⟩ (He.glo_ok X G (cd.fact 13 (f := .glo "is_amount") rfl)) fun _ _ _ _ _ _ us hl => match us, hl with | [_], _ => rfl
    f_is_method_number := Dk.mk' ⟨d14, F14⟩ (He.glo_ok X G (cd.fact 14 (f := .glo "is_method_number") rfl)) fun _ _ _ _ _ _ us hl => match us, hl with | [_, _], _ => rfl
    f__law_plus := Dk.mk' ⟨d15, F15⟩ (He.glo_ok X G (cd.fact 15 (f := .glo "_law_plus") rfl)) fun _ _ _ _ _ _ us hl => match us, hl with | [_, _], _ => rfl
    f__law_minus := Dk.mk' ⟨d16, F16⟩ (He.glo_ok X G (cd.fact 16 (f := .glo "_law_minus") rfl)) fun _ _ _ _ _ _ us hl => match us, hl with | [_, _], _ => rfl
    f__law_times := Dk.mk' ⟨d17, F17⟩ (He.glo_ok X G (cd.fact 17 (f := .glo "_law_times") rfl)) fun _ _ _ _ _ _ us hl => match us, hl with | [_, _], _ => rfl
    f__law_amount := Dk.mk' ⟨d18, F18⟩ (He.glo_ok X G (cd.fact 18 (f := .glo "_law_amount") rfl)) fun _ _ _ _ _ _ us hl => match us, hl with | [_], _ => rfl
    f_minus := Dk.mk' ⟨d19, F19⟩ (He.glo_ok X G (cd.fact 19 (f := .glo "minus") rfl)) fun _ _ _ _ _ _ us hl => match us, hl with | [_, _], _ => rfl
    f_summed := Dk.mk' ⟨d20, F20⟩ (He.glo_ok X G (cd.fact 20 (f := .glo "summed") rfl)) fun _ _ _ _ _ _ us hl => match us, hl with | [_], _ => rfl
    f_are_amounts := Dk.mk' ⟨d21, F21⟩ (He.glo_ok X G (cd.fact 21 (f := .glo "are_amounts") rfl)) fun _ _ _ _ _ _ us hl => match us, hl with | [_, _], _ => rfl
    f_check_factor := Dk.mk' ⟨d22, F22⟩ (He.glo_ok X G (cd.fact 22 (f := .glo "check_factor") rfl)) fun _ _ _ _ _ _ us hl => match us, hl with | [_], _ => rfl
    f_made_by := Dk.mk' ⟨d23, F23⟩ (He.glo_ok X G (cd.fact 23 (f := .glo "made_by") rfl)) fun _ _ _ _ _ _ us hl => match us, hl with | [_, _], _ => rfl
    f_used_by := Dk.mk' ⟨d24, F24⟩ (He.glo_ok X G (cd.fact 24 (f := .glo "used_by") rfl)) fun _ _ _ _ _ _ us hl => match us, hl with | [_, _], _ => rfl
    f__law_total := Dk.mk' ⟨d25, F25⟩ (He.glo_ok X G (cd.fact 25 (f := .glo "_law_total") rfl)) fun _ _ _ _ _ _ us hl => match us, hl with | [_], _ => rfl
    f__law_share := Dk.mk' ⟨d26, F26⟩ (He.glo_ok X G (cd.fact 26 (f := .glo "_law_share") rfl)) fun _ _ _ _ _ _ us hl => match us, hl with | [_, _], _ => rfl
    f__law_factor := Dk.mk' ⟨d27, F27⟩ (He.glo_ok X G (cd.fact 27 (f := .glo "_law_factor") rfl)) fun _ _ _ _ _ _ us hl => match us, hl with | [_], _ => rfl
    f__law_row := Dk.mk' ⟨d28, F28⟩ (He.glo_ok X G (cd.fact 28 (f := .glo "_law_row") rfl)) fun _ _ _ _ _ _ us hl => match us, hl with | [_, _], _ => rfl
    f_is_method := Dk.mk' ⟨d29, F29⟩ (He.glo_ok X G (cd.fact 29 (f := .glo "is_method") rfl)) fun _ _ _ _ _ _ us hl => match us, hl with | [_, _], _ => rfl
    f_is_plan_of := Dk.mk' ⟨d30, F30⟩ (He.glo_ok X G (cd.fact 30 (f := .glo "is_plan_of") rfl)) fun _ _ _ _ _ _ us hl => match us, hl with | [_, _], _ => rfl
    f_check_prices := Dk.mk' ⟨d31, F31⟩ (He.glo_ok X G (cd.fact 31 (f := .glo "check_prices") rfl)) fun _ _ _ _ _ _ us hl => match us, hl with | [_, _], _ => rfl
    f_net_of := Dk.mk' ⟨d32, F32⟩ (He.glo_ok X G (cd.fact 32 (f := .glo "net_of") rfl)) fun _ _ _ _ _ _ us hl => match us, hl with | [_, _, _], _ => rfl
    f_work_in := Dk.mk' ⟨d33, F33⟩ (He.glo_ok X G (cd.fact 33 (f := .glo "work_in") rfl)) fun _ _ _ _ _ _ us hl => match us, hl with | [_, _], _ => rfl
    f_worth := Dk.mk' ⟨d34, F34⟩ (He.glo_ok X G (cd.fact 34 (f := .glo "worth") rfl)) fun _ _ _ _ _ _ us hl => match us, hl with | [_, _], _ => rfl
    f__law_method := Dk.mk' ⟨d35, F35⟩ (He.glo_ok X G (cd.fact 35 (f := .glo "_law_method") rfl)) fun _ _ _ _ _ _ us hl => match us, hl with | [_, _, _], _ => rfl
    f__law_made := Dk.mk' ⟨d36, F36⟩ (He.glo_ok X G (cd.fact 36 (f := .glo "_law_made") rfl)) fun _ _ _ _ _ _ us hl => match us, hl with | [_, _], _ => rfl
    f__law_used := Dk.mk' ⟨d37, F37⟩ (He.glo_ok X G (cd.fact 37 (f := .glo "_law_used") rfl)) fun _ _ _ _ _ _ us hl => match us, hl with | [_, _], _ => rfl
    f__law_work := Dk.mk' ⟨d38, F38⟩ (He.glo_ok X G (cd.fact 38 (f := .glo "_law_work") rfl)) fun _ _ _ _ _ _ us hl => match us, hl with | [_, _], _ => rfl
    f_is_book := Dk.mk' ⟨d39, F39⟩ (He.glo_ok X G (cd.fact 39 (f := .glo "is_book") rfl)) fun _ _ _ _ _ _ us hl => match us, hl with | [_], _ => rfl
    f_cost_of := Dk.mk' ⟨d40, F40⟩ (He.glo_ok X G (cd.fact 40 (f := .glo "cost_of") rfl)) fun _ _ _ _ _ _ us hl => match us, hl with | [_, _, _], _ => rfl
    f__law_book := Dk.mk' ⟨d41, F41⟩ (He.glo_ok X G (cd.fact 41 (f := .glo "_law_book") rfl)) fun _ _ _ _ _ _ us hl => match us, hl with | [_, _, _], _ => rfl
    f__law_net := Dk.mk' ⟨d42, F42⟩ (He.glo_ok X G (cd.fact 42 (f := .glo "_law_net") rfl)) fun _ _ _ _ _ _ us hl => match us, hl with | [_, _, _], _ => rfl
    f_check_book := Dk.mk' ⟨d43, F43⟩ (He.glo_ok X G (cd.fact 43 (f := .glo "check_book") rfl)) fun _ _ _ _ _ _ us hl => match us, hl with | [_], _ => rfl
    f_is_plan := Dk.mk' ⟨d44, F44⟩ (He.glo_ok X G (cd.fact 44 (f := .glo "is_plan") rfl)) fun _ _ _ _ _ _ us hl => match us, hl with | [_, _], _ => rfl
    f_check_plan := Dk.mk' ⟨d45, F45⟩ (He.glo_ok X G (cd.fact 45 (f := .glo "check_plan") rfl)) fun _ _ _ _ _ _ us hl => match us, hl with | [_, _], _ => rfl
    f_cost := Dk.mk' ⟨d46, F46⟩ (He.glo_ok X G (cd.fact 46 (f := .glo "cost") rfl)) fun _ _ _ _ _ _ us hl => match us, hl with | [_, _, _, _], _ => rfl
    f__law_is := Dk.mk' ⟨d47, F47⟩ (He.glo_ok X G (cd.fact 47 (f := .glo "_law_is") rfl)) fun _ _ _ _ _ _ us hl => match us, hl with | [_, _], _ => rfl
    f_made := Dk.mk' ⟨d48, F48⟩ (He.glo_ok X G (cd.fact 48 (f := .glo "made") rfl)) fun _ _ _ _ _ _ us hl => match us, hl with | [_, _], _ => rfl
    f_used := Dk.mk' ⟨d49, F49⟩ (He.glo_ok X G (cd.fact 49 (f := .glo "used") rfl)) fun _ _ _ _ _ _ us hl => match us, hl with | [_, _], _ => rfl
    f_net := Dk.mk' ⟨d50, F50⟩ (He.glo_ok X G (cd.fact 50 (f := .glo "net") rfl)) fun _ _ _ _ _ _ us hl => match us, hl with | [_, _, _], _ => rfl
    f_work_of := Dk.mk' ⟨d51, F51⟩ (He.glo_ok X G (cd.fact 51 (f := .glo "work_of") rfl)) fun _ _ _ _ _ _ us hl => match us, hl with | [_, _], _ => rfl
    f__law_right := Dk.mk' ⟨d52, F52⟩ (He.glo_ok X G (cd.fact 52 (f := .glo "_law_right") rfl)) fun _ _ _ _ _ _ us hl => match us, hl with | [_, _, _], _ => rfl
    f__law_together_right := Dk.mk' ⟨d53, F53⟩ (He.glo_ok X G (cd.fact 53 (f := .glo "_law_together_right") rfl)) fun _ _ _ _ _ _ us hl => match us, hl with | [_, _, _, _, _], _ => rfl
    f__law_worth_right := Dk.mk' ⟨d54, F54⟩ (He.glo_ok X G (cd.fact 54 (f := .glo "_law_worth_right") rfl)) fun _ _ _ _ _ _ us hl => match us, hl with | [_, _, _, _], _ => rfl
    f_law := Dk.mk' ⟨d55, F55⟩ (He.glo_ok X G (cd.fact 55 (f := .glo "law") rfl)) fun _ _ _ _ _ _ us hl => match us, hl with | [_], _ => rfl
    n_abs := He.free_ok X G (cd.fact 56 (f := .free "abs") rfl)
    n_all := He.free_ok X G (cd.fact 57 (f := .free "all") rfl)
    n_bool := He.free_ok X G (cd.fact 58 (f := .free "bool") rfl)
    n_enumerate := He.free_ok X G (cd.fact 59 (f := .free "enumerate") rfl)
    n_int := He.free_ok X G (cd.fact 60 (f := .free "int") rfl)
    n_isinstance := He.free_ok X G (cd.fact 61 (f := .free "isinstance") rfl)
    n_len := He.free_ok X G (cd.fact 62 (f := .free "len") rfl)
    n_list := He.free_ok X G (cd.fact 63 (f := .free "list") rfl)
    n_min := He.free_ok X G (cd.fact 64 (f := .free "min") rfl)
    n_range := He.free_ok X G (cd.fact 65 (f := .free "range") rfl)
    n_tuple := He.free_ok X G (cd.fact 66 (f := .free "tuple") rfl)
    n_zip := He.free_ok X G (cd.fact 67 (f := .free "zip") rfl)
    u_MOST_GOODS := .int 6 t0
    v_MOST_GOODS := .int 6
    c_MOST_GOODS := ⟨e0, ⟨_, rfl⟩, fun _ => .int _⟩
    u_MOST_METHODS := .int 20 t1
    v_MOST_METHODS := .int 20
    c_MOST_METHODS := ⟨e1, ⟨_, rfl⟩, fun _ => .int _⟩
    u_ZERO := .ref (He.ga K "ZERO")
    v_ZERO := .ref (He.ga K "ZERO")
    c_ZERO := ⟨He.glo_ok X G (cd.fact 70 (f := .glo "ZERO") rfl), rfl, fun F => .tup (He.tupB_ok ex F) (.cons (.int _) (.cons (.int _) .nil))⟩
  }⟩
def hl0 : List PySem.Str := ["GoodsError", "NoBook", "NoFactor", "NoMethod", "NoPlan", "NoPrices", "ZERO", "is_integer", "is_within", "is_sized", "common", "share", "is_share", "plus", "minus", "times", "summed", "MOST_GOODS", "MOST_METHODS", "is_amount", "are_amounts", "is_method", "is_book", "check_book", "is_plan_of", "is_plan", "check_plan", "check_factor", "check_prices", "made_by"]
def hl1 : List PySem.Str := ["used_by", "made", "used", "net_of", "net", "work_in", "work_of", "worth", "cost_of", "is_method_number", "cost", "_law_hand", "_law_draw", "_law_any", "_law_gcd", "_law_frac", "_law_plus", "_law_minus", "_law_times", "_law_total", "_law_is", "_law_amount", "_law_share", "_law_method", "_law_book", "_law_factor", "_law_row", "_law_made", "_law_used", "_law_net"]
def hl2 : List PySem.Str := ["_law_work", "_law_right", "_law_together_right", "_law_worth_right"]
def hloose : List PySem.Str := hl0 ++ hl1 ++ hl2
abbrev hR : PySem.W.OpenRow := PySem.W.OpenLaw.row PySem.Challenge.rw_makeprice_k03_whole_made_used_and_left
abbrev hk : PySem.W.Hook := He.hookX 4 hfa hfn [] [] hex
def hob (s : PySem.W.SharedT) : He.AlX := He.obsX 4 hfa hfn [] [] hex (HandSHeadRun.getT s)
theorem hob_eq (s : PySem.W.SharedT) : hob s = hk.obs s.abs := He.obsX_eq (HandSHeadRun.getT_eq s)
theorem hrun (w : World) : HandSHeadRun.RunEq hR (PySem.W.view hR.prog [68]) hk hob 4000 hloose w := by
  intro os
  kernel_rfl
end K03
set_option Elab.async false
set_option linter.all false
open PySem PySem.W PySem.Calls PyProof.Rows
set_option maxHeartbeats 0 in
theorem PySem.Challenge.cw_makeprice_k03_whole_made_used_and_left_holds : PySem.Challenge.rw_makeprice_k03_whole_made_used_and_left.Holds := by
  w_on; o_law
  refine HandSHeadRun.head_any (r := OpenLaw.row PySem.Challenge.rw_makeprice_k03_whole_made_used_and_left) (q := view (OpenLaw.row PySem.Challenge.rw_makeprice_k03_whole_made_used_and_left).prog [68]) (H := K03.hk) (ob := K03.hob) (M := 4000) (loose := K03.hloose) (d := HandSHeadRun.topDef (OpenLaw.row PySem.Challenge.rw_makeprice_k03_whole_made_used_and_left).prog 68) (kwd := []) K03.hob_eq
    (by kernel_rfl) (fun s => by kernel_rfl) K03.hrun (by kernel_rfl) (by kernel_rfl) (by kernel_rfl) (by rfl) (by first | assumption | decide +kernel) (by decide +kernel) ⟨rfl, rfl, rfl, rfl, rfl, by decide +kernel⟩ ?hw ?hc
  case hw => w_witness2
  case hc =>
    refine Dl.walkK (l := PySem.Challenge.rw_makeprice_k03_whole_made_used_and_left) (n := 63) (k := 11) (x := "script") (m := K03.m_law) rfl (by decide) (by kernel_rfl) ⟨rfl, by decide, by decide⟩ ?G K03.law_good
    intro w mg fa h Y G hmg0
    obtain ⟨K, KX, c⟩ := Y
    have hmg : mg ("law" : PySem.Str) = some (.ref fa) := by
      have e : (HandSHeadRun.topDef (OpenLaw.row PySem.Challenge.rw_makeprice_k03_whole_made_used_and_left).prog 68).name = ("law" : PySem.Str) := by kernel_rfl
      rw [← e]
      exact hmg0
    obtain ⟨T⟩ := K03.txt_of KX G c
    have e := hmg.symm.trans T.f_law.g
    cases e
    exact ⟨K, T.f_law.fd, KX, fun s u => T.f_law.bA s [u] rfl, fun base _ _ => K03.ok_law T⟩
