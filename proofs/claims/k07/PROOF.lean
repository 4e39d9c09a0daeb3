import PyProof.Rows.All
import Wide.All
import OpenK.AllK
import Wide.FinOn
import HandS.ForMost
import HandS.ForExc
import HandS.ExcInit
import HandS.CallSlots
import HandS.Defaults
import HandS.EndBits
import HandS.HeadHook1
import HandS.HeadHook2
import KE.DataCmp
import HandS.TupAny
import HandS.Deep
import HandS.IsInst
import HandS.Wide
import HandS.WideBits
import HandS.Conv
import HandS.TupLe
import HandS.RaiseMore
import KE.SortCalls
import PyProof.ReprRoads
import KE.SortData
import HandS.ExcField
import HandS.Exc
import HandS.ExcOwn
import HandS.Dict
import HandS.Small
import KE.KStateDown
import HandS.Base
import HandS.Call
import HandS.Ends
import HandS.More
import HandS.Words
import HandS.WordsExc
import HandS.Head0
import HandS.Head1
import HandS.Head2
import HandS.HeadEnd
import HandS.Style
import HandS.Zip
import KE.LtData
import PyProof.Fits
import PySem.Challenge.RW_closereckoned_k07_whole_seams_and_clumps
section
set_option Elab.async false
set_option linter.all false
set_option maxRecDepth 100000
set_option maxHeartbeats 4000000
/-! Mir1: a def as a plain function of data (its mirror), and what it means that a reading keeps to it. -/
namespace Mir
open PySem PySem.Spec PyProof.Rows L2

abbrev D := PyData

/-- an answer, an error of the program's own (class, fields, the last one stored first), or nothing is said -/
inductive Rs (A : Type) where
  | ok (a : A)
  | err (c : Str) (fs : List (Str × D))
  | stk

/-- what a def owns and may change: a list; the source of draws -/
inductive MO where
  | lst (ds : List D)
  | src (cells : List Int) (turn : Int)
inductive SV where
  | un
  | dat (d : D)
  | own (o : MO)
abbrev En := List SV
inductive Fl where
  | nx | bk | ct
  | rt (d : D)
abbrev Em := En → Rs (D × En)
abbrev Tm := En → Rs (Bool × En)
abbrev Am := En → Rs (List D × En)
abbrev Im := En → Rs (List D × En)
abbrev Gm := D → En → Rs En
abbrev Sm := En → Rs (Fl × En)

/-! ### data stay -/
section
variable {K : PySem.W.Frag} {G G' : Hp}
theorem seqT_mono {a : Addr} {xs : List V} (e : Same G G') (h : SqT K G a xs) : SqT K G' a xs := by
  rcases h with (h | ⟨o, h⟩) | h
  · exact .inl (.inl (e _ _ h))
  · exact .inl (.inr ⟨o, e _ _ h⟩)
  · exact .inr h
mutual
theorem dp_mono (e : Same G G') : ∀ (d : D) (v : V), Dp K G v d → Dp K G' v d
  | .none, _, h => by cases h; exact .non
  | .bool b, _, h => by cases h; exact .bl b
  | .int i, _, h => by cases h; exact .int i
  | .str x, _, h => by cases h; exact .str x
  | .list ds, _, h => by
    cases h with
    | lst hs ha => exact .lst (e.seq hs) (dpa_mono e ds _ ha)
  | .tuple ds, _, h => by
    cases h with
    | tup hs ha => exact .tup (seqT_mono e hs) (dpa_mono e ds _ ha)
  | .dict _, _, h => by cases h
theorem dpa_mono (e : Same G G') : ∀ (ds : List D) (vs : List V), DpAll K G vs ds → DpAll K G' vs ds
  | [], _, h => by cases h; exact .nil
  | d :: ds, _, h => by
    cases h with
    | cons h1 h2 => exact .cons (dp_mono e d _ h1) (dpa_mono e ds _ h2)
end
theorem dpa_len : ∀ {vs : List V} {ds : List D}, DpAll K G vs ds → vs.length = ds.length
  | _, _, .nil => rfl
  | _, _, .cons _ t => by rw [List.length_cons, List.length_cons, dpa_len t]
theorem dpa_get : ∀ {vs : List V} {ds : List D} {i : Nat} {d : D}, DpAll K G vs ds → ds[i]? = some d → ∃ v, vs[i]? = some v ∧ Dp K G v d
  | _, _, _, _, .nil, e => by simp at e
  | _, _, 0, _, .cons h _, e => by simp at e; subst e; exact ⟨_, rfl, h⟩
  | _, _, i + 1, d, .cons _ t, e => by
    obtain ⟨v, h1, h2⟩ := dpa_get (i := i) (d := d) t (by simpa using e)
    exact ⟨v, by simpa using h1, h2⟩
theorem dpa_get' : ∀ {vs : List V} {ds : List D} {i : Nat} {v : V}, DpAll K G vs ds → vs[i]? = some v → ∃ d, ds[i]? = some d ∧ Dp K G v d
  | _, _, _, _, .nil, e => by simp at e
  | _, _, 0, _, .cons h _, e => by simp at e; subst e; exact ⟨_, rfl, h⟩
  | _, _, i + 1, d, .cons _ t, e => by
    obtain ⟨v, h1, h2⟩ := dpa_get' (i := i) (v := d) t (by simpa using e)
    exact ⟨v, by simpa using h1, h2⟩
theorem dpa_app : ∀ {vs ws : List V} {ds es : List D}, DpAll K G vs ds → DpAll K G ws es → DpAll K G (vs ++ ws) (ds ++ es)
  | _, _, _, _, .nil, h => h
  | _, _, _, _, .cons a t, h => .cons a (dpa_app t h)
theorem dpa_one {v : V} {d : D} (h : Dp K G v d) : DpAll K G [v] [d] := .cons h .nil
theorem dpa_set : ∀ {vs : List V} {ds : List D} {v : V} {d : D} (i : Nat), DpAll K G vs ds → Dp K G v d → DpAll K G (vs.set i v) (ds.set i d)
  | _, _, _, _, _, .nil, _ => .nil
  | _, _, _, _, 0, .cons _ t, h => .cons h t
  | _, _, _, _, i + 1, .cons a t, h => .cons a (dpa_set i t h)
theorem dpa_take : ∀ {vs : List V} {ds : List D} (n : Nat), DpAll K G vs ds → DpAll K G (vs.take n) (ds.take n)
  | _, _, 0, _ => .nil
  | _, _, _ + 1, .nil => .nil
  | _, _, n + 1, .cons a t => .cons a (dpa_take n t)
theorem dpa_drop : ∀ {vs : List V} {ds : List D} (n : Nat), DpAll K G vs ds → DpAll K G (vs.drop n) (ds.drop n)
  | _, _, 0, h => h
  | _, _, _ + 1, .nil => .nil
  | _, _, n + 1, .cons _ t => dpa_drop n t
theorem dpa_rev : ∀ {vs : List V} {ds : List D}, DpAll K G vs ds → DpAll K G vs.reverse ds.reverse
  | _, _, .nil => .nil
  | _, _, .cons a t => by rw [List.reverse_cons, List.reverse_cons]; exact dpa_app (dpa_rev t) (dpa_one a)
theorem dpa_ints : ∀ {vs : List V} {ns : List Int}, DpAll K G vs (ns.map PyData.int) → vs = ns.map V.int
  | vs, [], h => by cases h; rfl
  | vs, n :: ns, h => by
    cases h with
    | cons a t => cases a; rw [dpa_ints t]; rfl
theorem dpa_of_ints : ∀ (ns : List Int), DpAll K G (ns.map V.int) (ns.map PyData.int)
  | [] => .nil
  | n :: ns => .cons (.int n) (dpa_of_ints ns)
theorem dpa_bools : ∀ {vs : List V} {bs : List Bool}, DpAll K G vs (bs.map PyData.bool) → vs = bs.map V.bl
  | vs, [], h => by cases h; rfl
  | vs, n :: ns, h => by
    cases h with
    | cons a t => cases a; rw [dpa_bools t]; rfl
theorem same_upd {H : Hp} {p : Addr} {o : HO} (h : H p = none) : Same H (upd H p o) := fun b x e => by
  rw [upd_ne (ne_of_none e h)]
  exact e
end

/-! ### the frame of a def's run -/
structure Fm where
  G0 : Hp
  H0 : Hp
  Z : Addr → Prop
  p0 : V
  as0 : List Addr

/-- at v the owned thing mo stands, at the addresses as -/
def Own (K : PySem.W.Frag) (G H : Hp) (v : V) : MO → List Addr → Prop
  | .lst ds, as => ∃ p vs, v = .ref p ∧ as = [p] ∧ G p = none ∧ H p = some (.lst vs) ∧ DpAll K G vs ds
  | .src cells turn, as => ∃ p c, v = .ref p ∧ as = [p, c] ∧ p ≠ c ∧ G p = none ∧ G c = none ∧
      H p = some (.dK [(.inr "cells", .ref c), (.inr "turn", .int turn)]) ∧ H c = some (.lst (cells.map V.int))

structure Gf (F : Fm) (G H : Hp) : Prop where
  g0 : Same F.G0 G
  gh : Same G H
  nf : ∀ a, F.H0 a ≠ none → F.G0 a = none → ¬ F.Z a → G a = none
  pres : ∀ a o, F.H0 a = some o → ¬ F.Z a → H a = some o
  live : ∀ a, F.H0 a ≠ none → H a ≠ none

def SlotOk (K : PySem.W.Frag) (F : Fm) (G H : Hp) (om : Addr → Nat) (i : Nat) (x : Option (Option V)) : SV → Prop
  | .un => True
  | .dat d => ∃ v, x = some (some v) ∧ Dp K G v d
  | .own mo => ∃ v as, x = some (some v) ∧ Own K G H v mo as ∧ ∀ a ∈ as, om a = i ∧ (F.Z a ∨ F.H0 a = none)

structure Gd (K : PySem.W.Frag) (F : Fm) (G H : Hp) (σ : L2.St) (en : En) : Prop where
  gf : Gf F G H
  len : en.length = σ.length
  sat : ∃ om : Addr → Nat, ∀ i sv, en[i]? = some sv → SlotOk K F G H om i σ[i]? sv
  pin : ∀ c t, en[0]? = some (.own (.src c t)) → σ[0]? = some (some F.p0) ∧ Own K G H F.p0 (.src c t) F.as0

/-- an entry at which nothing may be changed -/
def F0 (G H : Hp) : Fm := ⟨G, H, fun _ => False, .non, []⟩

def FsOk (K : PySem.W.Frag) (G : Hp) : List (Str × V) → List (Str × D) → Prop := Paired fun p q => p.1 = q.1 ∧ Dp K G p.2 q.2
def ErrAt (K : PySem.W.Frag) (mg : Str → Option Value) (F : Fm) (c : Str) (fs : List (Str × D)) (cls : Value) (dx : Option Addr) (H' : Hp) : Prop :=
  ∃ C d xs G', cls = .ref C ∧ mg c = some (.ref C) ∧ dx = some d ∧ Gf F G' H' ∧ F.H0 d = none ∧ G' d = none ∧ H' d = some (.xd xs) ∧ FsOk K G' xs fs

section
variable {K : PySem.W.Frag} {mg : Str → Option Value} {F F' : Fm} {G H G' H' : Hp} {σ : L2.St} {en : En}

theorem Gf.comp (g : Gf F G H) (f : Gf F' G' H') (e1 : F'.G0 = G) (e2 : F'.H0 = H) (z : ∀ a, F'.Z a → F.Z a ∨ F.H0 a = none) : Gf F G' H' := by
  subst e1; subst e2
  have hn : ∀ a, F.H0 a ≠ none → F'.H0 a ≠ none := g.live
  have hz : ∀ a, F.H0 a ≠ none → ¬ F.Z a → ¬ F'.Z a := fun a h n q => by
    rcases z a q with x | x
    · exact n x
    · exact h x
  refine ⟨g.g0.trans f.g0, f.gh, fun a h1 h2 h3 => f.nf a (hn a h1) (g.nf a h1 h2 h3) (hz a h1 h3), fun a o h1 h2 => ?_, fun a h => f.live a (hn a h)⟩
  have h1' : F.H0 a ≠ none := by rw [h1]; exact fun q => by cases q
  exact f.pres a o (g.pres a o h1 h2) (hz a h1' h2)

theorem Gf.refl (G H : Hp) (Z : Addr → Prop) (p : V) (as : List Addr) (gh : Same G H) : Gf ⟨G, H, Z, p, as⟩ G H :=
  ⟨Same.refl _, gh, fun _ _ h _ => h, fun _ _ h _ => h, fun _ h => h⟩

/-- what an owned thing leans on -/
theorem Own.keep {v : V} {mo : MO} {as : List Addr} (o : Own K G H v mo as) (g : Same G G') (n : ∀ a ∈ as, G' a = none) (h : ∀ a ∈ as, ∀ x, H a = some x → H' a = some x) : Own K G' H' v mo as := by
  cases mo with
  | lst ds =>
    obtain ⟨p, vs, e1, e2, e3, e4, e5⟩ := o
    subst e2
    exact ⟨p, vs, e1, rfl, n p (by simp), h p (by simp) _ e4, dpa_mono g _ _ e5⟩
  | src cells turn =>
    obtain ⟨p, c, e1, e2, e3, e4, e5, e6, e7⟩ := o
    subst e2
    exact ⟨p, c, e1, rfl, e3, n p (by simp), n c (by simp), h p (by simp) _ e6, h c (by simp) _ e7⟩
theorem Own.live {v : V} {mo : MO} {as : List Addr} (o : Own K G H v mo as) : ∀ a ∈ as, H a ≠ none ∧ G a = none := by
  intro a ha
  cases mo with
  | lst ds =>
    obtain ⟨p, vs, e1, e2, e3, e4, e5⟩ := o
    subst e2
    have : a = p := by simpa using ha
    subst this
    exact ⟨by rw [e4]; exact (fun q => by cases q), e3⟩
  | src cells turn =>
    obtain ⟨p, c, e1, e2, e3, e4, e5, e6, e7⟩ := o
    subst e2
    have : a = p ∨ a = c := by simpa using ha
    rcases this with rfl | rfl
    · exact ⟨by rw [e6]; exact (fun q => by cases q), e4⟩
    · exact ⟨by rw [e7]; exact (fun q => by cases q), e5⟩
theorem Own.inj {v : V} {mo mo' : MO} {as as' : List Addr} (o : Own K G H v mo as) (o' : Own K G H v mo' as') : as = as' := by
  cases mo with
  | lst ds =>
    obtain ⟨p, vs, rfl, rfl, e3, e4, e5⟩ := o
    cases mo' with
    | lst ds' =>
      obtain ⟨p', vs', q1, rfl, _⟩ := o'
      cases q1; rfl
    | src cells turn =>
      obtain ⟨p', c', q1, rfl, _, _, _, q6, _⟩ := o'
      cases q1
      rw [e4] at q6; cases q6
  | src cells turn =>
    obtain ⟨p, c, rfl, rfl, e3, e4, e5, e6, e7⟩ := o
    cases mo' with
    | lst ds' =>
      obtain ⟨p', vs', q1, rfl, _, q4, _⟩ := o'
      cases q1
      rw [e6] at q4; cases q4
    | src cells' turn' =>
      obtain ⟨p', c', q1, rfl, _, _, _, q6, _⟩ := o'
      cases q1
      rw [e6] at q6; cases q6; rfl

/-- the heap grew, what was owned stays -/
theorem Gd.grow (g : Gd K F G H σ en) (f : Gf (F0 G H) G' H') : Gd K F G' H' σ en := by
  obtain ⟨om, s⟩ := g.sat
  have keep : ∀ {v : V} {mo : MO} {as : List Addr}, Own K G H v mo as → Own K G' H' v mo as := fun {v mo as} o =>
    o.keep f.g0 (fun a ha => f.nf a (o.live a ha).1 (o.live a ha).2 id) fun a _ x hx => f.pres a x hx id
  refine ⟨g.gf.comp f rfl rfl (fun _ z => z.elim), g.len, ⟨om, fun i sv e => ?_⟩, fun c t e => ?_⟩
  · have q := s i sv e
    cases sv with
    | un => trivial
    | dat d => obtain ⟨v, h1, h2⟩ := q; exact ⟨v, h1, dp_mono f.g0 d v h2⟩
    | own mo => obtain ⟨v, as, h1, h2, h3⟩ := q; exact ⟨v, as, h1, keep h2, h3⟩
  · obtain ⟨h1, h2⟩ := g.pin c t e
    exact ⟨h1, keep h2⟩
theorem gf0_new {p : Addr} {o : HO} (gh : Same G H) (h : H p = none) : Gf (F0 G H) G (upd H p o) :=
  ⟨Same.refl _, fun a x e => by rw [upd_ne (ne_of_none (gh a x e) h)]; exact gh a x e, fun _ _ h _ => h, fun a x e _ => by rw [upd_ne (ne_of_none (show H a = some x from e) h)]; exact e,
    fun a e => by
      by_cases q : a = p
      · subst q; rw [upd_same]; exact fun z => by cases z
      · rw [upd_ne q]; exact e⟩
theorem gf0_newG {p : Addr} {o : HO} (gh : Same G H) (h : H p = none) : Gf (F0 G H) (upd G p o) (upd H p o) := by
  have hg : G p = none := Same.free gh h
  have k := gf0_new (o := o) gh h
  refine ⟨same_upd hg, fun a x e => ?_, fun a e1 e2 _ => ?_, k.pres, k.live⟩
  · by_cases q : a = p
    · subst q; rw [upd_same] at e ⊢; exact e
    · rw [upd_ne q] at e ⊢; exact gh a x e
  · have q : a ≠ p := fun z => e1 (by rw [z]; exact h)
    rw [upd_ne q]; exact e2
theorem gf0_refl (gh : Same G H) : Gf (F0 G H) G H := Gf.refl G H _ _ _ gh

/-- data stored at a name -/
theorem Gd.setDat {i : Nat} {v : V} {d : D} (g : Gd K F G H σ en) (hd : Dp K G v d) : Gd K F G H (σ.set i (some v)) (en.set i (.dat d)) := by
  obtain ⟨om, s⟩ := g.sat
  refine ⟨g.gf, by rw [List.length_set, List.length_set, g.len], ⟨om, fun j sv e => ?_⟩, fun c t e => ?_⟩
  · by_cases q : i = j
    · subst q
      by_cases hi : i < en.length
      · rw [List.getElem?_set_self hi] at e
        cases e
        exact ⟨v, by rw [List.getElem?_set_self (by rw [← g.len]; exact hi)], hd⟩
      · rw [List.getElem?_eq_none (by rw [List.length_set]; omega)] at e
        cases e
    · rw [List.getElem?_set_ne q] at e ⊢
      exact s j sv e
  · by_cases q : i = 0
    · subst q
      by_cases hi : 0 < en.length
      · rw [List.getElem?_set_self hi] at e; cases e
      · rw [List.getElem?_eq_none (by rw [List.length_set]; omega)] at e; cases e
    · rw [List.getElem?_set_ne q] at e ⊢
      exact g.pin c t e
/-- a name is forgotten -/
theorem Gd.setUn {i : Nat} {x : Option V} (g : Gd K F G H σ en) : Gd K F G H (σ.set i x) (en.set i .un) := by
  obtain ⟨om, s⟩ := g.sat
  refine ⟨g.gf, by rw [List.length_set, List.length_set, g.len], ⟨om, fun j sv e => ?_⟩, fun c t e => ?_⟩
  · by_cases q : i = j
    · subst q
      by_cases hi : i < en.length
      · rw [List.getElem?_set_self hi] at e
        cases e
        trivial
      · rw [List.getElem?_eq_none (by rw [List.length_set]; omega)] at e
        cases e
    · rw [List.getElem?_set_ne q] at e ⊢
      exact s j sv e
  · by_cases q : i = 0
    · subst q
      by_cases hi : 0 < en.length
      · rw [List.getElem?_set_self hi] at e; cases e
      · rw [List.getElem?_eq_none (by rw [List.length_set]; omega)] at e; cases e
    · rw [List.getElem?_set_ne q] at e ⊢
      exact g.pin c t e

/-- p is no slot's -/
def Free (K : PySem.W.Frag) (G H : Hp) (σ : L2.St) (en : En) (p : Addr) : Prop := ∀ (i : Nat) (mo : MO) (v : V) (as : List Addr), en[i]? = some (SV.own mo) → σ[i]? = some (some v) → Own K G H v mo as → p ∉ as
/-- a list that is nobody's becomes data -/
theorem Gd.adopt {p : Addr} {o : HO} (g : Gd K F G H σ en) (hg : G p = none) (hh : H p = some o) (h0 : F.Z p ∨ F.H0 p = none) (fr : Free K G H σ en p) : Gd K F (upd G p o) H σ en := by
  obtain ⟨om, s⟩ := g.sat
  have keep : ∀ {i : Nat} {v : V} {mo : MO} {as : List Addr}, en[i]? = some (.own mo) → σ[i]? = some (some v) → Own K G H v mo as → Own K (upd G p o) H v mo as := fun {i v mo as} e1 e2 ow =>
    ow.keep (same_upd hg) (fun a ha => by
      have q : a ≠ p := fun z => fr _ _ _ _ e1 e2 ow (by rw [← z]; exact ha)
      rw [upd_ne q]; exact (ow.live a ha).2) fun _ _ _ h => h
  refine ⟨⟨g.gf.g0.trans (same_upd hg), fun a x e => ?_, fun a h1 h2 h3 => ?_, g.gf.pres, g.gf.live⟩, g.len, ⟨om, fun i sv e => ?_⟩, fun c t e => ?_⟩
  · by_cases q : a = p
    · subst q; rw [upd_same] at e; rw [hh]; exact e
    · rw [upd_ne q] at e; exact g.gf.gh a x e
  · have q : a ≠ p := fun z => by
      subst z
      rcases h0 with z | z
      · exact h3 z
      · exact h1 z
    rw [upd_ne q]; exact g.gf.nf a h1 h2 h3
  · have q := s i sv e
    cases sv with
    | un => trivial
    | dat d => obtain ⟨v, h1, h2⟩ := q; exact ⟨v, h1, dp_mono (same_upd hg) d v h2⟩
    | own mo => obtain ⟨v, as, h1, h2, h3⟩ := q; exact ⟨v, as, h1, keep e h1 h2, h3⟩
  · obtain ⟨h1, h2⟩ := g.pin c t e
    exact ⟨h1, keep e h1 h2⟩
/-- .. or a name's own -/
theorem Gd.setOwn {i : Nat} {p : Addr} {vs : List V} {ds : List D} (g : Gd K F G H σ en) (hg : G p = none) (hh : H p = some (.lst vs)) (hd : DpAll K G vs ds) (h0 : F.Z p ∨ F.H0 p = none) (fr : Free K G H σ en p) :
    Gd K F G H (σ.set i (some (.ref p))) (en.set i (.own (.lst ds))) := by
  obtain ⟨om, s⟩ := g.sat
  refine ⟨g.gf, by rw [List.length_set, List.length_set, g.len], ⟨fun a => if a = p then i else om a, fun j sv e => ?_⟩, fun c t e => ?_⟩
  · by_cases q : i = j
    · subst q
      by_cases hi : i < en.length
      · rw [List.getElem?_set_self hi] at e
        cases e
        exact ⟨.ref p, [p], by rw [List.getElem?_set_self (by rw [← g.len]; exact hi)], ⟨p, vs, rfl, rfl, hg, hh, hd⟩, fun a ha => by
          have : a = p := by simpa using ha
          subst this
          exact ⟨if_pos rfl, h0⟩⟩
      · rw [List.getElem?_eq_none (by rw [List.length_set]; omega)] at e
        cases e
    · rw [List.getElem?_set_ne q] at e ⊢
      have z := s j sv e
      cases sv with
      | un => trivial
      | dat d => exact z
      | own mo =>
        obtain ⟨v, as, h1, h2, h3⟩ := z
        refine ⟨v, as, h1, h2, fun a ha => ⟨?_, (h3 a ha).2⟩⟩
        have : a ≠ p := fun z => fr _ _ _ _ e h1 h2 (by rw [← z]; exact ha)
        show (if a = p then i else om a) = j
        rw [if_neg this]
        exact (h3 a ha).1
  · by_cases q : i = 0
    · subst q
      by_cases hi : 0 < en.length
      · rw [List.getElem?_set_self hi] at e; cases e
      · rw [List.getElem?_eq_none (by rw [List.length_set]; omega)] at e; cases e
    · rw [List.getElem?_set_ne q] at e ⊢
      exact g.pin c t e
/-- another list at a name's own -/
theorem Gd.mut {i : Nat} {p : Addr} {ws : List V} {ds es : List D} (g : Gd K F G H σ en) (he : en[i]? = some (.own (.lst ds))) (hs : σ[i]? = some (some (.ref p))) (hd : DpAll K G ws es) :
    Gd K F G (upd H p (.lst ws)) σ (en.set i (.own (.lst es))) := by
  obtain ⟨om, s⟩ := g.sat
  obtain ⟨v, as, h1, h2, h3⟩ := s i _ he
  rw [hs] at h1; cases h1
  obtain ⟨p', vs', q1, q2, q3, q4, q5⟩ := h2
  cases q1
  subst q2
  obtain ⟨o1, o2⟩ := h3 p (by simp)
  have hi : i < en.length := (List.getElem?_eq_some_iff.mp he).1
  have keep : ∀ {j : Nat} {v : V} {mo : MO} {as : List Addr}, j ≠ i → (∀ a ∈ as, om a = j) → Own K G H v mo as → Own K G (upd H p (.lst ws)) v mo as := fun {j v mo as} nj hj ow =>
    ow.keep (Same.refl _) (fun a ha => (ow.live a ha).2) fun a ha x hx => by
      have : a ≠ p := fun z => nj (by rw [← hj a ha, z, o1])
      rw [upd_ne this]; exact hx
  refine ⟨⟨g.gf.g0, fun a x e => ?_, g.gf.nf, fun a o h4 h5 => ?_, fun a h => ?_⟩, by rw [List.length_set, g.len], ⟨om, fun j sv e => ?_⟩, fun c t e => ?_⟩
  · have : a ≠ p := fun z => by rw [z, q3] at e; cases e
    rw [upd_ne this]; exact g.gf.gh a x e
  · have : a ≠ p := fun z => by
      subst z
      rcases o2 with z | z
      · exact h5 z
      · rw [z] at h4; cases h4
    rw [upd_ne this]; exact g.gf.pres a o h4 h5
  · by_cases q : a = p
    · subst q; rw [upd_same]; exact fun z => by cases z
    · rw [upd_ne q]; exact g.gf.live a h
  · by_cases q : i = j
    · subst q
      rw [List.getElem?_set_self hi] at e
      cases e
      exact ⟨.ref p, [p], hs, ⟨p, ws, rfl, rfl, q3, upd_same, hd⟩, fun a ha => h3 a ha⟩
    · rw [List.getElem?_set_ne q] at e
      have z := s j sv e
      cases sv with
      | un => trivial
      | dat d => exact z
      | own mo =>
        obtain ⟨v, as, h1, h2, h3⟩ := z
        exact ⟨v, as, h1, keep (Ne.symm q) (fun a ha => (h3 a ha).1) h2, h3⟩
  · have q : i ≠ 0 := fun z => by
      subst z
      rw [List.getElem?_set_self hi] at e; cases e
    rw [List.getElem?_set_ne q] at e
    obtain ⟨r1, r2⟩ := g.pin c t e
    refine ⟨r1, ?_⟩
    have z := s 0 _ e
    obtain ⟨v, as, h1, h2, h3⟩ := z
    rw [r1] at h1; cases h1
    obtain rfl := h2.inj r2
    exact keep (Ne.symm q) (fun a ha => (h3 a ha).1) r2

/-- a slot of data, of an own list -/
theorem Gd.dat {i : Nat} {d : D} (g : Gd K F G H σ en) (e : en[i]? = some (.dat d)) : ∃ v, σ[i]? = some (some v) ∧ Dp K G v d := by
  obtain ⟨om, s⟩ := g.sat
  exact s i _ e
theorem Gd.own {i : Nat} {ds : List D} (g : Gd K F G H σ en) (e : en[i]? = some (.own (.lst ds))) : ∃ p vs, σ[i]? = some (some (.ref p)) ∧ G p = none ∧ H p = some (.lst vs) ∧ DpAll K G vs ds ∧ (F.Z p ∨ F.H0 p = none) := by
  obtain ⟨om, s⟩ := g.sat
  obtain ⟨v, as, h1, ⟨p, vs, rfl, rfl, h4, h5, h6⟩, h3⟩ := s i _ e
  exact ⟨p, vs, h1, h4, h5, h6, (h3 p (by simp)).2⟩
/-- an own list becomes data -/
theorem Gd.freeze {i : Nat} {ds : List D} (g : Gd K F G H σ en) (e : en[i]? = some (.own (.lst ds))) : ∃ p vs, σ[i]? = some (some (.ref p)) ∧ Gd K F (upd G p (.lst vs)) H σ (en.set i (.dat (.list ds))) ∧ Same G (upd G p (.lst vs)) ∧ Dp K (upd G p (.lst vs)) (.ref p) (.list ds) := by
  obtain ⟨p, vs, h1, h2, h3, h4, h5⟩ := g.own e
  have hi : i < en.length := (List.getElem?_eq_some_iff.mp e).1
  have sm : Same G (upd G p (.lst vs)) := same_upd h2
  have dp : Dp K (upd G p (.lst vs)) (.ref p) (.list ds) := .lst (.inl (.inl upd_same)) (dpa_mono sm _ _ h4)
  refine ⟨p, vs, h1, ?_, sm, dp⟩
  obtain ⟨om, s⟩ := g.sat
  obtain ⟨v, as, k1, k2, k3⟩ := s i _ e
  rw [h1] at k1; cases k1
  have as1 : as = [p] := by obtain ⟨p', vs', q1, q2, _⟩ := k2; cases q1; exact q2
  subst as1
  have omp := (k3 p (by simp)).1
  -- first the name is forgotten, then the list is nobody's
  have g1 : Gd K F G H σ (en.set i .un) := by
    have z := g.setUn (i := i) (x := some (.ref p))
    have : σ.set i (some (V.ref p)) = σ := by
      refine List.ext_getElem? fun j => ?_
      by_cases q : i = j
      · subst q
        rw [List.getElem?_set_self (by rw [← g.len]; exact hi), h1]
      · rw [List.getElem?_set_ne q]
    rw [this] at z
    exact z
  have fr : Free K G H σ (en.set i .un) p := by
    intro j mo v as e1 e2 ow hp
    have q : i ≠ j := fun z => by
      subst z
      rw [List.getElem?_set_self hi] at e1; cases e1
    rw [List.getElem?_set_ne q] at e1
    obtain ⟨v', as', l1, l2, l3⟩ := s j _ e1
    rw [e2] at l1; cases l1
    obtain rfl := ow.inj l2
    exact q (omp.symm.trans (l3 p hp).1)
  have g2 := g1.adopt h2 h3 h5 fr
  have g3 := g2.setDat (i := i) dp
  rw [List.set_set] at g3
  have : σ.set i (some (V.ref p)) = σ := by
    refine List.ext_getElem? fun j => ?_
    by_cases q : i = j
    · subst q
      rw [List.getElem?_set_self (by rw [← g.len]; exact hi), h1]
    · rw [List.getElem?_set_ne q]
  rw [this] at g3
  exact g3

/-- from here on, everything but what the slots own is to stay -/
def Fm.re (F : Fm) (K : PySem.W.Frag) (G H : Hp) (σ : L2.St) (en : En) : Fm :=
  ⟨G, H, fun a => ∃ (i : Nat) (mo : MO) (v : V) (as : List Addr), en[i]? = some (SV.own mo) ∧ σ[i]? = some (some v) ∧ Own K G H v mo as ∧ a ∈ as, F.p0, F.as0⟩
theorem Gd.rebase (g : Gd K F G H σ en) : Gd K (F.re K G H σ en) G H σ en := by
  obtain ⟨om, s⟩ := g.sat
  refine ⟨Gf.refl _ _ _ _ _ g.gf.gh, g.len, ⟨om, fun i sv e => ?_⟩, g.pin⟩
  have q := s i sv e
  cases sv with
  | un => trivial
  | dat d => exact q
  | own mo =>
    obtain ⟨v, as, h1, h2, h3⟩ := q
    exact ⟨v, as, h1, h2, fun a ha => ⟨(h3 a ha).1, .inl ⟨i, mo, v, as, e, h1, h2, ha⟩⟩⟩
theorem Gd.zs (g : Gd K F G H σ en) : ∀ a, (F.re K G H σ en).Z a → F.Z a ∨ F.H0 a = none := by
  rintro a ⟨i, mo, v, as, e, h1, h2, ha⟩
  obtain ⟨om, s⟩ := g.sat
  obtain ⟨v', as', k1, k2, k3⟩ := s i _ e
  rw [h1] at k1; cases k1
  obtain rfl := h2.inj k2
  exact (k3 a ha).2
theorem Gd.back {σ' : L2.St} {en' : En} (g : Gd K F G H σ en) (g' : Gd K (F.re K G H σ en) G' H' σ' en') : Gd K F G' H' σ' en' := by
  obtain ⟨om, s⟩ := g'.sat
  refine ⟨g.gf.comp g'.gf rfl rfl g.zs, g'.len, ⟨om, fun i sv e => ?_⟩, g'.pin⟩
  have q := s i sv e
  cases sv with
  | un => trivial
  | dat d => exact q
  | own mo =>
    obtain ⟨v, as, h1, h2, h3⟩ := q
    refine ⟨v, as, h1, h2, fun a ha => ⟨(h3 a ha).1, ?_⟩⟩
    rcases (h3 a ha).2 with z | z
    · exact g.zs a z
    · right
      have z' : H a = none := z
      cases q : F.H0 a with
      | none => rfl
      | some o => exact absurd z' (g.gf.live a (by rw [q]; exact fun z => by cases z))
theorem ErrAt.back {c : Str} {fs : List (Str × D)} {cls : Value} {dx : Option Addr} (g : Gf F G H) (e1 : F'.G0 = G) (e2 : F'.H0 = H) (z : ∀ a, F'.Z a → F.Z a ∨ F.H0 a = none) (e : ErrAt K mg F' c fs cls dx H') : ErrAt K mg F c fs cls dx H' := by
  obtain ⟨C, d, xs, G2, h1, h2, h3, h4, h5, h6, h7, h8⟩ := e
  refine ⟨C, d, xs, G2, h1, h2, h3, g.comp h4 e1 e2 z, ?_, h6, h7, h8⟩
  cases q : F.H0 d with
  | none => rfl
  | some o =>
    have := g.live d (by rw [q]; exact fun z => by cases z)
    rw [← e2] at this
    exact absurd h5 this
end
end Mir
end

section
set_option Elab.async false
set_option linter.all false
set_option maxRecDepth 100000
set_option maxHeartbeats 4000000
/-! Mir2: readings that keep to a mirror: expressions, tests, argument lists, targets, what is walked, statements. -/
namespace Mir
open PySem PySem.Spec PyProof.Rows L2

def Rs.bind {A B : Type} (x : Rs A) (f : A → Rs B) : Rs B := match x with
  | .ok a => f a
  | .err c fs => .err c fs
  | .stk => .stk
/-- no error may come of it -/
def Rs.calm {A : Type} (x : Rs A) : Rs A := match x with
  | .ok a => .ok a
  | _ => .stk
@[simp] theorem bind_ok {A B : Type} (a : A) (f : A → Rs B) : (Rs.ok a).bind f = f a := rfl
@[simp] theorem bind_err {A B : Type} (c : Str) (fs : List (Str × D)) (f : A → Rs B) : (Rs.err c fs).bind f = .err c fs := rfl
@[simp] theorem bind_stk {A B : Type} (f : A → Rs B) : (Rs.stk).bind f = .stk := rfl
@[simp] theorem calm_ok {A : Type} (a : A) : (Rs.ok a).calm = .ok a := rfl
@[simp] theorem calm_err {A : Type} (c : Str) (fs : List (Str × D)) : (Rs.err c fs : Rs A).calm = .stk := rfl
@[simp] theorem calm_stk {A : Type} : (Rs.stk : Rs A).calm = .stk := rfl
/-- more than any list here is long -/
def big : Nat := 100000
theorem big_line {n : Nat} (h : n ≤ big) : n ≤ sizeLine := Nat.le_trans h (by decide)
theorem big_lt {n : Nat} (h : n < big) : n < sizeLine := Nat.lt_of_lt_of_le h (by decide)

section
variable (K : PySem.W.Frag) (mg : Str → Option Value) (E : XK)
def PoE (F : Fm) (σ : L2.St) (G : Hp) (Q : VK) : Rs (D × En) → Prop
  | .ok (d, en') => ∀ v G' H', Gd K F G' H' σ en' → Same G G' → Dp K G' v d → Q v H'
  | .err c fs => ∀ cls dx H', ErrAt K mg F c fs cls dx H' → E cls dx H'
  | .stk => False
/-- a new list that is nobody's yet -/
def PoL (F : Fm) (σ : L2.St) (G : Hp) (Q : VK) : Rs (List D × En) → Prop
  | .ok (ds, en') => ∀ p vs G' H', Gd K F G' H' σ en' → Same G G' → G' p = none → H' p = some (.lst vs) → DpAll K G' vs ds → F.H0 p = none → Free K G' H' σ en' p → Q (.ref p) H'
  | .err c fs => ∀ cls dx H', ErrAt K mg F c fs cls dx H' → E cls dx H'
  | .stk => False
def PoT (F : Fm) (σ : L2.St) (G : Hp) (Q : Bool → Hp → Prop) : Rs (Bool × En) → Prop
  | .ok (b, en') => ∀ G' H', Gd K F G' H' σ en' → Same G G' → Q b H'
  | .err c fs => ∀ cls dx H', ErrAt K mg F c fs cls dx H' → E cls dx H'
  | .stk => False
def PoA (F : Fm) (σ : L2.St) (G : Hp) (Q : List V → Hp → Prop) : Rs (List D × En) → Prop
  | .ok (ds, en') => ∀ vs G' H', Gd K F G' H' σ en' → Same G G' → DpAll K G' vs ds → Q vs H'
  | .err c fs => ∀ cls dx H', ErrAt K mg F c fs cls dx H' → E cls dx H'
  | .stk => False
def PoS (F : Fm) (G : Hp) (D : Ends) : Rs (Fl × En) → Prop
  | .ok (.nx, en') => ∀ σ' G' H', Gd K F G' H' σ' en' → Same G G' → D.nx σ' H'
  | .ok (.bk, en') => ∀ σ' G' H', Gd K F G' H' σ' en' → Same G G' → D.bk σ' H'
  | .ok (.ct, en') => ∀ σ' G' H', Gd K F G' H' σ' en' → Same G G' → D.ct σ' H'
  | .ok (.rt d, en') => ∀ v σ' G' H', Gd K F G' H' σ' en' → Same G G' → Dp K G' v d → D.rt v H'
  | .err c fs => ∀ cls dx H', ErrAt K mg F c fs cls dx H' → E cls dx H'
  | .stk => False
end
section
variable (K : PySem.W.Frag) (mg : Str → Option Value) (E : L2.St → XK)
structure SE (te : TE) (m : Em) : Prop where
  run : ∀ F σ en G H Q, Gd K F G H σ en → PoE K mg (E σ) F σ G Q (m en) → te σ H Q
structure SL (te : TE) (m : Am) : Prop where
  run : ∀ F σ en G H Q, Gd K F G H σ en → PoL K mg (E σ) F σ G Q (m en) → te σ H Q
structure ST (tt : TT) (m : Tm) : Prop where
  run : ∀ F σ en G H Q, Gd K F G H σ en → PoT K mg (E σ) F σ G Q (m en) → tt σ H Q
structure SA (ta : TA) (m : Am) : Prop where
  run : ∀ F σ en G H Q, Gd K F G H σ en → PoA K mg (E σ) F σ G Q (m en) → ta σ H Q
/-- a target that stores at the slots js alone -/
structure SG (js : List Nat) (g : TG) (m : Gm) : Prop where
  run : ∀ F σ en G H v d Q, Gd K F G H σ en → Dp K G v d → (match m d en with
    | .ok en' => ∀ σ', σ'.length = σ.length → (∀ k, k ∉ js → σ'[k]? = σ[k]?) → Gd K F G H σ' en' → Q σ' H
    | _ => False) → g v σ H Q
end
/-- statements; an error may come at any slots -/
structure SS (K : PySem.W.Frag) (mg : Str → Option Value) (E : XK) (ts : TS) (m : Sm) : Prop where
  run : ∀ F σ en G H D, Gd K F G H σ en → PoS K mg E F G D (m en) → ts D σ H
/-- what is walked yields the data ds, whatever else there is -/
def ItOk (K : PySem.W.Frag) (G0 : Hp) (J : It) (ds : List D) : Prop := ∀ i G H, Same G0 G → Same G H →
  (∀ d, ds[i]? = some d → J.go i H ∧ ∀ x H', J.yld i H x H' → ∃ G2, Gf (F0 G H) G2 H' ∧ Dp K G2 x d) ∧ (ds[i]? = none → J.stop i H)
section
variable (K : PySem.W.Frag) (mg : Str → Option Value) (E : XK)
def PoI (F : Fm) (σ : L2.St) (G : Hp) (R : It → Hp → Prop) : Rs (List D × En) → Prop
  | .ok (ds, en') => ∀ J G' H', Gd K F G' H' σ en' → Same G G' → ItOk K G' J ds → R J H'
  | .err c fs => ∀ cls dx H', ErrAt K mg F c fs cls dx H' → E cls dx H'
  | .stk => False
end
section
variable (K : PySem.W.Frag) (mg : Str → Option Value) (E : L2.St → XK)
structure SI (wi : TI) (m : Im) : Prop where
  run : ∀ F σ en G H R, Gd K F G H σ en → PoI K mg (E σ) F σ G R (m en) → wi σ H R
/-- operations on values -/
structure O1 (r : V → Hp → VK → Prop) (f : D → Rs D) : Prop where
  run : ∀ G H x d z, Same G H → Dp K G x d → f d = .ok z → ∀ Q : VK, (∀ v G' H', Gf (F0 G H) G' H' → Dp K G' v z → Q v H') → r x H Q
structure O2 (r : R2) (f : D → D → Rs D) : Prop where
  run : ∀ G H x y d e z, Same G H → Dp K G x d → Dp K G y e → f d e = .ok z → ∀ Q : VK, (∀ v G' H', Gf (F0 G H) G' H' → Dp K G' v z → Q v H') → r x y H Q
structure ON (r : List V → Hp → VK → Prop) (f : List D → Rs D) : Prop where
  run : ∀ G H xs ds z, Same G H → DpAll K G xs ds → f ds = .ok z → ∀ Q : VK, (∀ v G' H', Gf (F0 G H) G' H' → Dp K G' v z → Q v H') → r xs H Q
/-- .. that make a new list -/
structure OL (r : List V → Hp → VK → Prop) (f : List D → Rs (List D)) : Prop where
  run : ∀ G H xs ds zs, Same G H → DpAll K G xs ds → f ds = .ok zs → ∀ Q : VK, (∀ p vs G' H', Gf (F0 G H) G' H' → H p = none → G' p = none → H' p = some (.lst vs) → DpAll K G' vs zs → Q (.ref p) H') → r xs H Q
structure O2L (r : R2) (f : D → D → Rs (List D)) : Prop where
  run : ∀ G H x y d e zs, Same G H → Dp K G x d → Dp K G y e → f d e = .ok zs → ∀ Q : VK, (∀ p vs G' H', Gf (F0 G H) G' H' → H p = none → G' p = none → H' p = some (.lst vs) → DpAll K G' vs zs → Q (.ref p) H') → r x y H Q
end

section
variable {K : PySem.W.Frag} {mg : Str → Option Value} {E : L2.St → XK} {F : Fm} {σ : L2.St} {G G' H H' : Hp} {en : En}

theorem PoE.bind {A : Type} {Q : VK} {x : Rs A} {f : A → Rs (D × En)} (h : PoE K mg (E σ) F σ G Q (x.bind f)) : (∃ a, x = .ok a ∧ PoE K mg (E σ) F σ G Q (f a)) ∨ ∃ c fs, x = .err c fs ∧ ∀ cls dx H', ErrAt K mg F c fs cls dx H' → E σ cls dx H' := by
  cases x with
  | ok a => exact .inl ⟨a, rfl, h⟩
  | err c fs => exact .inr ⟨c, fs, rfl, h⟩
  | stk => exact h.elim

/-! ### from the parts -/
theorem se_bind {te : TE} {m : Em} {Q : VK} {B : Type} {P : Rs B → Prop} {f : D × En → Rs B} (h : SE K mg E te m) (g : Gd K F G H σ en) (he : ∀ c fs, P (.err c fs) → ∀ cls dx H', ErrAt K mg F c fs cls dx H' → E σ cls dx H') (hs : ¬ P .stk)
    (p : P ((m en).bind f)) (k : ∀ d en' v G' H', P (f (d, en')) → Gd K F G' H' σ en' → Same G G' → Dp K G' v d → Q v H') : te σ H Q := by
  refine h.run F σ en G H Q g ?_
  cases q : m en with
  | ok a =>
    obtain ⟨d, en'⟩ := a
    rw [q] at p
    exact fun v G' H' g' s' hd => k d en' v G' H' p g' s' hd
  | err c fs =>
    rw [q] at p
    exact he c fs p
  | stk =>
    rw [q] at p
    exact hs p
theorem sl_bind {te : TE} {m : Am} {Q : VK} {B : Type} {P : Rs B → Prop} {f : List D × En → Rs B} (h : SL K mg E te m) (g : Gd K F G H σ en) (he : ∀ c fs, P (.err c fs) → ∀ cls dx H', ErrAt K mg F c fs cls dx H' → E σ cls dx H') (hs : ¬ P .stk)
    (p : P ((m en).bind f)) (k : ∀ ds en' p vs G' H', P (f (ds, en')) → Gd K F G' H' σ en' → Same G G' → G' p = none → H' p = some (.lst vs) → DpAll K G' vs ds → F.H0 p = none → Free K G' H' σ en' p → Q (.ref p) H') : te σ H Q := by
  refine h.run F σ en G H Q g ?_
  cases q : m en with
  | ok a =>
    obtain ⟨d, en'⟩ := a
    rw [q] at p
    exact fun pp vs G' H' g' s' h1 h2 h3 h4 h5 => k d en' pp vs G' H' p g' s' h1 h2 h3 h4 h5
  | err c fs =>
    rw [q] at p
    exact he c fs p
  | stk =>
    rw [q] at p
    exact hs p
theorem st_bind {tt : TT} {m : Tm} {Q : Bool → Hp → Prop} {B : Type} {P : Rs B → Prop} {f : Bool × En → Rs B} (h : ST K mg E tt m) (g : Gd K F G H σ en) (he : ∀ c fs, P (.err c fs) → ∀ cls dx H', ErrAt K mg F c fs cls dx H' → E σ cls dx H') (hs : ¬ P .stk)
    (p : P ((m en).bind f)) (k : ∀ b en' G' H', P (f (b, en')) → Gd K F G' H' σ en' → Same G G' → Q b H') : tt σ H Q := by
  refine h.run F σ en G H Q g ?_
  cases q : m en with
  | ok a =>
    obtain ⟨d, en'⟩ := a
    rw [q] at p
    exact fun G' H' g' s' => k d en' G' H' p g' s'
  | err c fs =>
    rw [q] at p
    exact he c fs p
  | stk =>
    rw [q] at p
    exact hs p
theorem sa_bind {ta : TA} {m : Am} {Q : List V → Hp → Prop} {B : Type} {P : Rs B → Prop} {f : List D × En → Rs B} (h : SA K mg E ta m) (g : Gd K F G H σ en) (he : ∀ c fs, P (.err c fs) → ∀ cls dx H', ErrAt K mg F c fs cls dx H' → E σ cls dx H') (hs : ¬ P .stk)
    (p : P ((m en).bind f)) (k : ∀ ds en' vs G' H', P (f (ds, en')) → Gd K F G' H' σ en' → Same G G' → DpAll K G' vs ds → Q vs H') : ta σ H Q := by
  refine h.run F σ en G H Q g ?_
  cases q : m en with
  | ok a =>
    obtain ⟨d, en'⟩ := a
    rw [q] at p
    exact fun vs G' H' g' s' hd => k d en' vs G' H' p g' s' hd
  | err c fs =>
    rw [q] at p
    exact he c fs p
  | stk =>
    rw [q] at p
    exact hs p
theorem si_bind {wi : TI} {m : Im} {R : It → Hp → Prop} {B : Type} {P : Rs B → Prop} {f : List D × En → Rs B} (h : SI K mg E wi m) (g : Gd K F G H σ en) (he : ∀ c fs, P (.err c fs) → ∀ cls dx H', ErrAt K mg F c fs cls dx H' → E σ cls dx H') (hs : ¬ P .stk)
    (p : P ((m en).bind f)) (k : ∀ ds en' J G' H', P (f (ds, en')) → Gd K F G' H' σ en' → Same G G' → ItOk K G' J ds → R J H') : wi σ H R := by
  refine h.run F σ en G H R g ?_
  cases q : m en with
  | ok a =>
    obtain ⟨d, en'⟩ := a
    rw [q] at p
    exact fun J G' H' g' s' hd => k d en' J G' H' p g' s' hd
  | err c fs =>
    rw [q] at p
    exact he c fs p
  | stk =>
    rw [q] at p
    exact hs p
theorem poE_err {Q : VK} (c fs) (h : PoE K mg (E σ) F σ G Q (.err c fs)) : ∀ cls dx H', ErrAt K mg F c fs cls dx H' → E σ cls dx H' := h
theorem poL_err {Q : VK} (c fs) (h : PoL K mg (E σ) F σ G Q (.err c fs)) : ∀ cls dx H', ErrAt K mg F c fs cls dx H' → E σ cls dx H' := h
theorem poT_err {Q : Bool → Hp → Prop} (c fs) (h : PoT K mg (E σ) F σ G Q (.err c fs)) : ∀ cls dx H', ErrAt K mg F c fs cls dx H' → E σ cls dx H' := h
theorem poA_err {Q : List V → Hp → Prop} (c fs) (h : PoA K mg (E σ) F σ G Q (.err c fs)) : ∀ cls dx H', ErrAt K mg F c fs cls dx H' → E σ cls dx H' := h
theorem poI_err {Q : It → Hp → Prop} (c fs) (h : PoI K mg (E σ) F σ G Q (.err c fs)) : ∀ cls dx H', ErrAt K mg F c fs cls dx H' → E σ cls dx H' := h
theorem poS_err {E : XK} {D : Ends} (c fs) (h : PoS K mg E F G D (.err c fs)) : ∀ cls dx H', ErrAt K mg F c fs cls dx H' → E cls dx H' := h

theorem PoS.up {E : XK} {D : Ends} {x : Rs (Fl × En)} (s : Same G G') (h : PoS K mg E F G D x) : PoS K mg E F G' D x := by
  cases x with
  | ok a =>
    obtain ⟨f, en'⟩ := a
    cases f with
    | nx => exact fun σ2 G2 H2 g2 s2 => h σ2 G2 H2 g2 (s.trans s2)
    | bk => exact fun σ2 G2 H2 g2 s2 => h σ2 G2 H2 g2 (s.trans s2)
    | ct => exact fun σ2 G2 H2 g2 s2 => h σ2 G2 H2 g2 (s.trans s2)
    | rt d => exact fun v σ2 G2 H2 g2 s2 hd => h v σ2 G2 H2 g2 (s.trans s2) hd
  | err c fs => exact h
  | stk => exact h

/-! ### names, constants -/
def eVar (i : Nat) : Em := fun en => match en[i]? with
  | some (.dat d) => .ok (d, en)
  | some (.own (.lst ds)) => .ok (.list ds, en.set i (.dat (.list ds)))
  | _ => .stk
theorem se_var {i : Nat} : SE K mg E (tVar i) (eVar i) := by
  refine ⟨fun F σ en G H Q g h => ?_⟩
  unfold eVar at h
  split at h
  · rename_i d e
    obtain ⟨v, h1, h2⟩ := g.dat e
    exact ⟨v, h1, h v G H g (Same.refl _) h2⟩
  · rename_i ds e
    obtain ⟨p, vs, h1, h2, h3, h4⟩ := g.freeze e
    exact ⟨.ref p, h1, h (.ref p) _ H h2 h3 h4⟩
  · exact h.elim
def eC (d : D) : Em := fun en => .ok (d, en)
theorem se_c {v : V} {d : D} (hd : ∀ G, Dp K G v d) : SE K mg E (tC v) (eC d) := ⟨fun F σ en G H Q g h => h v G H g (Same.refl _) (hd G)⟩
theorem se_int {i : Int} : SE K mg E (tC (.int i)) (eC (.int i)) := se_c fun _ => .int i
theorem se_bl {b : Bool} : SE K mg E (tC (.bl b)) (eC (.bool b)) := se_c fun _ => .bl b
theorem se_non : SE K mg E (tC .non) (eC .none) := se_c fun _ => .non
theorem se_str {x : Str} : SE K mg E (tC (.str x)) (eC (.str x)) := se_c fun _ => .str x

/-! ### argument lists, displays -/
def aNil : Am := fun en => .ok ([], en)
def aCons (m : Em) (r : Am) : Am := fun en => (m en).bind fun p => (r p.2).bind fun q => .ok (p.1 :: q.1, q.2)
theorem sa_nil : SA K mg E tNil aNil := ⟨fun F σ en G H Q g h => h [] G H g (Same.refl _) .nil⟩
theorem sa_cons {te : TE} {ta : TA} {m : Em} {r : Am} (h1 : SE K mg E te m) (h2 : SA K mg E ta r) : SA K mg E (tCons te ta) (aCons m r) := by
  refine ⟨fun F σ en G H Q g h => ?_⟩
  refine se_bind h1 g poA_err id h fun d en1 v G1 H1 p1 g1 s1 d1 => ?_
  refine sa_bind h2 g1 poA_err id p1 fun ds en2 vs G2 H2 p2 g2 s2 d2 => ?_
  exact p2 (v :: vs) G2 H2 g2 (s1.trans s2) (.cons (dp_mono s2 _ _ d1) d2)
def eTup (a : Am) : Em := fun en => (a en).bind fun p => if p.1.length ≤ big then .ok (.tuple p.1, p.2) else .stk
theorem se_tup {ta : TA} {a : Am} (h1 : SA K mg E ta a) : SE K mg E (tTup ta) (eTup a) := by
  refine ⟨fun F σ en G H Q g h => ?_⟩
  refine sa_bind h1 g poE_err id h fun ds en1 vs G1 H1 p1 g1 s1 d1 => ?_
  split at p1
  · rename_i hz
    refine ⟨by rw [dpa_len d1]; exact big_line hz, fun p hp => ?_⟩
    have f := gf0_newG (o := .tup vs) g1.gf.gh hp
    exact p1 (.ref p) _ _ (g1.grow f) (s1.trans f.g0) (.tup (.inl (.inl upd_same)) (dpa_mono f.g0 _ _ d1))
  · exact p1.elim
/-- a new list, by what is asked of a new list -/
theorem free_new {p : Addr} (g : Gd K F G H σ en) (hp : H p = none) (f : Gf (F0 G H) G' H') : Free K G' H' σ en p := by
  intro i mo v as e1 e2 ow ha
  obtain ⟨om, s⟩ := g.sat
  obtain ⟨v', as', k1, k2, k3⟩ := s i _ e1
  rw [e2] at k1; cases k1
  have k2' : Own K G' H' v mo as' := k2.keep f.g0 (fun a ha => f.nf a (k2.live a ha).1 (k2.live a ha).2 id) fun a _ x hx => f.pres a x hx id
  obtain rfl := ow.inj k2'
  exact (k2.live p ha).1 hp
theorem h0_new {p : Addr} (g : Gd K F G H σ en) (hp : H p = none) : F.H0 p = none := by
  cases q : F.H0 p with
  | none => rfl
  | some o => exact absurd hp (g.gf.live p (by rw [q]; exact fun z => by cases z))
def lLst (a : Am) : Am := fun en => (a en).bind fun p => if p.1.length ≤ big then .ok p else .stk
theorem sl_lst {ta : TA} {a : Am} (h1 : SA K mg E ta a) : SL K mg E (tLst ta) (lLst a) := by
  refine ⟨fun F σ en G H Q g h => ?_⟩
  refine sa_bind h1 g poL_err id h fun ds en1 vs G1 H1 p1 g1 s1 d1 => ?_
  split at p1
  · rename_i hz
    refine ⟨by rw [dpa_len d1]; exact big_line hz, fun p hp => ?_⟩
    have f := gf0_new (o := .lst vs) g1.gf.gh hp
    exact p1 p vs G1 _ (g1.grow f) s1 (Same.free g1.gf.gh hp) upd_same d1 (h0_new g1 hp) (free_new g1 hp f)
  · exact p1.elim
/-- a new list as data -/
def eL (m : Am) : Em := fun en => (m en).bind fun p => .ok (.list p.1, p.2)
theorem se_l {te : TE} {m : Am} (h1 : SL K mg E te m) : SE K mg E te (eL m) := by
  refine ⟨fun F σ en G H Q g h => ?_⟩
  refine sl_bind h1 g poE_err id h fun ds en1 p vs G1 H1 p1 g1 s1 hg hh hd h0 fr => ?_
  have sm : Same G1 (upd G1 p (.lst vs)) := same_upd hg
  exact p1 (.ref p) _ H1 (g1.adopt hg hh (.inr h0) fr) (s1.trans sm) (.lst (.inl (.inl upd_same)) (dpa_mono sm _ _ hd))

/-! ### operations -/
def e1 (f : D → Rs D) (a : Em) : Em := fun en => (a en).bind fun p => (f p.1).calm.bind fun z => .ok (z, p.2)
def e2 (f : D → D → Rs D) (a b : Em) : Em := fun en => (a en).bind fun p => (b p.2).bind fun q => (f p.1 q.1).calm.bind fun z => .ok (z, q.2)
def eN (f : List D → Rs D) (a : Am) : Em := fun en => (a en).bind fun p => (f p.1).calm.bind fun z => .ok (z, p.2)
def lN (f : List D → Rs (List D)) (a : Am) : Am := fun en => (a en).bind fun p => (f p.1).calm.bind fun z => .ok (z, p.2)
def l2 (f : D → D → Rs (List D)) (a b : Em) : Am := fun en => (a en).bind fun p => (b p.2).bind fun q => (f p.1 q.1).calm.bind fun z => .ok (z, q.2)
theorem calm_bind {A B : Type} {x : Rs A} {f : A → Rs B} {P : Rs B → Prop} (hs : ¬ P .stk) (h : P (x.calm.bind f)) : ∃ a, x = .ok a ∧ P (f a) := by
  cases x with
  | ok a => exact ⟨a, rfl, h⟩
  | err c fs => exact (hs h).elim
  | stk => exact (hs h).elim
theorem se_1 {r : V → Hp → VK → Prop} {f : D → Rs D} {ta : TE} {a : Em} (ho : O1 K r f) (h1 : SE K mg E ta a) : SE K mg E (tUn r ta) (e1 f a) := by
  refine ⟨fun F σ en G H Q g h => ?_⟩
  show ta σ H _
  refine se_bind h1 g poE_err id h fun d en1 v G1 H1 p1 g1 s1 d1 => ?_
  obtain ⟨z, ez, pz⟩ := calm_bind (P := PoE K mg (E σ) F σ G Q) id p1
  exact ho.run G1 H1 v d z g1.gf.gh d1 ez Q fun u G2 H2 f2 du => pz u G2 H2 (g1.grow f2) (s1.trans f2.g0) du
theorem se_2 {r : R2} {f : D → D → Rs D} {ta tb : TE} {a b : Em} (ho : O2 K r f) (h1 : SE K mg E ta a) (h2 : SE K mg E tb b) : SE K mg E (tOp r ta tb) (e2 f a b) := by
  refine ⟨fun F σ en G H Q g h => ?_⟩
  show ta σ H _
  refine se_bind h1 g poE_err id h fun d en1 v G1 H1 p1 g1 s1 d1 => ?_
  refine se_bind h2 g1 poE_err id p1 fun e en2 u G2 H2 p2 g2 s2 d2 => ?_
  obtain ⟨z, ez, pz⟩ := calm_bind (P := PoE K mg (E σ) F σ G Q) id p2
  exact ho.run G2 H2 v u d e z g2.gf.gh (dp_mono s2 _ _ d1) d2 ez Q fun w G3 H3 f3 dw => pz w G3 H3 (g2.grow f3) ((s1.trans s2).trans f3.g0) dw
theorem se_n {r : List V → Hp → VK → Prop} {f : List D → Rs D} {ta : TA} {a : Am} (ho : ON K r f) (h1 : SA K mg E ta a) : SE K mg E (tCB r ta) (eN f a) := by
  refine ⟨fun F σ en G H Q g h => ?_⟩
  refine sa_bind h1 g poE_err id h fun ds en1 vs G1 H1 p1 g1 s1 d1 => ?_
  obtain ⟨z, ez, pz⟩ := calm_bind (P := PoE K mg (E σ) F σ G Q) id p1
  exact ho.run G1 H1 vs ds z g1.gf.gh d1 ez Q fun u G2 H2 f2 du => pz u G2 H2 (g1.grow f2) (s1.trans f2.g0) du
theorem sl_n {r : List V → Hp → VK → Prop} {f : List D → Rs (List D)} {ta : TA} {a : Am} (ho : OL K r f) (h1 : SA K mg E ta a) : SL K mg E (tCB r ta) (lN f a) := by
  refine ⟨fun F σ en G H Q g h => ?_⟩
  refine sa_bind h1 g poL_err id h fun ds en1 vs G1 H1 p1 g1 s1 d1 => ?_
  obtain ⟨z, ez, pz⟩ := calm_bind (P := PoL K mg (E σ) F σ G Q) id p1
  exact ho.run G1 H1 vs ds z g1.gf.gh d1 ez Q fun p us G2 H2 f2 hp h3 h4 h5 => pz p us G2 H2 (g1.grow f2) (s1.trans f2.g0) h3 h4 h5 (h0_new g1 hp) (free_new g1 hp f2)
theorem sl_2 {r : R2} {f : D → D → Rs (List D)} {ta tb : TE} {a b : Em} (ho : O2L K r f) (h1 : SE K mg E ta a) (h2 : SE K mg E tb b) : SL K mg E (tOp r ta tb) (l2 f a b) := by
  refine ⟨fun F σ en G H Q g h => ?_⟩
  show ta σ H _
  refine se_bind h1 g poL_err id h fun d en1 v G1 H1 p1 g1 s1 d1 => ?_
  refine se_bind h2 g1 poL_err id p1 fun e en2 u G2 H2 p2 g2 s2 d2 => ?_
  obtain ⟨z, ez, pz⟩ := calm_bind (P := PoL K mg (E σ) F σ G Q) id p2
  exact ho.run G2 H2 v u d e z g2.gf.gh (dp_mono s2 _ _ d1) d2 ez Q fun p us G3 H3 f3 hp h3 h4 h5 => pz p us G3 H3 (g2.grow f3) ((s1.trans s2).trans f3.g0) h3 h4 h5 (h0_new g2 hp) (free_new g2 hp f3)

/-! ### tests -/
def tmB (a : Em) : Tm := fun en => (a en).bind fun p => match p.1 with
  | .bool b => .ok (b, p.2)
  | _ => .stk
theorem st_B {te : TE} {a : Em} (h1 : SE K mg E te a) : ST K mg E (tB te) (tmB a) := by
  refine ⟨fun F σ en G H Q g h => ?_⟩
  refine se_bind h1 g poT_err id h fun d en1 v G1 H1 p1 g1 s1 d1 => ?_
  split at p1
  · rename_i b e
    have e' : d = .bool b := e
    subst e'
    cases d1
    exact ⟨b, rfl, p1 G1 H1 g1 s1⟩
  · exact p1.elim
theorem st_test {te : TE} {a : Em} (h1 : SE K mg E te a) : ST K mg E (tTest te) (tmB a) := ⟨fun F σ en G H Q g h => (st_B h1).run F σ en G H Q g h⟩
/-- a value's truth -/
def tru : D → Rs Bool
  | .none => .ok false
  | .bool b => .ok b
  | .int i => .ok (i != 0)
  | .list xs => .ok (!xs.isEmpty)
  | .tuple xs => .ok (!xs.isEmpty)
  | _ => .stk
def tmTru (a : Em) : Tm := fun en => (a en).bind fun p => (tru p.1).calm.bind fun b => .ok (b, p.2)
theorem dpa_isEmpty {vs : List V} {ds : List D} (h : DpAll K G vs ds) : vs.isEmpty = ds.isEmpty := by cases h <;> rfl
theorem st_tru {te : TE} {a : Em} (h1 : SE K mg E te a) : ST K mg E (fun σ H Q => te σ H fun x H' => ∃ k, TruV K x H' k ∧ Q k H') (tmTru a) := by
  refine ⟨fun F σ en G H Q g h => ?_⟩
  refine se_bind h1 g poT_err id h fun d en1 v G1 H1 p1 g1 s1 d1 => ?_
  obtain ⟨b, eb, pb⟩ := calm_bind (P := PoT K mg (E σ) F σ G Q) id p1
  refine ⟨b, ?_, pb G1 H1 g1 s1⟩
  have dH := dp_mono g1.gf.gh _ _ d1
  cases d with
  | none => cases dH; cases eb; rfl
  | bool c => cases dH; cases eb; rfl
  | int i => cases dH; cases eb; rfl
  | str x => cases eb
  | list xs =>
    cases eb
    cases dH with
    | lst hs ha => exact .inl ⟨_, hs, by rw [dpa_isEmpty ha]⟩
  | tuple xs =>
    cases eb
    cases dH with
    | tup hs ha => exact .inr (.inl ⟨_, hs, by rw [dpa_isEmpty ha]⟩)
  | dict kvs => cases eb
def tmAnd (a b : Tm) : Tm := fun en => (a en).bind fun p => if p.1 = true then b p.2 else .ok (false, p.2)
def tmOr (a b : Tm) : Tm := fun en => (a en).bind fun p => if p.1 = true then .ok (true, p.2) else b p.2
def tmNot (a : Tm) : Tm := fun en => (a en).bind fun p => .ok (!p.1, p.2)
theorem PoT.up {Q : Bool → Hp → Prop} {x : Rs (Bool × En)} (s : Same G G') (h : PoT K mg (E σ) F σ G Q x) : PoT K mg (E σ) F σ G' Q x := by
  cases x with
  | ok a => obtain ⟨b, en'⟩ := a; exact fun G2 H2 g2 s2 => h G2 H2 g2 (s.trans s2)
  | err c fs => exact h
  | stk => exact h
theorem PoE.up {Q : VK} {x : Rs (D × En)} (s : Same G G') (h : PoE K mg (E σ) F σ G Q x) : PoE K mg (E σ) F σ G' Q x := by
  cases x with
  | ok a => obtain ⟨b, en'⟩ := a; exact fun v G2 H2 g2 s2 d => h v G2 H2 g2 (s.trans s2) d
  | err c fs => exact h
  | stk => exact h
theorem st_and {t u : TT} {a b : Tm} (h1 : ST K mg E t a) (h2 : ST K mg E u b) : ST K mg E (tAnd t u) (tmAnd a b) := by
  refine ⟨fun F σ en G H Q g h => ?_⟩
  show t σ H _
  refine st_bind h1 g poT_err id h fun k en1 G1 H1 p1 g1 s1 => ?_
  cases k with
  | true => exact h2.run F σ en1 G1 H1 Q g1 (PoT.up s1 p1)
  | false => exact p1 G1 H1 g1 s1
theorem st_or {t u : TT} {a b : Tm} (h1 : ST K mg E t a) (h2 : ST K mg E u b) : ST K mg E (tOr t u) (tmOr a b) := by
  refine ⟨fun F σ en G H Q g h => ?_⟩
  show t σ H _
  refine st_bind h1 g poT_err id h fun k en1 G1 H1 p1 g1 s1 => ?_
  cases k with
  | true => exact p1 G1 H1 g1 s1
  | false => exact h2.run F σ en1 G1 H1 Q g1 (PoT.up s1 p1)
theorem st_not {t : TT} {a : Tm} (h1 : ST K mg E t a) : ST K mg E (tNot t) (tmNot a) := by
  refine ⟨fun F σ en G H Q g h => ?_⟩
  show t σ H _
  exact st_bind h1 g poT_err id h fun k en1 G1 H1 p1 g1 s1 => p1 G1 H1 g1 s1
def eAnd (a b : Em) : Em := fun en => (a en).bind fun p => match p.1 with
  | .bool true => b p.2
  | .bool false => .ok (.bool false, p.2)
  | _ => .stk
def eOr (a b : Em) : Em := fun en => (a en).bind fun p => match p.1 with
  | .bool true => .ok (.bool true, p.2)
  | .bool false => b p.2
  | _ => .stk
def eNot (a : Em) : Em := fun en => (a en).bind fun p => match p.1 with
  | .bool b => .ok (.bool (!b), p.2)
  | _ => .stk
theorem se_and {ta tb : TE} {a b : Em} (h1 : SE K mg E ta a) (h2 : SE K mg E tb b) : SE K mg E (tAndV ta tb) (eAnd a b) := by
  refine ⟨fun F σ en G H Q g h => ?_⟩
  show ta σ H _
  refine se_bind h1 g poE_err id h fun d en1 v G1 H1 p1 g1 s1 d1 => ?_
  split at p1
  · rename_i e
    have e' : d = .bool true := e
    subst e'; cases d1
    exact ⟨true, rfl, h2.run F σ en1 G1 H1 Q g1 (PoE.up s1 p1)⟩
  · rename_i e
    have e' : d = .bool false := e
    subst e'; cases d1
    exact ⟨false, rfl, p1 _ G1 H1 g1 s1 (.bl false)⟩
  · exact p1.elim
theorem se_or {ta tb : TE} {a b : Em} (h1 : SE K mg E ta a) (h2 : SE K mg E tb b) : SE K mg E (tOrV ta tb) (eOr a b) := by
  refine ⟨fun F σ en G H Q g h => ?_⟩
  show ta σ H _
  refine se_bind h1 g poE_err id h fun d en1 v G1 H1 p1 g1 s1 d1 => ?_
  split at p1
  · rename_i e
    have e' : d = .bool true := e
    subst e'; cases d1
    exact ⟨true, rfl, p1 _ G1 H1 g1 s1 (.bl true)⟩
  · rename_i e
    have e' : d = .bool false := e
    subst e'; cases d1
    exact ⟨false, rfl, h2.run F σ en1 G1 H1 Q g1 (PoE.up s1 p1)⟩
  · exact p1.elim
theorem se_not {ta : TE} {a : Em} (h1 : SE K mg E ta a) : SE K mg E (tNotV ta) (eNot a) := by
  refine ⟨fun F σ en G H Q g h => ?_⟩
  show ta σ H _
  refine se_bind h1 g poE_err id h fun d en1 v G1 H1 p1 g1 s1 d1 => ?_
  split at p1
  · rename_i b e
    have e' : d = .bool b := e
    subst e'; cases d1
    exact ⟨b, rfl, p1 _ G1 H1 g1 s1 (.bl _)⟩
  · exact p1.elim
def eIf (t : Tm) (a b : Em) : Em := fun en => (t en).bind fun p => if p.1 = true then a p.2 else b p.2
theorem se_if {t : TT} {ta tb : TE} {m : Tm} {a b : Em} (h : ST K mg E t m) (h1 : SE K mg E ta a) (h2 : SE K mg E tb b) : SE K mg E (tIf t ta tb) (eIf m a b) := by
  refine ⟨fun F σ en G H Q g h0 => ?_⟩
  show t σ H _
  refine st_bind h g poE_err id h0 fun k en1 G1 H1 p1 g1 s1 => ?_
  cases k with
  | true => exact h1.run F σ en1 G1 H1 Q g1 (PoE.up s1 p1)
  | false => exact h2.run F σ en1 G1 H1 Q g1 (PoE.up s1 p1)

/-! ### targets -/
def gmName (j : Nat) : Gm := fun d en => .ok (en.set j (.dat d))
theorem sg_name {j : Nat} : SG K [j] (gName j) (gmName j) := by
  refine ⟨fun F σ en G H v d Q g hd h => ?_⟩
  refine h (σ.set j (some v)) List.length_set (fun k hk => ?_) (g.setDat hd)
  rw [List.getElem?_set_ne (fun z => hk (by simp [z]))]
def gmNames : List Nat → List D → En → Rs En
  | [], [], en => .ok en
  | j :: js, d :: ds, en => gmNames js ds (en.set j (.dat d))
  | _, _, _ => .stk
def gmTup (js : List Nat) : Gm := fun d en => match d with
  | .tuple ds => gmNames js ds en
  | _ => .stk
structure SGs (K : PySem.W.Frag) (js : List Nat) (g : TGs) : Prop where
  run : ∀ F σ en G H vs ds Q, Gd K F G H σ en → DpAll K G vs ds → (match gmNames js ds en with
    | .ok en' => ∀ σ', σ'.length = σ.length → (∀ k, k ∉ js → σ'[k]? = σ[k]?) → Gd K F G H σ' en' → Q σ' H
    | _ => False) → g vs σ H Q
theorem sgs_nil : SGs K [] gNil := by
  refine ⟨fun F σ en G H vs ds Q g hd h => ?_⟩
  cases hd with
  | nil => exact ⟨rfl, h σ rfl (fun _ _ => rfl) g⟩
  | cons _ _ => exact (show False from h).elim
theorem sgs_cons {j : Nat} {js : List Nat} {gs : TGs} (h2 : SGs K js gs) : SGs K (j :: js) (gCons (gName j) gs) := by
  refine ⟨fun F σ en G H vs ds Q g hd h => ?_⟩
  cases hd with
  | nil => exact (show False from h).elim
  | @cons v vs d ds h3 h4 =>
    refine ⟨v, vs, rfl, ?_⟩
    refine h2.run F (σ.set j (some v)) (en.set j (.dat d)) G H vs ds Q (g.setDat h3) h4 ?_
    have h' : (match gmNames js ds (en.set j (.dat d)) with
      | .ok en' => ∀ σ', σ'.length = σ.length → (∀ k, k ∉ j :: js → σ'[k]? = σ[k]?) → Gd K F G H σ' en' → Q σ' H
      | _ => False) := h
    revert h'
    cases gmNames js ds (en.set j (.dat d)) with
    | ok en' => exact fun h' σ' hl hk g' => h' σ' (hl.trans List.length_set) (fun k hk' => by
        rw [hk k (fun z => hk' (List.mem_cons_of_mem _ z)), List.getElem?_set_ne (fun z => hk' (by simp [z]))]) g'
    | err c fs => exact id
    | stk => exact id
theorem gmNames_len : ∀ (js : List Nat) (ds : List D) (en en' : En), gmNames js ds en = .ok en' → js.length = ds.length
  | [], [], _, _, _ => rfl
  | [], _ :: _, _, _, h => by cases h
  | _ :: _, [], _, _, h => by cases h
  | j :: js, d :: ds, en, en', h => by rw [List.length_cons, List.length_cons, gmNames_len js ds _ _ h]
theorem sg_tup {js : List Nat} {gs : TGs} {n : Nat} (hn : n = js.length) (h2 : SGs K js gs) : SG K js (gTup K n gs) (gmTup js) := by
  refine ⟨fun F σ en G H v d Q g hd h => ?_⟩
  unfold gmTup at h
  split at h
  · rename_i dd en' e
    split at e
    · rename_i ds
      cases hd with
      | @tup a xs _ hs ha =>
        refine ⟨a, xs, rfl, seqT_mono g.gf.gh hs, ?_, ?_⟩
        · rw [hn, dpa_len ha, gmNames_len _ _ _ _ e]
        · exact h2.run F σ en G H xs ds Q g ha (by rw [e]; exact h)
    · cases e
  · exact h.elim
end
end Mir
end

section
set_option Elab.async false
set_option linter.all false
set_option maxRecDepth 100000
set_option maxHeartbeats 4000000
/-! Mir3: statements, loops, comprehensions, calls, defs. -/
namespace Mir
open PySem PySem.Spec PyProof.Rows L2

/-! ### what is walked -/
section
variable {K : PySem.W.Frag} {mg : Str → Option Value} {E : XK} {F : Fm} {σ : L2.St} {G G' H H' : Hp} {en : En}
theorem itOk_list {a : Addr} {xs : List V} {ds : List D} (hs : SqL K G a xs) (hd : DpAll K G xs ds) (uniq : ∀ H, Same G H → ∀ ys, SqL K H a ys → ys = xs) : ItOk K G (Itl K a) ds := by
  intro i G1 H1 s1 s2
  have hq : SqL K H1 a xs := s2.seq (s1.seq hs)
  refine ⟨fun d e => ?_, fun e => ?_⟩
  · obtain ⟨v, ev, dv⟩ := dpa_get hd e
    refine ⟨⟨xs, v, hq, ev⟩, fun x H2 y => ?_⟩
    obtain ⟨rfl, y⟩ := y
    have : x = v := Option.some.inj ((y xs hq).symm.trans ev)
    subst this
    exact ⟨G1, gf0_refl s2, dp_mono s1 _ _ dv⟩
  · exact ⟨xs, hq, by
      have := dpa_len hd
      have := List.getElem?_eq_none_iff.mp e
      omega⟩
/-- a list is what it is -/
theorem seqL_uniq {a : Addr} {xs ys : List V} (h : SqL K H a xs) (h' : SqL K H a ys) (hb : ∀ o, K.lookup a = some o → H a = none) : ys = xs := by
  rcases h with (h | ⟨o, h⟩) | ⟨o, its, n, k1, k2, k3, k4, k5, k6⟩
  · rcases h' with (h' | ⟨o', h'⟩) | ⟨o', its', n', k1', _⟩
    · rw [h] at h'; cases h'; rfl
    · rw [h] at h'; cases h'
    · have := hb _ k1'; rw [h] at this; cases this
  · rcases h' with (h' | ⟨o', h'⟩) | ⟨o', its', n', k1', _⟩
    · rw [h] at h'; cases h'
    · rw [h] at h'; cases h'; rfl
    · have := hb _ k1'; rw [h] at this; cases this
  · have hn := hb _ k1
    rcases h' with (h' | ⟨o', h'⟩) | ⟨o', its', n', k1', k2', k3', k4', k5', k6'⟩
    · rw [hn] at h'; cases h'
    · rw [hn] at h'; cases h'
    · rw [k1] at k1'; cases k1'
      rw [k4] at k4'; cases k4'
      exact k6'.inj k6
theorem itOk_range {lo : Int} {n : Nat} : ItOk K G (Itr lo n) ((List.range n).map fun i => PyData.int (lo + (i : Nat))) := by
  intro i G1 H1 s1 s2
  refine ⟨fun d e => ?_, fun e => ?_⟩
  · have hi : i < n := by
      have := (List.getElem?_eq_some_iff.mp e).1
      simpa using this
    rw [List.getElem?_map, List.getElem?_range hi] at e
    cases e
    refine ⟨hi, fun x H2 y => ?_⟩
    obtain ⟨rfl, rfl⟩ := y
    exact ⟨G1, gf0_refl s2, .int _⟩
  · have := List.getElem?_eq_none_iff.mp e
    show n ≤ i
    simpa using this
end
/-! ### statements -/
section
variable {K : PySem.W.Frag} {mg : Str → Option Value} {E : XK} {F : Fm} {σ : L2.St} {G G' H H' : Hp} {en : En}
def mNext : Sm := fun en => .ok (.nx, en)
def mSeq (a b : Sm) : Sm := fun en => (a en).bind fun p => match p.1 with
  | .nx => b p.2
  | f => .ok (f, p.2)
theorem ss_next : SS K mg E tNext mNext := ⟨fun F σ en G H D g h => h σ G H g (Same.refl _)⟩
theorem ss_seq {t u : TS} {a b : Sm} (h1 : SS K mg E t a) (h2 : SS K mg E u b) : SS K mg E (tSeq t u) (mSeq a b) := by
  refine ⟨fun F σ en G H D g h => ?_⟩
  refine h1.run F σ en G H _ g ?_
  unfold mSeq at h
  cases q : a en with
  | ok x =>
    obtain ⟨f, en1⟩ := x
    rw [q] at h
    cases f with
    | nx => exact fun σ' G' H' g' s' => h2.run F σ' en1 G' H' D g' (PoS.up s' h)
    | bk => exact h
    | ct => exact h
    | rt d => exact h
  | err c fs => rw [q] at h; exact h
  | stk => rw [q] at h; exact h
theorem ss_never {m : Sm} (hm : ∀ en, m en = .stk) : SS K mg E tNever m := ⟨fun F σ en G H D g h => by rw [hm] at h; exact h⟩
def mBreak : Sm := fun en => .ok (.bk, en)
def mCont : Sm := fun en => .ok (.ct, en)
theorem ss_break : SS K mg E tBreak mBreak := ⟨fun F σ en G H D g h => h σ G H g (Same.refl _)⟩
theorem ss_cont : SS K mg E tCont mCont := ⟨fun F σ en G H D g h => h σ G H g (Same.refl _)⟩
def mDrop (m : Em) : Sm := fun en => (m en).bind fun p => .ok (.nx, p.2)
theorem ss_drop {te : TE} {m : Em} (h1 : SE K mg (fun _ => E) te m) : SS K mg E (tDrop te) (mDrop m) := by
  refine ⟨fun F σ en G H D g h => ?_⟩
  show te σ H _
  exact se_bind h1 g poS_err id h fun d en1 v G1 H1 p1 g1 s1 d1 => p1 σ G1 H1 g1 s1
def mRet (m : Em) : Sm := fun en => (m en).bind fun p => .ok (.rt p.1, p.2)
theorem ss_ret {te : TE} {m : Em} (h1 : SE K mg (fun _ => E) te m) : SS K mg E (tRet te) (mRet m) := by
  refine ⟨fun F σ en G H D g h => ?_⟩
  show te σ H _
  exact se_bind h1 g poS_err id h fun d en1 v G1 H1 p1 g1 s1 d1 => p1 v σ G1 H1 g1 s1 d1
def mRetN : Sm := fun en => .ok (.rt .none, en)
theorem ss_retN : SS K mg E tRetN mRetN := ⟨fun F σ en G H D g h => h .non σ G H g (Same.refl _) .non⟩
/-- a = e -/
def mAsg (gm : Gm) (m : Em) : Sm := fun en => (m en).bind fun p => (gm p.1 p.2).calm.bind fun e => .ok (.nx, e)
theorem ss_asg {te : TE} {m : Em} {js : List Nat} {gt : TG} {gm : Gm} (h1 : SE K mg (fun _ => E) te m) (h2 : SG K js gt gm) : SS K mg E (tAsg te gt) (mAsg gm m) := by
  refine ⟨fun F σ en G H D g h => ?_⟩
  show te σ H _
  refine se_bind h1 g poS_err id h fun d en1 v G1 H1 p1 g1 s1 d1 => ?_
  obtain ⟨en2, e2, p2⟩ := calm_bind (P := PoS K mg E F G D) id p1
  refine h2.run F σ en1 G1 H1 v d _ g1 d1 ?_
  rw [show gm d en1 = .ok en2 from e2]
  exact fun σ' _ _ g' => p2 σ' G1 H1 g' s1
/-- a = a new list, which stays the name's own -/
def mAsgO (i : Nat) (m : Am) : Sm := fun en => (m en).bind fun p => .ok (.nx, p.2.set i (.own (.lst p.1)))
theorem ss_asgO {i : Nat} {te : TE} {m : Am} (h1 : SL K mg (fun _ => E) te m) : SS K mg E (tAsg te (gName i)) (mAsgO i m) := by
  refine ⟨fun F σ en G H D g h => ?_⟩
  show te σ H _
  exact sl_bind h1 g poS_err id h fun ds en1 p vs G1 H1 p1 g1 s1 hg hh hd h0 fr => p1 _ G1 H1 (g1.setOwn hg hh hd (.inr h0) fr) s1
/-- l.append(e), l the name's own list -/
def ownL (en : En) (i : Nat) : Option (List D) := match en[i]? with
  | some (.own (.lst ds)) => some ds
  | _ => none
theorem ownL_some {en : En} {i : Nat} {ds : List D} (h : ownL en i = some ds) : en[i]? = some (.own (.lst ds)) := by
  unfold ownL at h
  split at h
  · cases h; assumption
  · cases h
def mApp (i : Nat) (m : Em) : Sm := fun en => match ownL en i with
  | none => .stk
  | some _ => (m en).bind fun p => match ownL p.2 i with
    | none => .stk
    | some ds => if ds.length < big then .ok (.nx, p.2.set i (.own (.lst (ds ++ [p.1])))) else .stk
theorem ss_app {i : Nat} {te : TE} {m : Em} (h1 : SE K mg (fun _ => E) te m) : SS K mg E (tDrop (tBM K "list" rAppend (tVar i) (tCons te tNil))) (mApp i m) := by
  refine ⟨fun F σ en G H D g h => ?_⟩
  unfold mApp at h
  split at h
  · exact h.elim
  rename_i ds0 e0
  obtain ⟨p, vs, h1', h2, h3, h4, h5⟩ := g.own (ownL_some e0)
  refine ⟨.ref p, h1', .inl ⟨rfl, vs, .inl (.inl h3)⟩, ?_⟩
  show te σ H _
  refine se_bind h1 g poS_err id h fun d en1 v G1 H1 p1 g1 s1 d1 => ?_
  split at p1
  · exact p1.elim
  rename_i ds e1
  split at p1
  · rename_i hz
    obtain ⟨p', ws, k1, k2, k3, k4, k5⟩ := g1.own (ownL_some e1)
    rw [h1'] at k1; cases k1
    refine ⟨p, ws, v, rfl, rfl, k3, by rw [dpa_len k4]; exact big_lt hz, ?_⟩
    exact p1 σ G1 _ (g1.mut (ownL_some e1) h1' (dpa_app k4 (dpa_one d1))) s1
  · exact p1.elim
/-- l[k] = e -/
def ixI (n : Nat) : D → Option Nat
  | .int k => ixN n k
  | .bool _ => none
  | _ => none
def mSetO (i : Nat) (ix : Em) (m : Em) : Sm := fun en => (m en).bind fun p => match ownL p.2 i with
  | none => .stk
  | some _ => (ix p.2).bind fun q => match ownL q.2 i with
    | none => .stk
    | some ds => match ixI ds.length q.1 with
      | none => .stk
      | some j => .ok (.nx, q.2.set i (.own (.lst (ds.set j p.1))))
theorem ixI_some {n j : Nat} {d : D} (h : ixI n d = some j) : ∃ k, d = .int k ∧ ixN n k = some j := by
  unfold ixI at h
  split at h
  · exact ⟨_, rfl, h⟩
  · cases h
  · cases h
theorem ss_setO {i : Nat} {te ti : TE} {m ix : Em} (h1 : SE K mg (fun _ => E) te m) (h2 : SE K mg (fun _ => E) ti ix) : SS K mg E (tAsg te (gSub (tVar i) ti rSetL)) (mSetO i ix m) := by
  refine ⟨fun F σ en G H D g h => ?_⟩
  show te σ H _
  refine se_bind h1 g poS_err id h fun d en1 v G1 H1 p1 g1 s1 d1 => ?_
  split at p1
  · exact p1.elim
  rename_i ds0 e0
  obtain ⟨p, vs, k1, k2, k3, k4, k5⟩ := g1.own (ownL_some e0)
  refine ⟨.ref p, k1, ?_⟩
  show ti σ H1 _
  refine se_bind h2 g1 poS_err id p1 fun e en2 u G2 H2 p2 g2 s2 d2 => ?_
  split at p2
  · exact p2.elim
  rename_i ds e2
  split at p2
  · exact p2.elim
  rename_i j ej
  obtain ⟨kk, rfl, ek⟩ := ixI_some ej
  cases d2
  obtain ⟨p', ws, l1, l2, l3, l4, l5⟩ := g2.own (ownL_some e2)
  rw [k1] at l1; cases l1
  refine ⟨p, ws, kk, j, rfl, rfl, l3, by rw [dpa_len l4]; exact ek, ?_⟩
  exact p2 σ G2 _ (g2.mut (ownL_some e2) k1 (dpa_set j l4 (dp_mono s2 _ _ d1))) (s1.trans s2)
/-- x op= e of ints -/
def mAug (i : Nat) (f : Int → Int → Int) (m : Em) : Sm := fun en => match en[i]? with
  | some (.dat (.int a)) => (m en).bind fun p => match p.1 with
    | .int b => .ok (.nx, p.2.set i (.dat (.int (f a b))))
    | _ => .stk
  | _ => .stk
theorem ss_aug {i : Nat} {f : Int → Int → Int} {te : TE} {m : Em} (h1 : SE K mg (fun _ => E) te m) : SS K mg E (tAug i te (ipI f)) (mAug i f m) := by
  refine ⟨fun F σ en G H D g h => ?_⟩
  unfold mAug at h
  split at h
  · rename_i a e
    obtain ⟨v, k1, k2⟩ := g.dat e
    cases k2
    refine ⟨.int a, k1, ?_⟩
    refine se_bind h1 g poS_err id h fun d en1 v G1 H1 p1 g1 s1 d1 => ?_
    split at p1
    · rename_i b eb
      have eb' : d = .int b := eb
      subst eb'
      cases d1
      exact ⟨a, b, rfl, rfl, p1 _ G1 H1 (g1.setDat (.int _)) s1⟩
    · exact p1.elim
  · exact h.elim
def mIf (t : Tm) (a b : Sm) : Sm := fun en => (t en).bind fun p => if p.1 = true then a p.2 else b p.2
theorem ss_if {t : TT} {ta tb : TS} {m : Tm} {a b : Sm} (h : ST K mg (fun _ => E) t m) (h1 : SS K mg E ta a) (h2 : SS K mg E tb b) : SS K mg E (tIfS t ta tb) (mIf m a b) := by
  refine ⟨fun F σ en G H D g h0 => ?_⟩
  show t σ H _
  refine st_bind h g poS_err id h0 fun k en1 G1 H1 p1 g1 s1 => ?_
  cases k with
  | true => exact h1.run F σ en1 G1 H1 D g1 (PoS.up s1 p1)
  | false => exact h2.run F σ en1 G1 H1 D g1 (PoS.up s1 p1)
/-- for -/
def forGo (gm : Gm) (b : Sm) : List D → Sm
  | [], en => .ok (.nx, en)
  | d :: ds, en => (gm d en).calm.bind fun en1 => (b en1).bind fun p => match p.1 with
    | .nx => forGo gm b ds p.2
    | .ct => forGo gm b ds p.2
    | .bk => .ok (.nx, p.2)
    | .rt d => .ok (.rt d, p.2)
def mFor (im : Im) (gm : Gm) (b : Sm) : Sm := fun en => (im en).bind fun p => forGo gm b p.1 p.2
theorem drop_some {ds : List D} {i : Nat} {d : D} (h : ds[i]? = some d) : ds.drop i = d :: ds.drop (i + 1) := by
  obtain ⟨hi, e⟩ := List.getElem?_eq_some_iff.mp h
  rw [← e]
  exact List.drop_eq_getElem_cons hi
theorem ss_for {wi : TI} {im : Im} {js : List Nat} {gt : TG} {gm : Gm} {tb : TS} {b : Sm} (h : SI K mg (fun _ => E) wi im) (hg : SG K js gt gm) (hb : SS K mg E tb b) : SS K mg E (tFor wi gt tb) (mFor im gm b) := by
  refine ⟨fun F σ en G H D g h0 => ?_⟩
  show wi σ H _
  refine si_bind h g poS_err id h0 fun ds en1 J G1 H1 p1 g1 s1 it => ?_
  refine ⟨fun i m σ' H' => ∃ G' en', m = ds.length - i ∧ i ≤ ds.length ∧ Gd K F G' H' σ' en' ∧ Same G1 G' ∧ PoS K mg E F G D (forGo gm b (ds.drop i) en'), ⟨ds.length, G1, en1, rfl, Nat.zero_le _, g1, Same.refl _, p1⟩, ?_⟩
  rintro i m σ' H' ⟨G', en', rfl, hi, g', s', p'⟩
  obtain ⟨it1, it2⟩ := it i G' H' s' g'.gf.gh
  cases hd : ds[i]? with
  | none =>
    have hle := List.getElem?_eq_none_iff.mp hd
    rw [List.drop_eq_nil_of_le hle] at p'
    exact .inl ⟨it2 hd, p' σ' G' H' g' (s1.trans s')⟩
  | some d =>
    obtain ⟨go, yl⟩ := it1 d hd
    have hlt := (List.getElem?_eq_some_iff.mp hd).1
    rw [drop_some hd] at p'
    refine .inr ⟨go, fun σ2 H2 => ∃ G2 en2, Gd K F G2 H2 σ2 en2 ∧ Same G1 G2 ∧ PoS K mg E F G D (forGo gm b (ds.drop (i + 1)) en2), fun σ2 H2 ⟨G2, en2, g2, s2, p2⟩ => ⟨ds.length - (i + 1), by omega, G2, en2, rfl, by omega, g2, s2, p2⟩, fun x H2 y => ?_⟩
    obtain ⟨G2, f2, dx⟩ := yl x H2 y
    have g2 := g'.grow f2
    have s2 : Same G1 G2 := s'.trans f2.g0
    obtain ⟨en3, e3, p3⟩ := calm_bind (P := PoS K mg E F G D) id p'
    refine hg.run F σ' en' G2 H2 x d _ g2 dx ?_
    rw [show gm d en' = .ok en3 from e3]
    intro σ3 _ hk g3
    refine hb.run F σ3 en3 G2 H2 _ g3 ?_
    cases qb : b en3 with
    | stk => rw [qb] at p3; exact p3.elim
    | err c fs => rw [qb] at p3; exact p3
    | ok z =>
      obtain ⟨f, en4⟩ := z
      rw [qb] at p3
      cases f with
      | nx => exact fun σ4 G4 H4 g4 s4 => ⟨G4, en4, g4, s2.trans s4, p3⟩
      | ct => exact fun σ4 G4 H4 g4 s4 => ⟨G4, en4, g4, s2.trans s4, p3⟩
      | bk => exact fun σ4 G4 H4 g4 s4 => p3 σ4 G4 H4 g4 ((s1.trans s2).trans s4)
      | rt e => exact fun v σ4 G4 H4 g4 s4 d4 => p3 v σ4 G4 H4 g4 ((s1.trans s2).trans s4) d4
/-- while, at most n turns -/
def whGo (t : Tm) (b : Sm) : Nat → Sm
  | 0, _ => .stk
  | n + 1, en => (t en).bind fun p => if p.1 = true then (b p.2).bind fun q => match q.1 with
      | .nx => whGo t b n q.2
      | .ct => whGo t b n q.2
      | .bk => .ok (.nx, q.2)
      | .rt d => .ok (.rt d, q.2)
    else .ok (.nx, p.2)
def mWhile (n : Nat) (t : Tm) (b : Sm) : Sm := whGo t b n
theorem ss_while {n : Nat} {t : TT} {m : Tm} {tb : TS} {b : Sm} (h : ST K mg (fun _ => E) t m) (hb : SS K mg E tb b) : SS K mg E (tWhile t tb) (mWhile n m b) := by
  refine ⟨fun F σ en G H D g h0 => ?_⟩
  refine ⟨fun k σ' H' => ∃ G' en', Gd K F G' H' σ' en' ∧ Same G G' ∧ PoS K mg E F G D (whGo m b k en'), ⟨n, G, en, g, Same.refl _, h0⟩, ?_⟩
  rintro k σ' H' ⟨G', en', g', s', p'⟩
  cases k with
  | zero => exact p'.elim
  | succ k =>
    refine st_bind h g' poS_err id (P := PoS K mg E F G D) p' fun c en1 G1 H1 p1 g1 s1 => ?_
    cases c with
    | false => exact p1 σ' G1 H1 g1 (s'.trans s1)
    | true =>
      rw [if_pos rfl]
      refine ⟨fun σ2 H2 => ∃ G2 en2, Gd K F G2 H2 σ2 en2 ∧ Same G G2 ∧ PoS K mg E F G D (whGo m b k en2), fun σ2 H2 ⟨G2, en2, g2, s2, p2⟩ => ⟨k, by omega, G2, en2, g2, s2, p2⟩, ?_⟩
      refine hb.run F σ' en1 G1 H1 _ g1 ?_
      have p1' : PoS K mg E F G D ((b en1).bind fun q => match q.1 with
        | .nx => whGo m b k q.2
        | .ct => whGo m b k q.2
        | .bk => .ok (.nx, q.2)
        | .rt d => .ok (.rt d, q.2)) := p1
      cases qb : b en1 with
      | stk => rw [qb] at p1'; exact p1'.elim
      | err c fs => rw [qb] at p1'; exact p1'
      | ok z =>
        obtain ⟨f, en4⟩ := z
        rw [qb] at p1'
        cases f with
        | nx => exact fun σ4 G4 H4 g4 s4 => ⟨G4, en4, g4, (s'.trans s1).trans s4, p1'⟩
        | ct => exact fun σ4 G4 H4 g4 s4 => ⟨G4, en4, g4, (s'.trans s1).trans s4, p1'⟩
        | bk => exact fun σ4 G4 H4 g4 s4 => p1' σ4 G4 H4 g4 ((s'.trans s1).trans s4)
        | rt e => exact fun v σ4 G4 H4 g4 s4 d4 => p1' v σ4 G4 H4 g4 ((s'.trans s1).trans s4) d4

/-! ### calls -/
/-- a def that changes nothing: m of its arguments' data -/
def spP (K : PySem.W.Frag) (mg : Str → Option Value) (m : List D → Rs D) : Sp := fun vs H Q E => ∃ G ds, Same G H ∧ DpAll K G vs ds ∧
  match m ds with
  | .ok d => ∀ v G' H', Gf (F0 G H) G' H' → Dp K G' v d → Q v H'
  | .err c fs => ∀ cls dx H', ErrAt K mg (F0 G H) c fs cls dx H' → E cls dx H'
  | .stk => False
def eCall (m : List D → Rs D) (a : Am) : Em := fun en => (a en).bind fun p => (m p.1).bind fun d => .ok (d, p.2)
theorem se_call {E : L2.St → XK} {m : List D → Rs D} {ta : TA} {a : Am} {E1 : XK} (hE : ∀ σ cls dx H, E σ cls dx H → E1 cls dx H) (h1 : SA K mg E ta a) : SE K mg E (tCall (spP K mg m) [] E1 ta) (eCall m a) := by
  refine ⟨fun F σ en G H Q g h => ?_⟩
  show ta σ H _
  refine sa_bind h1 g poE_err id h fun ds en1 vs G1 H1 p1 g1 s1 d1 => ?_
  refine ⟨G1, ds, g1.gf.gh, by rw [List.append_nil]; exact d1, ?_⟩
  have p1' : PoE K mg (E σ) F σ G Q ((m ds).bind fun d => .ok (d, en1)) := p1
  cases q : m ds with
  | stk => rw [q] at p1'; exact p1'.elim
  | err c fs =>
    rw [q] at p1'
    exact fun cls dx H' e => hE σ _ _ _ (p1' cls dx H' (ErrAt.back (F' := F0 G1 H1) g1.gf rfl rfl (fun _ z => z.elim) e))
  | ok d =>
    rw [q] at p1'
    exact fun v G' H' f hd => p1' v G' H' (g1.grow f) (s1.trans f.g0) hd
end
end Mir
end

section
set_option Elab.async false
set_option linter.all false
set_option maxRecDepth 100000
set_option maxHeartbeats 4000000
/-! Mir4: what is walked; comprehensions; defs. -/
namespace Mir
open PySem PySem.Spec PyProof.Rows L2

/-! ### a list or a tuple, walked -/
def iSeq (K : PySem.W.Frag) (tl : TE) : TI := fun σ H R => tl σ H fun x H1 => ∃ a, x = .ref a ∧ ((∃ xs, SqL K H1 a xs) ∧ R (Itl K a) H1 ∨ (∃ xs, SqT K H1 a xs) ∧ R (Itt K a) H1)
theorem pi_seq {X : Cx} {tg l : Expr} {tl : TE} (hl : PE X l tl) : PI X tg l (iSeq X.K tl) := by
  refine ⟨fun pins s σ H R I h => ?_⟩
  refine thn (hl.run pins s σ H _ I h) fun v s1 ⟨x, H1, I1, r1, q1⟩ => ?_
  obtain ⟨a, e, q⟩ := q1
  subst e
  cases r1
  rcases q with ⟨⟨xs, hq⟩, q⟩ | ⟨⟨xs, hq⟩, q⟩
  · obtain ⟨its, rv, p, hz⟩ := I1.list hq
    refine wpAny_pyIter_list p.isList ?_
    refine ⟨s1.heap.objs.size, [s1.heap.objs.size], _, _, H1, rfl, I1.kept (t' := s1.toks) fun b o e => Heap.get?_push_of_some _ e, turn_list a _, ⟨_, Heap.get?_push_size _ rfl, rfl, rfl⟩, fun b hb => ?_, q⟩
    have e : b = s1.heap.objs.size := by simpa using hb
    subst e
    exact I1.fpOk (Nat.le_refl _) (I1.hok.fresh (Nat.le_refl _))
  · obtain ⟨its, rv, p, hz⟩ := I1.tuple hq
    refine wpAny_pyIter_tuple (show s1.heap.IsTuple a its.toArray from p) ?_
    refine ⟨s1.heap.objs.size, [s1.heap.objs.size], _, _, H1, rfl, I1.kept (t' := s1.toks) fun b o e => Heap.get?_push_of_some _ e, turn_tuple a _, ⟨_, Heap.get?_push_size _ rfl, rfl, rfl⟩, fun b hb => ?_, q⟩
    have e : b = s1.heap.objs.size := by simpa using hb
    subst e
    exact I1.fpOk (Nat.le_refl _) (I1.hok.fresh (Nat.le_refl _))
section
variable {K : PySem.W.Frag} {mg : Str → Option Value} {E : L2.St → XK} {F : Fm} {σ : L2.St} {G G' H H' : Hp} {en : En}
theorem itOk_tup {a : Addr} {xs : List V} {ds : List D} (hs : SqT K G a xs) (hd : DpAll K G xs ds) : ItOk K G (Itt K a) ds := by
  intro i G1 H1 s1 s2
  have hq : SqT K H1 a xs := seqT_mono s2 (seqT_mono s1 hs)
  refine ⟨fun d e => ?_, fun e => ?_⟩
  · obtain ⟨v, ev, dv⟩ := dpa_get hd e
    refine ⟨⟨xs, v, hq, ev⟩, fun x H2 y => ?_⟩
    obtain ⟨rfl, y⟩ := y
    have : x = v := Option.some.inj ((y xs hq).symm.trans ev)
    subst this
    exact ⟨G1, gf0_refl s2, dp_mono s1 _ _ dv⟩
  · exact ⟨xs, hq, by
      have := dpa_len hd
      have := List.getElem?_eq_none_iff.mp e
      omega⟩
theorem itOk_lst {a : Addr} {xs : List V} {ds : List D} (hs : SqL K G a xs) (hd : DpAll K G xs ds) : ItOk K G (Itl K a) ds := by
  intro i G1 H1 s1 s2
  have hq : SqL K H1 a xs := s2.seq (s1.seq hs)
  refine ⟨fun d e => ?_, fun e => ?_⟩
  · obtain ⟨v, ev, dv⟩ := dpa_get hd e
    refine ⟨⟨xs, v, hq, ev⟩, fun x H2 y => ?_⟩
    obtain ⟨rfl, y⟩ := y
    have : x = v := Option.some.inj ((y xs hq).symm.trans ev)
    subst this
    exact ⟨G1, gf0_refl s2, dp_mono s1 _ _ dv⟩
  · exact ⟨xs, hq, by
      have := dpa_len hd
      have := List.getElem?_eq_none_iff.mp e
      omega⟩
/-- the items of a list or a tuple -/
def itemsOf : D → Rs (List D)
  | .list ds => .ok ds
  | .tuple ds => .ok ds
  | _ => .stk
def imSeq (m : Em) : Im := fun en => (m en).bind fun p => (itemsOf p.1).bind fun ds => .ok (ds, p.2)
theorem si_seq {tl : TE} {m : Em} (h1 : SE K mg E tl m) : SI K mg E (iSeq K tl) (imSeq m) := by
  refine ⟨fun F σ en G H R g h => ?_⟩
  show tl σ H _
  refine se_bind h1 g poI_err id h fun d en1 v G1 H1 p1 g1 s1 d1 => ?_
  cases d with
  | list ds =>
    cases d1 with
    | @lst a xs _ hs ha => exact ⟨a, rfl, .inl ⟨⟨xs, g1.gf.gh.seq hs⟩, p1 _ G1 H1 g1 s1 (itOk_lst hs ha)⟩⟩
  | tuple ds =>
    cases d1 with
    | @tup a xs _ hs ha => exact ⟨a, rfl, .inr ⟨⟨xs, seqT_mono g1.gf.gh hs⟩, p1 _ G1 H1 g1 s1 (itOk_tup hs ha)⟩⟩
  | none => exact (show False from p1).elim
  | bool b => exact (show False from p1).elim
  | int i => exact (show False from p1).elim
  | str x => exact (show False from p1).elim
  | dict kvs => exact (show False from p1).elim
/-- the ints lo, lo + 1, .. -/
def intsD (lo : Int) (n : Nat) : List D := (List.range n).map fun i => PyData.int (lo + (i : Nat))
def rng1 : List D → Rs (List D)
  | [.int n] => if n ≤ 100000 ∧ -100000 ≤ n then .ok (intsD 0 n.toNat) else .stk
  | _ => .stk
def rng2 : List D → Rs (List D)
  | [.int a, .int b] => if (a ≤ 100000 ∧ -100000 ≤ a) ∧ b ≤ 100000 ∧ -100000 ≤ b then .ok (intsD a (b - a).toNat) else .stk
  | _ => .stk
def imRng (f : List D → Rs (List D)) (a : Am) : Im := fun en => (a en).bind fun p => (f p.1).bind fun ds => .ok (ds, p.2)
theorem si_rng1 {ta : TA} {a : Am} (h1 : SA K mg E ta a) : SI K mg E (iRng1 ta) (imRng rng1 a) := by
  refine ⟨fun F σ en G H R g h => ?_⟩
  show ta σ H _
  refine sa_bind h1 g poI_err id h fun ds en1 vs G1 H1 p1 g1 s1 d1 => ?_
  have p1' : PoI K mg (E σ) F σ G R ((rng1 ds).bind fun ds => .ok (ds, en1)) := p1
  unfold rng1 at p1'
  split at p1'
  · rename_i n
    split at p1'
    · rename_i hn
      cases d1 with
      | cons a t =>
        cases a
        cases t
        refine ⟨n, rfl, by omega, by omega, p1' _ G1 H1 g1 s1 ?_⟩
        exact itOk_range
    · exact (show False from p1').elim
  · exact (show False from p1').elim
theorem si_rng2 {ta : TA} {a : Am} (h1 : SA K mg E ta a) : SI K mg E (iRng2 ta) (imRng rng2 a) := by
  refine ⟨fun F σ en G H R g h => ?_⟩
  show ta σ H _
  refine sa_bind h1 g poI_err id h fun ds en1 vs G1 H1 p1 g1 s1 d1 => ?_
  have p1' : PoI K mg (E σ) F σ G R ((rng2 ds).bind fun ds => .ok (ds, en1)) := p1
  unfold rng2 at p1'
  split at p1'
  · rename_i a b
    split at p1'
    · rename_i hn
      cases d1 with
      | cons x t =>
        cases x
        cases t with
        | cons y t =>
          cases y
          cases t
          refine ⟨a, b, rfl, ⟨by omega, by omega, by omega, by omega⟩, p1' _ G1 H1 g1 s1 ?_⟩
          exact itOk_range
    · exact (show False from p1').elim
  · exact (show False from p1').elim

/-! ### comprehensions -/
/-- the names vs forgotten (they hold no own thing) -/
def wipeE (en : En) : List Nat → En
  | [] => en
  | v :: vs => (wipeE en vs).set v .un
def noOwn (en : En) (vs : List Nat) : Bool := vs.all fun i => match en[i]? with
  | some (.own _) => false
  | _ => true
/-- behind the block: the names vs are what they were -/
def restE (en en' : En) : List Nat → En
  | [] => en'
  | v :: vs => (restE en en' vs).set v (en.getD v .un)
theorem Gd.wipe {vs : List Nat} (g : Gd K F G H σ en) : Gd K F G H (wipe σ vs) (wipeE en vs) := by
  induction vs with
  | nil => exact g
  | cons v vs ih => exact ih.setUn
theorem wipe_other {σ : L2.St} {k : Nat} : ∀ {vs : List Nat}, k ∉ vs → (wipe σ vs)[k]? = σ[k]?
  | [], _ => rfl
  | v :: vs, h => by
    show ((wipe σ vs).set v none)[k]? = _
    rw [List.getElem?_set_ne (fun z => h (by simp [z])), wipe_other (fun z => h (List.mem_cons_of_mem _ z))]
theorem wipe_at {σ : L2.St} {k : Nat} : ∀ {vs : List Nat}, k ∈ vs → k < σ.length → (wipe σ vs)[k]? = some none
  | v :: vs, h, hk => by
    show ((wipe σ vs).set v none)[k]? = _
    by_cases q : v = k
    · subst q
      rw [List.getElem?_set_self (by rw [wipe_length]; exact hk)]
    · rw [List.getElem?_set_ne q]
      exact wipe_at (by
        rcases List.mem_cons.mp h with z | z
        · exact absurd z.symm q
        · exact z) hk
theorem wipe_eq {σ σ' : L2.St} {vs : List Nat} (hl : σ'.length = σ.length) (h : ∀ k, k ∉ vs → σ'[k]? = (wipe σ vs)[k]?) : wipe σ' vs = wipe σ vs := by
  refine List.ext_getElem? fun k => ?_
  by_cases hk : k ∈ vs
  · by_cases hb : k < σ.length
    · rw [wipe_at hk hb, wipe_at hk (by omega)]
    · rw [List.getElem?_eq_none (by rw [wipe_length]; omega), List.getElem?_eq_none (by rw [wipe_length]; omega)]
  · rw [wipe_other hk, h k hk]
/-- the turns of a comprehension's block -/
def lcGo (vs : List Nat) (gm : Gm) (t : Tm) (m : Em) : List D → Am
  | [], en => .ok ([], en)
  | d :: ds, en => (gm d en).calm.bind fun en1 => (t en1).calm.bind fun p => if p.1 = true then
      (m p.2).calm.bind fun q => (lcGo vs gm t m ds (wipeE q.2 vs)).bind fun r => .ok (q.1 :: r.1, r.2)
    else lcGo vs gm t m ds (wipeE p.2 vs)
def lLc (im : Im) (vs : List Nat) (gm : Gm) (t : Tm) (m : Em) : Am := fun en => (im en).bind fun p => if noOwn p.2 vs = true ∧ p.1.length ≤ big then
    (lcGo vs gm t m p.1 (wipeE p.2 vs)).calm.bind fun r => .ok (r.1, restE p.2 r.2 vs)
  else .stk
theorem bind_is {A B : Type} {x : Rs A} {f : A → Rs B} {b : B} (h : x.bind f = .ok b) : ∃ a, x = .ok a ∧ f a = .ok b := by
  cases x with
  | ok a => exact ⟨a, rfl, h⟩
  | err c fs => cases h
  | stk => cases h
theorem calm_is {A B : Type} {x : Rs A} {f : A → Rs B} {b : B} (h : x.calm.bind f = .ok b) : ∃ a, x = .ok a ∧ f a = .ok b := by
  cases x with
  | ok a => exact ⟨a, rfl, h⟩
  | err c fs => cases h
  | stk => cases h
/-- nobody's object changes -/
theorem Gd.other {p : Addr} {o : HO} (g : Gd K F G H σ en) (hg : G p = none) (h0 : F.H0 p = none) (fr : Free K G H σ en p) : Gd K F G (upd H p o) σ en ∧ Free K G (upd H p o) σ en p := by
  obtain ⟨om, s⟩ := g.sat
  have keep : ∀ {i : Nat} {v : V} {mo : MO} {as : List Addr}, en[i]? = some (SV.own mo) → σ[i]? = some (some v) → Own K G H v mo as → Own K G (upd H p o) v mo as := fun {i v mo as} e1 e2 ow =>
    ow.keep (Same.refl _) (fun a ha => (ow.live a ha).2) fun a ha x hx => by
      have q : a ≠ p := fun z => fr _ _ _ _ e1 e2 ow (by rw [← z]; exact ha)
      rw [upd_ne q]; exact hx
  refine ⟨⟨⟨g.gf.g0, fun a x e => ?_, g.gf.nf, fun a x e hz => ?_, fun a h => ?_⟩, g.len, ⟨om, fun i sv e => ?_⟩, fun c t e => ?_⟩, fun i mo v as e1 e2 ow => ?_⟩
  · have : a ≠ p := fun z => by rw [z, hg] at e; cases e
    rw [upd_ne this]; exact g.gf.gh a x e
  · have : a ≠ p := fun z => by rw [z, h0] at e; cases e
    rw [upd_ne this]; exact g.gf.pres a x e hz
  · by_cases q : a = p
    · subst q; rw [upd_same]; exact fun z => by cases z
    · rw [upd_ne q]; exact g.gf.live a h
  · have q := s i sv e
    cases sv with
    | un => trivial
    | dat d => exact q
    | own mo => obtain ⟨v, as, h1, h2, h3⟩ := q; exact ⟨v, as, h1, keep e h1 h2, h3⟩
  · obtain ⟨h1, h2⟩ := g.pin c t e
    exact ⟨h1, keep e h1 h2⟩
  · obtain ⟨v', as', k1, k2, k3⟩ := s i _ e1
    rw [e2] at k1; cases k1
    obtain rfl := ow.inj (keep e1 e2 k2)
    exact fr _ _ _ _ e1 e2 k2
theorem noOwn_at {en : En} {vs : List Nat} (h : noOwn en vs = true) {i : Nat} {mo : MO} (hi : i ∈ vs) : en[i]? ≠ some (.own mo) := fun e => by
  have := List.all_eq_true.mp h i hi
  rw [e] at this
  cases this
theorem restE_other {en en' : En} {k : Nat} : ∀ {vs : List Nat}, k ∉ vs → (restE en en' vs)[k]? = en'[k]?
  | [], _ => rfl
  | v :: vs, h => by
    show ((restE en en' vs).set v _)[k]? = _
    rw [List.getElem?_set_ne (fun z => h (by simp [z])), restE_other (fun z => h (List.mem_cons_of_mem _ z))]
theorem restE_len {en en' : En} : ∀ {vs : List Nat}, (restE en en' vs).length = en'.length
  | [] => rfl
  | v :: vs => by
    show ((restE en en' vs).set v _).length = _
    rw [List.length_set, restE_len]
theorem restE_at {en en' : En} {k : Nat} {sv : SV} (hl : en.length = en'.length) : ∀ {vs : List Nat}, k ∈ vs → (restE en en' vs)[k]? = some sv → en[k]? = some sv
  | v :: vs, h, e => by
    have e' : ((restE en en' vs).set v (en.getD v .un))[k]? = some sv := e
    by_cases q : v = k
    · subst q
      by_cases hb : v < en.length
      · rw [List.getElem?_set_self (by rw [restE_len]; omega)] at e'
        rw [← e', List.getD_eq_getElem?_getD, List.getElem?_eq_getElem hb]
        rfl
      · rw [List.getElem?_eq_none (by rw [List.length_set, restE_len]; omega)] at e'
        cases e'
    · rw [List.getElem?_set_ne q] at e'
      exact restE_at hl (by
        rcases List.mem_cons.mp h with z | z
        · exact absurd z.symm q
        · exact z) e'
theorem Gd.rest {vs : List Nat} {en' : En} (g : Gd K F G H σ en) (no : noOwn en vs = true) (s1 : Same G G') (g' : Gd K F G' H' (L2.wipe σ vs) en') : Gd K F G' H' σ (restE en en' vs) := by
  have hl : en.length = en'.length := by rw [g.len, g'.len, wipe_length]
  obtain ⟨om, s⟩ := g.sat
  obtain ⟨om', s'⟩ := g'.sat
  refine ⟨g'.gf, by rw [restE_len, g'.len, wipe_length], ⟨om', fun i sv e => ?_⟩, fun c t e => ?_⟩
  · by_cases hi : i ∈ vs
    · have e1 := restE_at hl hi e
      have q := s i sv e1
      cases sv with
      | un => trivial
      | dat d => obtain ⟨v, h1, h2⟩ := q; exact ⟨v, h1, dp_mono s1 _ _ h2⟩
      | own mo => exact absurd e1 (noOwn_at no hi)
    · rw [restE_other hi] at e
      have q := s' i sv e
      rw [wipe_other hi] at q
      exact q
  · by_cases hi : 0 ∈ vs
    · exact absurd (restE_at hl hi e) (noOwn_at no hi)
    · rw [restE_other hi] at e
      obtain ⟨h1, h2⟩ := g'.pin c t e
      rw [wipe_other hi] at h1
      exact ⟨h1, h2⟩
/-- what a slot owns keeps clear of what a frame keeps -/
theorem Gd.free {p : Addr} (g : Gd K F G H σ en) (h0 : F.H0 p ≠ none) (hz : ¬ F.Z p) : Free K G H σ en p := by
  intro i mo v as e1 e2 ow hp
  obtain ⟨om, s⟩ := g.sat
  obtain ⟨v', as', k1, k2, k3⟩ := s i _ e1
  rw [e2] at k1; cases k1
  obtain rfl := ow.inj k2
  rcases (k3 p hp).2 with z | z
  · exact hz z
  · exact h0 z
/-- the loop of a block that fills the list at L -/
theorem lc_loop {J : It} {ds : List D} {vs js : List Nat} {gt : TG} {gm : Gm} {tt : TT} {t : Tm} {te : TE} {m : Em} {L : Addr} {acc0 : List V} {da0 ds0 : List D} {en0 enF : En} {Qd : Hp → Prop}
    (hj : ∀ j ∈ js, j ∈ vs) (hg : SG K js gt gm) (ht : ST K mg (fun _ _ _ _ => False) tt t) (hm : SE K mg (fun _ _ _ _ => False) te m)
    (it : ItOk K G J ds) (g0 : Gd K F G H (wipe σ vs) en0) (hGL : G L = none) (h0L : F.H0 L = none) (hHL : H L = some (.lst acc0)) (hd0 : DpAll K G acc0 da0) (fr0 : Free K G H (wipe σ vs) en0 L) (hz0 : acc0.length + ds.length < sizeLine)
    (eF : lcGo vs gm t m ds en0 = .ok (ds0, enF))
    (fin : ∀ G' H' acc, Gd K F G' H' (wipe σ vs) enF → Same G G' → G' L = none → H' L = some (.lst acc) → DpAll K G' acc (da0 ++ ds0) → Free K G' H' (wipe σ vs) enF L → Qd H') :
    ∃ W : Nat → Nat → Hp → Prop, (∃ k, W 0 k H) ∧ ∀ i k H, W i k H → (J.stop i H ∧ Qd H) ∨ (J.go i H ∧ ∃ Nx : Hp → Prop, (∀ H', Nx H' → ∃ k', k' < k ∧ W (i + 1) k' H') ∧ ∀ x H', J.yld i H x H' → gt x (wipe σ vs) H' fun σ2 H2 => wipe σ2 vs = wipe σ vs ∧ tt σ2 H2 fun b H3 =>
      if b = true then te σ2 H3 fun y H4 => ∃ acc, H4 L = some (.lst acc) ∧ acc.length < sizeLine ∧ Nx (upd H4 L (.lst (acc ++ [y]))) else Nx H3) := by
  refine ⟨fun i k H' => ∃ G' en' acc da ds', k = ds.length - i ∧ i ≤ ds.length ∧ Gd K F G' H' (wipe σ vs) en' ∧ Same G G' ∧ G' L = none ∧ H' L = some (.lst acc) ∧ DpAll K G' acc (da0 ++ da) ∧ da.length ≤ i ∧ Free K G' H' (wipe σ vs) en' L ∧
    lcGo vs gm t m (ds.drop i) en' = .ok (ds', enF) ∧ da ++ ds' = ds0, ⟨ds.length, G, en0, acc0, [], ds0, rfl, Nat.zero_le _, g0, Same.refl _, hGL, hHL, by rw [List.append_nil]; exact hd0, Nat.le_refl _, fr0, eF, rfl⟩, ?_⟩
  rintro i k H' ⟨G', en', acc, da, ds', rfl, hi, g', s', hg', hh', hd', hda, fr', e', ea⟩
  obtain ⟨it1, it2⟩ := it i G' H' s' g'.gf.gh
  cases hd : ds[i]? with
  | none =>
    have hle := List.getElem?_eq_none_iff.mp hd
    rw [List.drop_eq_nil_of_le hle] at e'
    have e2 : ds' = [] ∧ enF = en' := by
      have : (Rs.ok (([] : List D), en')) = .ok (ds', enF) := e'
      injection this with this
      injection this with h1 h2
      exact ⟨h1.symm, h2.symm⟩
    obtain ⟨rfl, rfl⟩ := e2
    rw [List.append_nil] at ea
    subst ea
    exact .inl ⟨it2 hd, fin G' H' acc g' s' hg' hh' hd' fr'⟩
  | some d =>
    obtain ⟨go, yl⟩ := it1 d hd
    have hlt := (List.getElem?_eq_some_iff.mp hd).1
    rw [drop_some hd] at e'
    have e'' : ((gm d en').calm.bind fun en1 => (t en1).calm.bind fun p => if p.1 = true then
        (m p.2).calm.bind fun q => (lcGo vs gm t m (ds.drop (i + 1)) (wipeE q.2 vs)).bind fun r => .ok (q.1 :: r.1, r.2)
      else lcGo vs gm t m (ds.drop (i + 1)) (wipeE p.2 vs)) = .ok (ds', enF) := e'
    obtain ⟨en2, q2, e3⟩ := calm_is e''
    obtain ⟨⟨b, en3⟩, q3, e4⟩ := calm_is e3
    refine .inr ⟨go, fun H2 => ∃ G2 en2 acc2 da2 ds2, Gd K F G2 H2 (wipe σ vs) en2 ∧ Same G G2 ∧ G2 L = none ∧ H2 L = some (.lst acc2) ∧ DpAll K G2 acc2 (da0 ++ da2) ∧ da2.length ≤ i + 1 ∧ Free K G2 H2 (wipe σ vs) en2 L ∧
      lcGo vs gm t m (ds.drop (i + 1)) en2 = .ok (ds2, enF) ∧ da2 ++ ds2 = ds0, fun H2 ⟨G2, en2, acc2, da2, ds2, z1, z2, z3, z5, z6, z7, z8, z9, z10⟩ => ⟨ds.length - (i + 1), by omega, G2, en2, acc2, da2, ds2, rfl, by omega, z1, z2, z3, z5, z6, z7, z8, z9, z10⟩, fun x H2 y => ?_⟩
    obtain ⟨G2, f2, dx⟩ := yl x H2 y
    have gR := g'.rebase
    have hz : ¬ (F.re K G' H' (wipe σ vs) en').Z L := by
      rintro ⟨j, mo, v, as, e1, e2, ow, ha⟩
      exact fr' j mo v as e1 e2 ow ha
    have hL0 : (F.re K G' H' (wipe σ vs) en').H0 L ≠ none := by
      show H' L ≠ none
      rw [hh']; exact fun z => by cases z
    have g2 := gR.grow f2
    refine hg.run _ (wipe σ vs) en' G2 H2 x d _ g2 dx ?_
    rw [show gm d en' = .ok en2 from q2]
    intro σ3 hl3 hk3 g3
    have hw : wipe σ3 vs = wipe σ vs := wipe_eq (by rw [hl3, wipe_length]) fun k hk => hk3 k fun z => hk (hj k z)
    refine ⟨hw, ?_⟩
    refine ht.run _ σ3 en2 G2 H2 _ g3 ?_
    rw [show t en2 = .ok (b, en3) from q3]
    intro G4 H4 g4 s4
    have at4 : H4 L = some (.lst acc) := g4.gf.pres L _ hh' hz
    have gn4 : G4 L = none := g4.gf.nf L hL0 hg' hz
    have sG4 : Same G' G4 := f2.g0.trans s4
    cases b with
    | false =>
      have gw := g'.back (g4.wipe (vs := vs))
      rw [hw] at gw
      have e5 : lcGo vs gm t m (ds.drop (i + 1)) (wipeE en3 vs) = .ok (ds', enF) := e4
      have frw := (g4.wipe (vs := vs)).free hL0 hz
      rw [hw] at frw
      exact ⟨G4, wipeE en3 vs, acc, da, ds', gw, s'.trans sG4, gn4, at4, dpa_mono sG4 _ _ hd', by omega, frw, e5, ea⟩
    | true =>
      rw [if_pos rfl]
      have e5 : ((m en3).calm.bind fun q => (lcGo vs gm t m (ds.drop (i + 1)) (wipeE q.2 vs)).bind fun r => .ok (q.1 :: r.1, r.2)) = .ok (ds', enF) := e4
      obtain ⟨⟨z, en4⟩, q5, e6⟩ := calm_is e5
      obtain ⟨⟨dsr, enr⟩, q6, e7⟩ := bind_is e6
      injection e7 with e7
      injection e7 with e8 e9
      have e9' : enr = enF := e9
      subst e9'
      refine hm.run _ σ3 en3 G4 H4 _ g4 ?_
      rw [show m en3 = .ok (z, en4) from q5]
      intro v G5 H5 g5 s5 dv
      have at5 : H5 L = some (.lst acc) := g5.gf.pres L _ hh' hz
      have gn5 : G5 L = none := g5.gf.nf L hL0 hg' hz
      have sG5 : Same G' G5 := sG4.trans s5
      have gw := g'.back (g5.wipe (vs := vs))
      rw [hw] at gw
      have frw := (g5.wipe (vs := vs)).free hL0 hz
      rw [hw] at frw
      have hal := dpa_len hd'
      have hal0 := dpa_len hd0
      rw [List.length_append] at hal
      obtain ⟨ga, fa⟩ := gw.other (o := .lst (acc ++ [v])) gn5 h0L frw
      refine ⟨acc, at5, by omega, G5, wipeE en4 vs, acc ++ [v], da ++ [z], dsr, ga, s'.trans sG5, gn5, upd_same, ?_, by rw [List.length_append]; exact Nat.succ_le_succ hda, fa, q6, ?_⟩
      · rw [← List.append_assoc]
        exact dpa_app (dpa_mono sG5 _ _ hd') (dpa_one dv)
      · rw [← ea, ← e8, List.append_assoc]
        rfl
theorem sl_lc {wi : TI} {im : Im} {vs js : List Nat} {gt : TG} {gm : Gm} {tt : TT} {t : Tm} {te : TE} {m : Em} (h : SI K mg E wi im) (hj : ∀ j ∈ js, j ∈ vs) (hg : SG K js gt gm) (ht : ST K mg (fun _ _ _ _ => False) tt t) (hm : SE K mg (fun _ _ _ _ => False) te m) :
    SL K mg E (tLc wi gt tt te vs) (lLc im vs gm t m) := by
  refine ⟨fun F σ en G H Q g h0 => ?_⟩
  show wi σ H _
  refine si_bind h g poL_err id h0 fun ds en1 J G1 H1 p1 g1 s1 it => ?_
  have p1' : PoL K mg (E σ) F σ G Q (if noOwn en1 vs = true ∧ ds.length ≤ big then (lcGo vs gm t m ds (wipeE en1 vs)).calm.bind fun r => .ok (r.1, restE en1 r.2 vs) else .stk) := p1
  split at p1'
  case isFalse => exact p1'.elim
  rename_i hno
  obtain ⟨no, hlen⟩ := hno
  obtain ⟨⟨all, enF⟩, eF, pF⟩ := calm_bind (P := PoL K mg (E σ) F σ G Q) id p1'
  intro L hL
  have hGL : G1 L = none := Same.free g1.gf.gh hL
  have f := gf0_new (o := .lst []) g1.gf.gh hL
  have gw := (g1.grow f).wipe (vs := vs)
  refine lc_loop (Qd := fun H => Q (.ref L) H) (acc0 := []) (da0 := []) hj hg ht hm it gw hGL (h0_new g1 hL) upd_same .nil (free_new (g1.wipe (vs := vs)) hL f) (by
    show 0 + ds.length < sizeLine
    rw [Nat.zero_add]; exact Nat.lt_of_le_of_lt hlen (by decide)) eF fun G' H' acc g' s' hg' hh' hd' fr' => ?_
  refine pF L acc G' H' (g1.rest no s' g') (s1.trans s') hg' hh' hd' (h0_new g1 hL) fun j mo v as e1 e2 ow => ?_
  by_cases hj' : j ∈ vs
  · have hl : en1.length = enF.length := by rw [g1.len, g'.len, wipe_length]
    exact absurd (restE_at hl hj' e1) (noOwn_at no hj')
  · rw [restE_other hj'] at e1
    exact fr' j mo v as e1 (by rw [wipe_other hj']; exact e2) ow
/-- two clauses -/
def lc2Go (vs vs1 : List Nat) (gm : Gm) (t : Tm) (im1 : Im) (gm1 : Gm) (t1 : Tm) (m : Em) : List D → Am
  | [], en => .ok ([], en)
  | d :: ds, en => (gm d en).calm.bind fun en1 => (t en1).calm.bind fun p => if p.1 = true then
      (im1 p.2).calm.bind fun q => if noOwn q.2 vs1 = true ∧ q.1.length ≤ 10000 then (lcGo vs1 gm1 t1 m q.1 (wipeE q.2 vs1)).calm.bind fun r => (lc2Go vs vs1 gm t im1 gm1 t1 m ds (wipeE r.2 vs)).bind fun z => .ok (r.1 ++ z.1, z.2) else .stk
    else lc2Go vs vs1 gm t im1 gm1 t1 m ds (wipeE p.2 vs)
def lLc2 (im : Im) (vs vs1 : List Nat) (gm : Gm) (t : Tm) (im1 : Im) (gm1 : Gm) (t1 : Tm) (m : Em) : Am := fun en => (im en).bind fun p => if noOwn p.2 vs = true ∧ p.1.length ≤ 1000 then
    (lc2Go vs vs1 gm t im1 gm1 t1 m p.1 (wipeE p.2 vs)).calm.bind fun r => .ok (r.1, restE p.2 r.2 vs)
  else .stk
theorem lcGo_len {vs : List Nat} {gm : Gm} {t : Tm} {m : Em} : ∀ {ds : List D} {en : En} {ds' : List D} {en' : En}, lcGo vs gm t m ds en = .ok (ds', en') → ds'.length ≤ ds.length
  | [], en, ds', en', h => by
    have : (Rs.ok (([] : List D), en)) = .ok (ds', en') := h
    injection this with this
    injection this with h1 h2
    rw [← h1]; exact Nat.le_refl _
  | d :: ds, en, ds', en', h => by
    have h' : ((gm d en).calm.bind fun en1 => (t en1).calm.bind fun p => if p.1 = true then
      (m p.2).calm.bind fun q => (lcGo vs gm t m ds (wipeE q.2 vs)).bind fun r => .ok (q.1 :: r.1, r.2)
      else lcGo vs gm t m ds (wipeE p.2 vs)) = .ok (ds', en') := h
    obtain ⟨en1, q1, h'⟩ := calm_is h'
    obtain ⟨p, q2, h'⟩ := calm_is h'
    split at h'
    · obtain ⟨q, q3, h'⟩ := calm_is h'
      obtain ⟨r, q4, h'⟩ := bind_is h'
      injection h' with h'
      injection h' with h1 h2
      rw [← h1, List.length_cons, List.length_cons]
      exact Nat.succ_le_succ (lcGo_len q4)
    · exact Nat.le_succ_of_le (lcGo_len h')
theorem wipe_wipe {σ : L2.St} {vs vs1 : List Nat} (h : ∀ j ∈ vs1, j ∈ vs) : wipe (wipe σ vs1) vs = wipe σ vs :=
  wipe_eq (wipe_length _ _) fun k hk => by rw [wipe_other (fun z => hk (h k z)), wipe_other hk]
theorem wipeE_own {en : En} {i : Nat} {mo : MO} : ∀ {vs : List Nat}, (wipeE en vs)[i]? = some (.own mo) → i ∉ vs ∧ en[i]? = some (.own mo)
  | [], h => ⟨by simp, h⟩
  | v :: vs, h => by
    have h' : ((wipeE en vs).set v .un)[i]? = some (.own mo) := h
    by_cases q : v = i
    · subst q
      by_cases hb : v < (wipeE en vs).length
      · rw [List.getElem?_set_self hb] at h'; cases h'
      · rw [List.getElem?_eq_none (by rw [List.length_set]; omega)] at h'; cases h'
    · rw [List.getElem?_set_ne q] at h'
      obtain ⟨h1, h2⟩ := wipeE_own h'
      exact ⟨by simp only [List.mem_cons, not_or]; exact ⟨fun e => q e.symm, h1⟩, h2⟩
theorem free_wipe {p : Addr} {vs : List Nat} (f : Free K G H σ en p) : Free K G H (wipe σ vs) (wipeE en vs) p := by
  intro i mo v as e1 e2 ow
  obtain ⟨h1, h2⟩ := wipeE_own e1
  rw [wipe_other h1] at e2
  exact f i mo v as h2 e2 ow
theorem sl_lc2 {wi wi1 : TI} {im im1 : Im} {vs vs1 js js1 : List Nat} {gt gt1 : TG} {gm gm1 : Gm} {tt tt1 : TT} {t t1 : Tm} {te : TE} {m : Em} (h : SI K mg E wi im) (hj : ∀ j ∈ js, j ∈ vs) (hg : SG K js gt gm) (ht : ST K mg (fun _ _ _ _ => False) tt t)
    (h1 : SI K mg (fun _ _ _ _ => False) wi1 im1) (hv : ∀ j ∈ vs1, j ∈ vs) (hj1 : ∀ j ∈ js1, j ∈ vs1) (hg1 : SG K js1 gt1 gm1) (ht1 : ST K mg (fun _ _ _ _ => False) tt1 t1) (hm : SE K mg (fun _ _ _ _ => False) te m) :
    SL K mg E (tLc2 wi gt tt wi1 gt1 tt1 te vs vs1) (lLc2 im vs vs1 gm t im1 gm1 t1 m) := by
  refine ⟨fun F σ en G H Q g h0 => ?_⟩
  show wi σ H _
  refine si_bind h g poL_err id h0 fun ds en1 J G1 H1 p1 g1 s1 it => ?_
  have p1' : PoL K mg (E σ) F σ G Q (if noOwn en1 vs = true ∧ ds.length ≤ 1000 then (lc2Go vs vs1 gm t im1 gm1 t1 m ds (wipeE en1 vs)).calm.bind fun r => .ok (r.1, restE en1 r.2 vs) else .stk) := p1
  split at p1'
  case isFalse => exact p1'.elim
  rename_i hno
  obtain ⟨no, hlen⟩ := hno
  obtain ⟨⟨all, enF⟩, eF, pF⟩ := calm_bind (P := PoL K mg (E σ) F σ G Q) id p1'
  intro L hL
  have hGL : G1 L = none := Same.free g1.gf.gh hL
  have h0L := h0_new g1 hL
  refine ⟨fun i k H' => ∃ G' en' acc da ds', k = ds.length - i ∧ i ≤ ds.length ∧ Gd K F G' H' (wipe σ vs) en' ∧ Same G1 G' ∧ G' L = none ∧ H' L = some (.lst acc) ∧ DpAll K G' acc da ∧ da.length ≤ i * 10000 ∧ Free K G' H' (wipe σ vs) en' L ∧
    lc2Go vs vs1 gm t im1 gm1 t1 m (ds.drop i) en' = .ok (ds', enF) ∧ da ++ ds' = all, ⟨ds.length, ?_⟩, ?_⟩
  · have f := gf0_new (o := .lst []) g1.gf.gh hL
    have gw := (g1.grow f).wipe (vs := vs)
    exact ⟨G1, wipeE en1 vs, [], [], all, rfl, Nat.zero_le _, gw, Same.refl _, hGL, upd_same, .nil, Nat.zero_le _, free_new (g1.wipe (vs := vs)) hL f, eF, rfl⟩
  rintro i k H' ⟨G', en', acc, da, ds', rfl, hi, g', s', hg', hh', hd', hda, fr', e', ea⟩
  obtain ⟨it1, it2⟩ := it i G' H' s' g'.gf.gh
  cases hd : ds[i]? with
  | none =>
    have hle := List.getElem?_eq_none_iff.mp hd
    rw [List.drop_eq_nil_of_le hle] at e'
    have e2 : ds' = [] ∧ enF = en' := by
      have : (Rs.ok (([] : List D), en')) = .ok (ds', enF) := e'
      injection this with this
      injection this with h1 h2
      exact ⟨h1.symm, h2.symm⟩
    obtain ⟨rfl, rfl⟩ := e2
    rw [List.append_nil] at ea
    subst ea
    refine .inl ⟨it2 hd, pF L acc G' H' (g1.rest no s' g') (s1.trans s') hg' hh' hd' h0L fun j mo v as e1 e2 ow => ?_⟩
    by_cases hj' : j ∈ vs
    · have hl : en1.length = enF.length := by rw [g1.len, g'.len, wipe_length]
      exact absurd (restE_at hl hj' e1) (noOwn_at no hj')
    · rw [restE_other hj'] at e1
      exact fr' j mo v as e1 (by rw [wipe_other hj']; exact e2) ow
  | some d =>
    obtain ⟨go, yl⟩ := it1 d hd
    have hlt := (List.getElem?_eq_some_iff.mp hd).1
    rw [drop_some hd] at e'
    have e'' : ((gm d en').calm.bind fun en1 => (t en1).calm.bind fun p => if p.1 = true then
        (im1 p.2).calm.bind fun q => if noOwn q.2 vs1 = true ∧ q.1.length ≤ 10000 then (lcGo vs1 gm1 t1 m q.1 (wipeE q.2 vs1)).calm.bind fun r => (lc2Go vs vs1 gm t im1 gm1 t1 m (ds.drop (i + 1)) (wipeE r.2 vs)).bind fun z => .ok (r.1 ++ z.1, z.2) else .stk
      else lc2Go vs vs1 gm t im1 gm1 t1 m (ds.drop (i + 1)) (wipeE p.2 vs)) = .ok (ds', enF) := e'
    obtain ⟨en2, q2, e3⟩ := calm_is e''
    obtain ⟨⟨b, en3⟩, q3, e4⟩ := calm_is e3
    refine .inr ⟨go, fun H2 => ∃ G2 en2 acc2 da2 ds2, Gd K F G2 H2 (wipe σ vs) en2 ∧ Same G1 G2 ∧ G2 L = none ∧ H2 L = some (.lst acc2) ∧ DpAll K G2 acc2 da2 ∧ da2.length ≤ (i + 1) * 10000 ∧ Free K G2 H2 (wipe σ vs) en2 L ∧
      lc2Go vs vs1 gm t im1 gm1 t1 m (ds.drop (i + 1)) en2 = .ok (ds2, enF) ∧ da2 ++ ds2 = all, fun H2 ⟨G2, en2, acc2, da2, ds2, z1, z2, z3, z5, z6, z7, z8, z9, z10⟩ => ⟨ds.length - (i + 1), by omega, G2, en2, acc2, da2, ds2, rfl, by omega, z1, z2, z3, z5, z6, z7, z8, z9, z10⟩, fun x H2 y => ?_⟩
    obtain ⟨G2, f2, dx⟩ := yl x H2 y
    have gR := g'.rebase
    have hz : ¬ (F.re K G' H' (wipe σ vs) en').Z L := by
      rintro ⟨j, mo, v, as, e1, e2, ow, ha⟩
      exact fr' j mo v as e1 e2 ow ha
    have hL0 : (F.re K G' H' (wipe σ vs) en').H0 L ≠ none := by
      show H' L ≠ none
      rw [hh']; exact fun z => by cases z
    have g2 := gR.grow f2
    refine hg.run _ (wipe σ vs) en' G2 H2 x d _ g2 dx ?_
    rw [show gm d en' = .ok en2 from q2]
    intro σ3 hl3 hk3 g3
    have hw : wipe σ3 vs = wipe σ vs := wipe_eq (by rw [hl3, wipe_length]) fun k hk => hk3 k fun z => hk (hj k z)
    refine ⟨hw, ?_⟩
    refine ht.run _ σ3 en2 G2 H2 _ g3 ?_
    rw [show t en2 = .ok (b, en3) from q3]
    intro G4 H4 g4 s4
    have at4 : H4 L = some (.lst acc) := g4.gf.pres L _ hh' hz
    have gn4 : G4 L = none := g4.gf.nf L hL0 hg' hz
    have sG4 : Same G' G4 := f2.g0.trans s4
    cases b with
    | false =>
      have gw := g'.back (g4.wipe (vs := vs))
      rw [hw] at gw
      have e5 : lc2Go vs vs1 gm t im1 gm1 t1 m (ds.drop (i + 1)) (wipeE en3 vs) = .ok (ds', enF) := e4
      have frw := (g4.wipe (vs := vs)).free hL0 hz
      rw [hw] at frw
      exact ⟨G4, wipeE en3 vs, acc, da, ds', gw, s'.trans sG4, gn4, at4, dpa_mono sG4 _ _ hd', by omega, frw, e5, ea⟩
    | true =>
      rw [if_pos rfl]
      have e5 : ((im1 en3).calm.bind fun q => if noOwn q.2 vs1 = true ∧ q.1.length ≤ 10000 then (lcGo vs1 gm1 t1 m q.1 (wipeE q.2 vs1)).calm.bind fun r => (lc2Go vs vs1 gm t im1 gm1 t1 m (ds.drop (i + 1)) (wipeE r.2 vs)).bind fun z => .ok (r.1 ++ z.1, z.2) else .stk) = .ok (ds', enF) := e4
      obtain ⟨⟨ds1, en4⟩, q5, e6⟩ := calm_is e5
      split at e6
      case isFalse => cases e6
      rename_i hno1
      obtain ⟨no1, hlen1⟩ := hno1
      obtain ⟨⟨dr, enI⟩, q6, e7⟩ := calm_is e6
      obtain ⟨⟨dz, enz⟩, q7, e8⟩ := bind_is e7
      injection e8 with e8
      injection e8 with e9 e10
      have e10' : enz = enF := e10
      subst e10'
      refine h1.run _ σ3 en3 G4 H4 _ g4 ?_
      rw [show im1 en3 = .ok (ds1, en4) from q5]
      intro J1 G5 H5 g5 s5 it5
      have at5 : H5 L = some (.lst acc) := g5.gf.pres L _ hh' hz
      have gn5 : G5 L = none := g5.gf.nf L hL0 hg' hz
      have sG5 : Same G' G5 := sG4.trans s5
      have fr5 := (g5.wipe (vs := vs1)).free hL0 hz
      have gb5 := g'.back (g5.wipe (vs := vs1))
      have hal := dpa_len hd'
      refine lc_loop (σ := σ3) hj1 hg1 ht1 hm it5 gb5 gn5 h0L at5 (dpa_mono sG5 _ _ hd') fr5 (by
        rw [hal]
        have hb : ds1.length ≤ 10000 := hlen1
        have : i * 10000 ≤ 1000 * 10000 := Nat.mul_le_mul_right _ (by omega)
        rw [sizeLine_eq]
        omega) q6 fun G6 H6 acc6 g6 s6 hg6 hh6 hd6 fr6 => ?_
      have gw := g6.wipe (vs := vs)
      rw [wipe_wipe hv, hw] at gw
      have frw := free_wipe (vs := vs) fr6
      rw [wipe_wipe hv, hw] at frw
      refine ⟨G6, wipeE enI vs, acc6, da ++ dr, dz, gw, (s'.trans sG5).trans s6, hg6, hh6, hd6, ?_, frw, q7, ?_⟩
      · rw [List.length_append]
        have := lcGo_len q6
        have hb : ds1.length ≤ 10000 := hlen1
        have : (i + 1) * 10000 = i * 10000 + 10000 := by rw [Nat.add_mul]
        omega
      · rw [← ea, ← e9, List.append_assoc]
end
end Mir
end

section
set_option Elab.async false
set_option linter.all false
set_option maxRecDepth 100000
set_option maxHeartbeats 4000000
/-! MirG: the promise of a def that is called while no repr of a container runs (repr of data asks for that). -/
namespace Mir
open PySem PySem.Spec PyProof.Rows L2

/-- as FnOk, where no guard stands around the call -/
structure FnG (P : Program) (w : World) (K : PySem.W.Frag) (mg : Str → Option Value) (base : Heap) (C : CXT) (k : Nat) (f : Addr) (fd : FuncData) (ps : List Str) (sp : Sp) : Prop where
  size : ∀ vs H Q E, sp vs H Q E → vs.length = ps.length
  go : ∀ (A : Around) (outer : List Env) (s : Shared) (H : Hp) (args : Args) (us : List Value) (vs : List V) (Q : VK) (E : XK), A.guards = some [] → Room k A → Env0 P w K mg base A outer s H →
    BindsTo s fd args (ps.zip us) → Vals vs us → sp vs H Q E → codeAny (model P w) A (.call (.ref f) args) (CR C outer P w H s Q E) s
theorem FnG.lift {P : Program} {w : World} {K : PySem.W.Frag} {mg : Str → Option Value} {base : Heap} {C : CXT} {j k : Nat} {f : Addr} {fd : FuncData} {ps : List Str} {sp : Sp} (F : FnG P w K mg base C j f fd ps sp) (h : j ≤ k) : FnG P w K mg base C k f fd ps sp :=
  ⟨F.size, fun A outer s H args us vs Q E hg hr => F.go A outer s H args us vs Q E hg (hr.mono h)⟩
theorem FnG.ofOk {P : Program} {w : World} {K : PySem.W.Frag} {mg : Str → Option Value} {base : Heap} {C : CXT} {k : Nat} {f : Addr} {fd : FuncData} {ps : List Str} {sp : Sp} (F : FnOk P w K mg base C k f fd ps sp) : FnG P w K mg base C k f fd ps sp :=
  ⟨F.len, fun A outer s H args us vs Q E _ hr => F.run A outer s H args us vs Q E hr⟩

section
variable {P : Program} {w : World} {K : PySem.W.Frag} {mg : Str → Option Value} {base : Heap} {x qual : Str} {params : Arguments} {body : List Stmt} {scope : Scope} {dvs : List V} {kws : List (Str × V)} {f : Addr} {fd : FuncData}
/-- a def's body keeps its promise where no guard stands -/
theorem fnG_of {C : CXT} {N ps : List Str} {k : Nat} {sp : Sp} (F : FunD K x qual params body scope dvs kws f fd) (S : FnScope N ps scope) (len : ∀ vs H Q E, sp vs H Q E → vs.length = ps.length)
    (hbody : ∀ (cdv : Value) (A : Around) (outer : List Env) (s : Shared) (H : Hp) (vs : List V) (Q : VK) (E : XK), (A.deeper (envOfC qual scope s.heap.objs.size f cdv)).guards = some [] → Room k (A.deeper (envOfC qual scope s.heap.objs.size f cdv)) → sp vs H Q E →
      ∃ t, PSs (cxOf C P w K mg base N qual scope f cdv A outer s H E) body t ∧ t { nx := fun _ H' => Q .non H', rt := Q } (L2.start N vs) H) : FnG P w K mg base C (k + 1) f fd ps sp := by
  obtain ⟨oc, od, dV, kV, doc, pm, an, cdv, ct, osl, rfl, lk, hcd, _, _⟩ := F.ex
  constructor
  · exact len
  intro A outer s H args us vs Q E hg hr e0 hb r hsp
  have stay : ∀ b o, base.get? b = some o → s.heap.get? b = some o := fun b o e => (e0.bs b o e).1
  have par : ∀ y ∈ ps.zip us, scope.names.lookup y.1 = some .local ∨ (scope.names.lookup y.1 = some .cell ∧ ((cellsFrom (s.heap.objs.size + 1) scope.names []).lookup y.1).isSome = true) := by
    intro y hy
    have hy' : (y.1, y.2) ∈ ps.zip us := hy
    rcases S.par y.1 (List.of_mem_zip hy').1 with q | q
    · exact Or.inl q
    · exact Or.inr ⟨q, PySem.W.cellsFrom_some _ _ _ (Or.inl q)⟩
  have KX : K.In s.heap := e0.mod.kin.keeps stay
  refine codeAny_call_function hr.depth (KX f _ lk) rfl S.co S.gen rfl (PySem.W.codeRec_of KX hcd) (hb _ _ _ _ ?_)
  refine wpAny_newFunctionEnv_cells S.kind par ?_
  rintro env rfl s1 z
  refine ⟨(e0.mod.nolimit.keeps stay).keeps z.toInCall.keep, codeAny_func ?_⟩
  obtain ⟨t, ht, hq⟩ := hbody cdv A outer s H vs Q E hg (hr.deeper _) hsp
  have J0 := inv_start (CX := C) (E := E) S hr.hd e0 (len _ _ _ _ hsp) r z
  refine wpAny_mono (ht.run [] s1 _ H _ J0 hq) ?_ ?_
  · intro fl s' hs
    cases fl with
    | next =>
      obtain ⟨σ', H', J, q⟩ := hs
      exact ⟨.non, H', J.os, J.bare, J.base, J.hok, rfl, q⟩
    | ret u =>
      obtain ⟨v, σ', H', J, rv, q⟩ := hs
      exact ⟨v, H', J.os, J.bare, J.base, J.hok, rv, q⟩
    | brk =>
      obtain ⟨_, _, _, q⟩ := hs
      exact q.elim
    | cont =>
      obtain ⟨_, _, _, q⟩ := hs
      exact q.elim
  · intro e s' hs
    exact hs
end

/-! ### the call of such a def -/
section
variable {X : Cx} {C : CXT} {k : Nat} {f : Addr} {fd : FuncData} {ps : List Str} {sp : Sp} {E : L2.St → XK} {x : Str} {p pos : Pos} {e : Expr} {es : List Expr} {t : TA}
theorem go_fn {pins : List (Addr × Obj)} {σ : L2.St} {H : Hp} {s : Shared} {Q : VK} {us : List Value} {vs : List V} (F : FnG X.prog X.w X.K X.mg X.base C k f fd ps sp) (hgd : X.A.guards = some []) (hr : Room k X.A) (hb : Binds X.K fd ps []) (hx : PassesAt C X σ (E σ))
    (I : Inv X pins σ H s) (r : Vals vs us) (h : sp vs H Q (E σ)) : wpAny (model X.prog X.w) X.A (call (.ref f) us) (EP X pins σ Q) X.xe s := by
  have hl : (us ++ []).length = ps.length := by
    rw [List.append_nil, ← r.length]
    exact F.size _ _ _ _ h
  have b := hb s us I.kIn hl
  rw [List.append_nil] at b
  refine wpAny_call (codeAny_mono (F.go X.A X.stack s H ⟨us, []⟩ us vs Q (E σ) hgd hr I.env0 b r h) ?_)
  intro rs s' hq
  cases rs with
  | error ev => exact hx pins H s ev s' I hq
  | ok fl =>
    cases fl with
    | ret u => exact I.after hq
    | next => exact (show False from hq).elim
    | brk => exact (show False from hq).elim
    | cont => exact (show False from hq).elim
/-- f(e, ..) -/
def tCallG (sp : Sp) (E : L2.St → XK) (t : TA) : TE := fun σ H Q => t σ H fun vs H1 => sp vs H1 Q (E σ)
theorem pe_callG (F : FnG X.prog X.w X.K X.mg X.base C k f fd ps sp) (hgd : X.A.guards = some []) (hr : Room k X.A) (hg : Gl X x) (hm : X.mg x = some (.ref f)) (hk : PySem.W.keepIn X.K (.ref f) = true) (hb : Binds X.K fd ps []) (hx : ∀ σ, PassesAt C X σ (E σ))
    (ha : PA X (e :: es) t) (hdb : (x == ("__debug__" : Str)) = false := by decide) (he : starEach (e :: es) X.env = (false, eval e X.env) :: starEach es X.env := by rfl) (hpl : (backTo pos (starEach es X.env)).any (·.1) = false := by rfl) :
    PE X (.Call (.Name x p) (e :: es) [] pos) (tCallG sp E t) := by
  constructor
  intro pins s σ H Q I h
  refine wpAny_Call_Name_kw (ld_glob I hg hm ?_ hdb)
  refine PySem.W.callWith_K (h₀ := X.base) I.ok.mod.kin hk (thn (ha.run pos pins s σ H _ I h) ?_) he hpl
  rintro us s1 ⟨vs, H1, I1, r, q⟩
  exact ⟨I1.kIn, go_fn F hgd hr hb (hx σ) I1 r q⟩
/-- .. with keywords: ks their names -/
structure KBindsG (K : PySem.W.Frag) (fd : FuncData) (ps ks : List Str) (g : List Value → List Value → List Value) (gV : List V → List V → List V) : Prop where
  to : ∀ (s : Shared) (us ws : List Value), us.length + ws.length = ps.length → ws.length = ks.length → BindsTo s fd ⟨us, ks.zip ws⟩ (ps.zip (g us ws))
  rel : ∀ {vs : List V} {us : List Value} {zs : List V} {ws : List Value}, Vals vs us → Vals zs ws → Vals (gV vs zs) (g us ws)
end

/-! ### the law's own call -/
/-- from the heap behind the top: the law's def, called with the script, hands back True -/
theorem law_callG {P : Program} {w : World} {K : PySem.W.Frag} {mg mb : Str → Option Value} {C : CXT} {k : Nat} {fa a : Addr} {fd : FuncData} {x : Str} {sp : Sp} {s1 : Shared} {vs : List Value} {ns : List Int}
    (KX : K.In s1.heap) (hns : s1.heap.Ns mainGlobals mg) (hb : s1.heap.Ns builtinsNs mb) (hbb : ∀ x : Str, x ≠ "__name__" → mb x = bootBuiltins x) (hlim : s1.heap.NoLimit) (hg : s1.gens = #[])
    (ha : s1.heap.get? a = some { cls := .type "list", data := .seq vs.toArray }) (hi : IntsAre vs ns) (hl : ns.length ≤ sizeLine) (hr : Room k callerA)
    (F : ∀ base : Heap, K.In base → base.Ns mainGlobals mg → FnG P w K mg base C k fa fd [x] sp) (hbind : ∀ (s : Shared) (u : Value), BindsTo s fd ⟨[u], []⟩ [(x, u)])
    (hsp : ∀ H : Hp, SqL K H a (ns.map V.int) → sp [.ref a] H (fun v _ => v = .bl true) fun _ _ _ => False)
    (hC : ∀ H e s', C [] H s1 (fun _ _ _ => False) e s' → False) :
    codeAny (model P w) callerA (.call (.ref fa) ⟨[.ref a], []⟩) (fun r s' => r = .ok (.ret (.bool true)) ∧ OldK s1.heap s'.heap ∧ s'.os = s1.os ∧ AllBare s'.gens) s1 := by
  have rv := vals_ints hi
  have hsz : vs.toArray.size ≤ sizeLine := by
    rw [List.size_toArray, hi.length]
    exact hl
  -- one of two abstract heaps: the script is the module's own object, or it is tracked, locked
  obtain ⟨H, hS, hA, hK, hok⟩ : ∃ H : Hp, SqL K H a (ns.map V.int) ∧ (∀ b u, H b = some u → b = a ∧ u = .frz { cls := .type "list", data := .seq vs.toArray } (.lst (ns.map V.int))) ∧ (H a ≠ none → K.lookup a = none) ∧ HOk P w H s1.heap := by
    cases hk : K.lookup a with
    | some o =>
      have e := (KX a o hk).symm.trans ha
      have e' : o = { cls := .type "list", data := .seq vs.toArray } := Option.some.inj e
      subst e'
      exact ⟨fun _ => none, Or.inr ⟨_, vs.toArray, _, hk, rfl, rfl, rfl, hsz, by simpa using rv⟩, (fun b u z => by have z' : (none : Option HO) = some u := z; cases z'), (fun z => absurd rfl z), (fun b u z => by have z' : (none : Option HO) = some u := z; cases z')⟩
    | none =>
      have only : ∀ b u, upd (fun _ => none) a (.frz { cls := .type "list", data := .seq vs.toArray } (.lst (ns.map V.int))) b = some u → b = a ∧ u = .frz { cls := .type "list", data := .seq vs.toArray } (.lst (ns.map V.int)) := fun b u z => by
        by_cases q : b = a
        · subst q
          rw [upd_same] at z
          exact ⟨rfl, (Option.some.inj z).symm⟩
        · rw [upd_ne q] at z
          cases z
      refine ⟨upd (fun _ => none) a (.frz { cls := .type "list", data := .seq vs.toArray } (.lst (ns.map V.int))), Or.inl (Or.inr ⟨_, upd_same⟩), only, fun _ => rfl, fun b u z => ?_⟩
      obtain ⟨rfl, rfl⟩ := only b u z
      exact ⟨ha, by rw [List.length_map]; exact hl, vs, _, rv, ha⟩
  have free : ∀ b o, s1.heap.get? b = some o → b ≠ a → H b = none := fun b o _ hb => by
    cases q : H b with
    | none => rfl
    | some u => exact absurd (hA b u q).1 hb
  have down : ∀ b o, s1.heap.get? b = some o → b ≠ a → (hidT s1.heap H).get? b = some o := fun b o e hb => hidT_get e (free b o e hb)
  have nsD : ∀ {b : Addr} {m : Str → Option Value}, s1.heap.Ns b m → (hidT s1.heap H).Ns b m := by
    rintro b m ⟨o, es, ep, e, d, r⟩
    refine ⟨o, es, ep, down b o e ?_, d, r⟩
    rintro rfl
    rw [ha] at e
    cases e
    exact nomatch (show Data.seq vs.toArray _ = Data.dict es ep from d)
  have kD : K.In (hidT s1.heap H) := fun b o e => by
    by_cases hb : b = a
    · subst hb
      refine hidT_get (KX b o e) ?_
      cases q : H b with
      | none => rfl
      | some u =>
        have z := hK (by rw [q]; exact fun z => nomatch z)
        rw [z] at e
        cases e
    · exact down b o (KX b o e) hb
  obtain ⟨mc, l1, l2⟩ := hlim
  have e0 : Env0 P w K mg (hidT s1.heap H) callerA [] s1 H := {
    frames := rfl
    mod := ⟨kD, nsD hns, ⟨mb, nsD hb, hbb⟩, ⟨mc, nsD l1, l2⟩⟩
    bs := fun b o e => of_hidT e
    bsz := Nat.le_of_eq (hidT_size _ _)
    funs := trivial
    frf := fun b hb => absurd (show b ∈ ([] : List Addr) from hb) (by simp)
    hok := hok
    bare := .of_eq hg }
  refine codeAny_mono ((F _ kD (nsD hns)).go callerA [] s1 H ⟨[.ref a], []⟩ [.ref a] [.ref a] _ _ rfl hr e0 (hbind s1 (.ref a)) (.cons rfl .nil) (hsp H hS)) ?_
  intro rs s' hq
  cases rs with
  | error ev => exact (hC H ev s' hq).elim
  | ok fl =>
    cases fl with
    | next => exact (show False from hq).elim
    | brk => exact (show False from hq).elim
    | cont => exact (show False from hq).elim
    | ret u =>
      obtain ⟨v, H', os, bare, un, hok', rr, q⟩ := hq
      have q' : v = .bl true := q
      subst q'
      have ru : u = Value.bool true := rr
      subst ru
      refine ⟨rfl, OldK.of_keep ?_, os, bare⟩
      intro b o e
      cases qb : H b with
      | none => exact un.keep b o e qb (fun z => absurd (show b ∈ ([] : List Addr) from z) (by simp)) (by simp)
      | some hu =>
        obtain ⟨rfl, rfl⟩ := hA b hu qb
        have z2 := hok' b _ (un.frzs b _ _ qb)
        rw [ha] at e
        cases e
        exact z2.1
theorem walk_ofG {l : PySem.W.OpenLaw} {n k : Nat} {q : Program} {loose : List Str} {XP : (Str → Option Value) → Heap → Prop} {YP : World → Heap → Prop} {d : DefRec} {x : Str}
    (hn : l.most = some n) (hn2 : n ≤ sizeLine) (hdf : d.params.defaults = []) (hr : Room k callerA)
    (F : ∀ (w : World) (mg : Str → Option Value) (fa : Addr) (h : Heap), YP w h → h.Ns mainGlobals mg → mg d.name = some (.ref fa) →
      ∃ (K : PySem.W.Frag) (fd : FuncData) (sp : Sp), K.In h ∧ (∀ (s : Shared) (u : Value), BindsTo s fd ⟨[u], []⟩ [(x, u)]) ∧
        (∀ (H : Hp) (a : Addr) (ns : List Int), ns.length ≤ n → (∀ z ∈ ns, Builtin.Int.intBits z ≤ 1048576) → SqL K H a (ns.map V.int) → sp [.ref a] H (fun v _ => v = .bl true) fun _ _ _ => False) ∧
        ∀ base : Heap, K.In base → base.Ns mainGlobals mg → FnG l.prog w K mg base (L2.CX l.prog w) k fa fd [x] sp) :
    PySem.W.WalkO q loose XP YP l.row.toRowW d [] (fun f vs => PySem.call f vs) := by
  refine Att.attach_callB hn hdf fun w s0 s1 mg mb fa o pm cd doc a vs ns G Y ho hd hcd hmg hobj hints hlen hbits hg => ?_
  obtain ⟨K, fd, sp, KX, hb, hsp, hF⟩ := F w mg fa _ Y G.T.g hmg
  refine law_callG KX G.T.g G.T.b G.T.builtins G.T.nolimit hg hobj hints (Nat.le_trans hlen hn2) hr hF hb (fun H hS => hsp H a ns hlen hbits hS) fun H e s' hq => ?_
  obtain ⟨_, _, _, _, _, _, _, _, _, _, _, _, z⟩ := hq
  exact z
end Mir
end

section
set_option Elab.async false
set_option linter.all false
set_option maxRecDepth 100000
set_option maxHeartbeats 4000000
/-! Mir5: defs keep to their mirrors; calls of them. -/
namespace Mir
open PySem PySem.Spec PyProof.Rows L2

/-- the source at a name -/
def srcAt (en : En) (i : Nat) : Option (List Int × Int) := match en[i]? with
  | some (.own (.src c t)) => some (c, t)
  | _ => none
theorem srcAt_some {en : En} {i : Nat} {c : List Int} {t : Int} (h : srcAt en i = some (c, t)) : en[i]? = some (.own (.src c t)) := by
  unfold srcAt at h
  split at h
  · cases h; assumption
  · cases h
/-- what a body comes to -/
def endOf (x : Rs (Fl × En)) : Rs (D × En) := x.bind fun p => match p.1 with
  | .rt d => .ok (d, p.2)
  | .nx => .ok (.none, p.2)
  | _ => .stk
def enOf (n : Nat) (ds : List D) : En := ds.map SV.dat ++ List.replicate (n - ds.length) .un
def fnM (n np : Nat) (m : Sm) (ds : List D) : Rs D := if ds.length = np then (endOf (m (enOf n ds))).bind fun p => .ok p.1 else .stk
/-- .. whose first argument is an own source -/
def enOfS (n : Nat) (mo : MO) (ds : List D) : En := .own mo :: (ds.map SV.dat ++ List.replicate (n - (ds.length + 1)) .un)
def fnS (n np : Nat) (m : Sm) (mo : MO) (ds : List D) : Rs (D × MO) := if ds.length + 1 = np then (endOf (m (enOfS n mo ds))).bind fun p => match srcAt p.2 0 with
    | some (c, t) => .ok (p.1, .src c t)
    | none => .stk
  else .stk
/-- an entry at which only the source may be changed -/
def FS (G H : Hp) (p : V) (as : List Addr) : Fm := ⟨G, H, (· ∈ as), p, as⟩
def spS (K : PySem.W.Frag) (mg : Str → Option Value) (m : MO → List D → Rs (D × MO)) : Sp := fun vs H Q E => ∃ G p vr ds c t as, vs = p :: vr ∧ Same G H ∧ Own K G H p (.src c t) as ∧ DpAll K G vr ds ∧
  match m (.src c t) ds with
  | .ok (d, .src c' t') => ∀ v G' H', Gf (FS G H p as) G' H' → Own K G' H' p (.src c' t') as → Dp K G' v d → Q v H'
  | _ => False

section
variable {P : Program} {w : World} {K : PySem.W.Frag} {mg : Str → Option Value} {base : Heap} {x qual : Str} {params : Arguments} {body : List Stmt} {scope : Scope} {f : Addr} {fd : FuncData} {N ps : List Str} {k : Nat}
theorem start_get {vs : List V} {i : Nat} {v : V} (h : vs[i]? = some v) : (L2.start N vs)[i]? = some (some v) := by
  have hi := (List.getElem?_eq_some_iff.mp h).1
  unfold L2.start
  rw [List.getElem?_append_left (by rw [List.length_map]; exact hi), List.getElem?_map, h]
  rfl
theorem enOf_get {n : Nat} {ds : List D} {i : Nat} {sv : SV} (h : (enOf n ds)[i]? = some sv) : sv = .un ∨ ∃ d, ds[i]? = some d ∧ sv = .dat d := by
  unfold enOf at h
  by_cases hi : i < ds.length
  · rw [List.getElem?_append_left (by rw [List.length_map]; exact hi), List.getElem?_map] at h
    cases q : ds[i]? with
    | none => rw [q] at h; cases h
    | some d => rw [q] at h; cases h; exact .inr ⟨d, rfl, rfl⟩
  · rw [List.getElem?_append_right (by rw [List.length_map]; omega)] at h
    left
    have := List.mem_of_getElem? h
    exact List.eq_of_mem_replicate this
theorem gd_start {G H : Hp} {vs : List V} {ds : List D} (gh : Same G H) (hd : DpAll K G vs ds) (hn : vs.length ≤ N.length) : Gd K (F0 G H) G H (L2.start N vs) (enOf N.length ds) := by
  have hl := dpa_len hd
  refine ⟨gf0_refl gh, ?_, ⟨fun _ => 0, fun i sv e => ?_⟩, fun c t e => ?_⟩
  · unfold enOf L2.start
    rw [List.length_append, List.length_append, List.length_map, List.length_map, List.length_replicate, List.length_replicate, hl]
  · rcases enOf_get e with rfl | ⟨d, e1, rfl⟩
    · trivial
    · obtain ⟨v, e2, dv⟩ := dpa_get hd e1
      exact ⟨v, start_get e2, dv⟩
  · rcases enOf_get e with e1 | ⟨d, e1, e2⟩
    · cases e1
    · cases e2
theorem fnP_ok {m : Sm} (F : FunD K x qual params body scope [] [] f fd) (S : FnScope N ps scope) (hn : ps.length ≤ N.length)
    (hb : ∀ (cdv : Value) (A : Around) (outer : List Env) (s : Shared) (H : Hp) (E : XK), (A.deeper (envOfC qual scope s.heap.objs.size f cdv)).guards = some [] → Room k (A.deeper (envOfC qual scope s.heap.objs.size f cdv)) →
      ∃ t, PSs (cxOf (L2.CX P w) P w K mg base N qual scope f cdv A outer s H E) body t ∧ SS K mg E t m) :
    FnG P w K mg base (L2.CX P w) (k + 1) f fd ps (spP K mg (fnM N.length ps.length m)) := by
  have len : ∀ vs H Q E, spP K mg (fnM N.length ps.length m) vs H Q E → vs.length = ps.length := by
    rintro vs H Q E ⟨G, ds, gh, hd, h⟩
    by_cases q : ds.length = ps.length
    · rw [dpa_len hd, q]
    · have : fnM N.length ps.length m ds = .stk := if_neg q
      rw [this] at h
      exact h.elim
  refine fnG_of F S len fun cdv A outer s H vs Q E hgd hr hsp => ?_
  obtain ⟨t, h1, h2⟩ := hb cdv A outer s H E hgd hr
  refine ⟨t, h1, ?_⟩
  have hlen := len vs H Q E hsp
  obtain ⟨G, ds, gh, hd, h⟩ := hsp
  refine h2.run (F0 G H) _ (enOf N.length ds) G H _ (gd_start gh hd (by omega)) ?_
  have hq : ds.length = ps.length := by rw [← dpa_len hd]; exact hlen
  have e1 : fnM N.length ps.length m ds = (endOf (m (enOf N.length ds))).bind fun p => .ok p.1 := if_pos hq
  rw [e1] at h
  cases q : m (enOf N.length ds) with
  | stk => rw [q] at h; exact h
  | err c fs => rw [q] at h; exact h
  | ok z =>
    obtain ⟨fl, en'⟩ := z
    rw [q] at h
    cases fl with
    | nx => exact fun σ' G' H' g' _ => h .non G' H' g'.gf .non
    | bk => exact h.elim
    | ct => exact h.elim
    | rt d => exact fun v σ' G' H' g' _ dv => h v G' H' g'.gf dv
theorem gd_startS {G H : Hp} {p : V} {vr : List V} {ds : List D} {c : List Int} {t : Int} {as : List Addr} (gh : Same G H) (ow : Own K G H p (.src c t) as) (hd : DpAll K G vr ds) : Gd K (FS G H p as) G H (L2.start N (p :: vr)) (enOfS N.length (.src c t) ds) := by
  have hl := dpa_len hd
  refine ⟨Gf.refl G H _ _ _ gh, ?_, ⟨fun _ => 0, fun i sv e => ?_⟩, fun c' t' e => ?_⟩
  · unfold enOfS L2.start
    simp only [List.length_append, List.length_map, List.length_replicate, List.length_cons, List.map_cons, List.cons_append, hl]
  · cases i with
    | zero =>
      have e' : some (SV.own (.src c t)) = some sv := e
      cases e'
      exact ⟨p, as, rfl, ow, fun a ha => ⟨rfl, .inl ha⟩⟩
    | succ i =>
      have e' : (ds.map SV.dat ++ List.replicate (N.length - (ds.length + 1)) .un)[i]? = some sv := e
      have e2 : sv = .un ∨ ∃ d, ds[i]? = some d ∧ sv = .dat d := by
        by_cases hi : i < ds.length
        · rw [List.getElem?_append_left (by rw [List.length_map]; exact hi), List.getElem?_map] at e'
          cases q : ds[i]? with
          | none => rw [q] at e'; cases e'
          | some d => rw [q] at e'; cases e'; exact .inr ⟨d, rfl, rfl⟩
        · rw [List.getElem?_append_right (by rw [List.length_map]; omega)] at e'
          left
          exact List.eq_of_mem_replicate (List.mem_of_getElem? e')
      rcases e2 with rfl | ⟨d, e1, rfl⟩
      · trivial
      · obtain ⟨v, e2, dv⟩ := dpa_get hd e1
        exact ⟨v, start_get (vs := p :: vr) (i := i + 1) e2, dv⟩
  · have e' : some (SV.own (.src c t)) = some (.own (.src c' t')) := e
    cases e'
    exact ⟨rfl, ow⟩
theorem fnS_ok {m : Sm} (F : FunD K x qual params body scope [] [] f fd) (S : FnScope N ps scope) (hn : ps.length ≤ N.length)
    (hb : ∀ (cdv : Value) (A : Around) (outer : List Env) (s : Shared) (H : Hp) (E : XK), (A.deeper (envOfC qual scope s.heap.objs.size f cdv)).guards = some [] → Room k (A.deeper (envOfC qual scope s.heap.objs.size f cdv)) →
      ∃ t, PSs (cxOf (L2.CX P w) P w K mg base N qual scope f cdv A outer s H E) body t ∧ SS K mg E t m) :
    FnG P w K mg base (L2.CX P w) (k + 1) f fd ps (spS K mg (fnS N.length ps.length m)) := by
  have len : ∀ vs H Q E, spS K mg (fnS N.length ps.length m) vs H Q E → vs.length = ps.length := by
    rintro vs H Q E ⟨G, p, vr, ds, c, t, as, rfl, gh, ow, hd, h⟩
    by_cases q : ds.length + 1 = ps.length
    · rw [List.length_cons, dpa_len hd, q]
    · have : fnS N.length ps.length m (.src c t) ds = .stk := if_neg q
      rw [this] at h
      exact h.elim
  refine fnG_of F S len fun cdv A outer s H vs Q E hgd hr hsp => ?_
  obtain ⟨t, h1, h2⟩ := hb cdv A outer s H E hgd hr
  refine ⟨t, h1, ?_⟩
  have hlen := len vs H Q E hsp
  obtain ⟨G, p, vr, ds, c, tt, as, rfl, gh, ow, hd, h⟩ := hsp
  refine h2.run (FS G H p as) _ (enOfS N.length (.src c tt) ds) G H _ (gd_startS gh ow hd) ?_
  have hq : ds.length + 1 = ps.length := by rw [← dpa_len hd]; exact hlen
  have e1 : fnS N.length ps.length m (.src c tt) ds = (endOf (m (enOfS N.length (.src c tt) ds))).bind fun p => match srcAt p.2 0 with
    | some (c, t) => .ok (p.1, .src c t)
    | none => .stk := if_pos hq
  rw [e1] at h
  have fin : ∀ {d : D} {en' : En}, (match (match srcAt en' 0 with
      | some (c, t) => (.ok (d, .src c t) : Rs (D × MO))
      | none => .stk) with
    | .ok (d, .src c' t') => ∀ v G' H', Gf (FS G H p as) G' H' → Own K G' H' p (.src c' t') as → Dp K G' v d → Q v H'
    | _ => False) → ∀ v σ' G' H', Gd K (FS G H p as) G' H' σ' en' → Dp K G' v d → Q v H' := fun {d en'} h v σ' G' H' g' dv => by
    cases q0 : srcAt en' 0 with
    | none => rw [q0] at h; exact h.elim
    | some sv =>
      obtain ⟨c', t'⟩ := sv
      rw [q0] at h
      exact h v G' H' g'.gf (g'.pin c' t' (srcAt_some q0)).2 dv
  cases q : m (enOfS N.length (.src c tt) ds) with
  | stk => rw [q] at h; exact h.elim
  | err c fs => rw [q] at h; exact h.elim
  | ok z =>
    obtain ⟨fl, en'⟩ := z
    rw [q] at h
    cases fl with
    | nx => exact fun σ' G' H' g' _ => fin h .non σ' G' H' g' .non
    | bk => exact h.elim
    | ct => exact h.elim
    | rt d => exact fun v σ' G' H' g' _ dv => fin h v σ' G' H' g' dv
end

/-! ### calls -/
section
variable {K : PySem.W.Frag} {mg : Str → Option Value} {E : L2.St → XK} {F : Fm} {σ : L2.St} {G G' H H' : Hp} {en : En}
theorem se_callD {m : List D → Rs D} {ta : TA} {a : Am} (h1 : SA K mg E ta a) : SE K mg E (tCallG (spP K mg m) E ta) (eCall m a) := by
  refine ⟨fun F σ en G H Q g h => ?_⟩
  show ta σ H _
  refine sa_bind h1 g poE_err id h fun ds en1 vs G1 H1 p1 g1 s1 d1 => ?_
  refine ⟨G1, ds, g1.gf.gh, d1, ?_⟩
  have p1' : PoE K mg (E σ) F σ G Q ((m ds).bind fun d => .ok (d, en1)) := p1
  cases q : m ds with
  | stk => rw [q] at p1'; exact p1'.elim
  | err c fs =>
    rw [q] at p1'
    exact fun cls dx H' e => p1' cls dx H' (ErrAt.back (F' := F0 G1 H1) g1.gf rfl rfl (fun _ z => z.elim) e)
  | ok d =>
    rw [q] at p1'
    exact fun v G' H' f hd => p1' v G' H' (g1.grow f) (s1.trans f.g0) hd
/-- f(source, ..) -/
def eCallS (m : MO → List D → Rs (D × MO)) (i : Nat) (a : Am) : Em := fun en => match srcAt en i with
  | none => .stk
  | some _ => (a en).bind fun p => match srcAt p.2 i with
    | none => .stk
    | some (c, t) => (m (.src c t) p.1).calm.bind fun q => match q.2 with
      | .src c' t' => .ok (q.1, p.2.set i (.own (.src c' t')))
      | _ => .stk
theorem Gd.ownS {i : Nat} {c : List Int} {t : Int} (g : Gd K F G H σ en) (e : en[i]? = some (.own (.src c t))) : ∃ v as, σ[i]? = some (some v) ∧ Own K G H v (.src c t) as ∧ ∀ a ∈ as, F.Z a ∨ F.H0 a = none := by
  obtain ⟨om, s⟩ := g.sat
  obtain ⟨v, as, h1, h2, h3⟩ := s i _ e
  exact ⟨v, as, h1, h2, fun a ha => (h3 a ha).2⟩
/-- behind a call that changed the source -/
theorem Gd.callS {i : Nat} {v : V} {c c' : List Int} {t t' : Int} {as : List Addr} (g : Gd K F G H σ en) (e : en[i]? = some (.own (.src c t))) (hv : σ[i]? = some (some v)) (ow : Own K G H v (.src c t) as) (f : Gf (FS G H v as) G' H') (ow' : Own K G' H' v (.src c' t') as) :
    Gd K F G' H' σ (en.set i (.own (.src c' t'))) := by
  obtain ⟨om, s⟩ := g.sat
  have hi : i < en.length := (List.getElem?_eq_some_iff.mp e).1
  obtain ⟨v0, as0, k1, k2, k3⟩ := s i _ e
  rw [hv] at k1; cases k1
  obtain rfl := ow.inj k2
  have keep : ∀ {j : Nat} {u : V} {mo : MO} {bs : List Addr}, j ≠ i → (∀ a ∈ bs, om a = j) → Own K G H u mo bs → Own K G' H' u mo bs := fun {j u mo bs} nj hj o =>
    o.keep f.g0 (fun a ha => f.nf a (o.live a ha).1 (o.live a ha).2 fun z => nj ((hj a ha).symm.trans (k3 a z).1)) fun a ha x hx => f.pres a x hx fun z => nj ((hj a ha).symm.trans (k3 a z).1)
  refine ⟨g.gf.comp f rfl rfl (fun a z => (k3 a z).2), by rw [List.length_set, g.len], ⟨om, fun j sv e1 => ?_⟩, fun c1 t1 e1 => ?_⟩
  · by_cases q : i = j
    · subst q
      rw [List.getElem?_set_self hi] at e1
      cases e1
      exact ⟨v, as, hv, ow', k3⟩
    · rw [List.getElem?_set_ne q] at e1
      have z := s j sv e1
      cases sv with
      | un => trivial
      | dat d => obtain ⟨u, l1, l2⟩ := z; exact ⟨u, l1, dp_mono f.g0 _ _ l2⟩
      | own mo =>
        obtain ⟨u, bs, l1, l2, l3⟩ := z
        exact ⟨u, bs, l1, keep (Ne.symm q) (fun a ha => (l3 a ha).1) l2, l3⟩
  · by_cases q : i = 0
    · subst q
      rw [List.getElem?_set_self hi] at e1
      cases e1
      obtain ⟨r1, r2⟩ := g.pin c t e
      rw [hv] at r1; cases r1
      obtain r3 := ow.inj r2
      rw [← r3]
      exact ⟨hv, ow'⟩
    · rw [List.getElem?_set_ne q] at e1
      obtain ⟨r1, r2⟩ := g.pin c1 t1 e1
      refine ⟨r1, ?_⟩
      obtain ⟨u, bs, l1, l2, l3⟩ := s 0 _ e1
      rw [r1] at l1; cases l1
      obtain rfl := l2.inj r2
      exact keep (Ne.symm q) (fun a ha => (l3 a ha).1) r2
theorem se_callS {m : MO → List D → Rs (D × MO)} {i : Nat} {ta : TA} {a : Am} {E1 : L2.St → XK} (h1 : SA K mg E ta a) : SE K mg E (tCallG (spS K mg m) E1 (tCons (tVar i) ta)) (eCallS m i a) := by
  refine ⟨fun F σ en G H Q g h => ?_⟩
  unfold eCallS at h
  split at h
  · exact h.elim
  rename_i z0 q0
  obtain ⟨c0, t0⟩ := z0
  obtain ⟨v, as, hv, ow0, _⟩ := g.ownS (srcAt_some q0)
  refine ⟨v, hv, ?_⟩
  show ta σ H _
  refine sa_bind h1 g poE_err id h fun ds en1 vs G1 H1 p1 g1 s1 d1 => ?_
  split at p1
  · exact p1.elim
  rename_i z1 c t q1
  obtain ⟨v', as', hv', ow, _⟩ := g1.ownS (srcAt_some q1)
  rw [hv] at hv'; cases hv'
  obtain ⟨⟨d, mo⟩, em, p2⟩ := calm_bind (P := PoE K mg (E σ) F σ G Q) id p1
  cases mo with
  | lst ls => exact (show False from p2).elim
  | src c' t' =>
    refine ⟨G1, v, vs, ds, c, t, as', rfl, g1.gf.gh, ow, d1, ?_⟩
    rw [show m (.src c t) ds = .ok (d, .src c' t') from em]
    intro u G' H' f ow' du
    exact p2 u G' H' (g1.callS (srcAt_some q1) hv ow f ow') (s1.trans f.g0) du
end
end Mir
end

section
set_option Elab.async false
set_option linter.all false
set_option maxRecDepth 100000
set_option maxHeartbeats 4000000
/-! Mir6: operations on data, as functions, and their readings. -/
namespace Mir
open PySem PySem.Spec PyProof.Rows L2

section
variable {K : PySem.W.Frag} {G H : Hp}
theorem gf_id (gh : Same G H) : Gf (F0 G H) G H := gf0_refl gh

/-! ### sequences, either kind -/
def seqD : D → Option (List D)
  | .list ds => some ds
  | .tuple ds => some ds
  | _ => none
theorem seqD_dp {v : V} {d : D} {ds : List D} (gh : Same G H) (h : Dp K G v d) (e : seqD d = some ds) : ∃ a xs, v = .ref a ∧ (SqL K H a xs ∨ SqT K H a xs) ∧ DpAll K G xs ds := by
  cases d with
  | list es =>
    cases e
    cases h with
    | @lst a xs _ hs ha => exact ⟨a, xs, rfl, .inl (gh.seq hs), ha⟩
  | tuple es =>
    cases e
    cases h with
    | @tup a xs _ hs ha => exact ⟨a, xs, rfl, .inr (seqT_mono gh hs), ha⟩
  | none => cases e
  | bool b => cases e
  | int i => cases e
  | str x => cases e
  | dict kvs => cases e

/-! ### ints -/
def fI2 (g : Int → Int → D) (d e : D) : Rs D := match d, e with
  | .int i, .int j => .ok (g i j)
  | _, _ => .stk
def fI2c (c : Int → Int → Bool) (g : Int → Int → D) (d e : D) : Rs D := match d, e with
  | .int i, .int j => if c i j = true then .ok (g i j) else .stk
  | _, _ => .stk
theorem int2 {x y : V} {i j : Int} (h1 : Dp K G x (.int i)) (h2 : Dp K G y (.int j)) : x = .int i ∧ y = .int j := by cases h1; cases h2; exact ⟨rfl, rfl⟩
theorem o2_I {g : Int → Int → Int} : O2 K (rI0 fun i j => .int (g i j)) (fI2 fun i j => .int (g i j)) := by
  refine ⟨fun G H x y d e z gh h1 h2 hf Q q => ?_⟩
  unfold fI2 at hf
  split at hf
  · rename_i i j
    cases hf
    obtain ⟨rfl, rfl⟩ := int2 h1 h2
    exact ⟨i, j, rfl, rfl, q _ G H (gf_id gh) (.int _)⟩
  · cases hf
theorem o2_Ic {C : Int → Int → Prop} {c : Int → Int → Bool} {g : Int → Int → Int} (hc : ∀ i j, c i j = true → C i j) : O2 K (rI C fun i j => .int (g i j)) (fI2c c fun i j => .int (g i j)) := by
  refine ⟨fun G H x y d e z gh h1 h2 hf Q q => ?_⟩
  unfold fI2c at hf
  split at hf
  · rename_i i j
    split at hf
    · rename_i hh
      cases hf
      obtain ⟨rfl, rfl⟩ := int2 h1 h2
      exact ⟨i, j, rfl, rfl, hc i j hh, q _ G H (gf_id gh) (.int _)⟩
    · cases hf
  · cases hf
abbrev fSub := fI2 fun i j => .int (i - j)
def okMul (i j : Int) : Bool := decide (i.natAbs.log2 < 60000000) && decide (j.natAbs.log2 < 60000000)
abbrev fMul := fI2c okMul fun i j => .int (i * j)
def okDiv (_ j : Int) : Bool := decide (0 < j) && decide (j.natAbs.log2 < 9000)
abbrev fDiv := fI2c okDiv fun i j => .int (i / j)
def okMod (_ j : Int) : Bool := decide (0 < j)
abbrev fMod := fI2c okMod fun i j => .int (i % j)
abbrev fAnd := fI2 fun i j => .int (Builtin.bitAnd i j)
abbrev fOr := fI2 fun i j => .int (Builtin.bitOr i j)
abbrev fXor := fI2 fun i j => .int (Builtin.bitXor i j)
theorem o_sub : O2 K (rI0 fun i j => .int (i - j)) fSub := o2_I
theorem o_mul : O2 K (rI CMulX fun i j => .int (i * j)) fMul := o2_Ic fun i j h => by
  unfold okMul at h
  rw [Bool.and_eq_true] at h
  have h1 := of_decide_eq_true h.1
  have h2 := of_decide_eq_true h.2
  exact mulx_ok Nat.lt_log2_self Nat.lt_log2_self (by omega)
theorem o_div : O2 K (rI CDivW fun i j => .int (i / j)) fDiv := o2_Ic fun i j h => by
  have h' : (decide (0 < j) && decide (j.natAbs.log2 < 9000)) = true := h
  rw [Bool.and_eq_true] at h'
  exact ⟨of_decide_eq_true h'.1, of_decide_eq_true h'.2⟩
theorem o_mod : O2 K (rI (fun _ j => 0 < j) fun i j => .int (i % j)) fMod := o2_Ic fun i j h => of_decide_eq_true h
theorem o_and : O2 K (rI0 fun i j => .int (Builtin.bitAnd i j)) fAnd := o2_I
theorem o_or : O2 K (rI0 fun i j => .int (Builtin.bitOr i j)) fOr := o2_I
theorem o_xor : O2 K (rI0 fun i j => .int (Builtin.bitXor i j)) fXor := o2_I
def fNeg : D → Rs D
  | .int i => .ok (.int (-i))
  | _ => .stk
theorem o_neg : O1 K (rU fun i => .int (-i)) fNeg := by
  refine ⟨fun G H x d z gh h1 hf Q q => ?_⟩
  unfold fNeg at hf
  split at hf
  · cases hf; cases h1; exact ⟨_, rfl, q _ G H (gf_id gh) (.int _)⟩
  · cases hf

/-! ### scalars out of data -/
def sV : D → Option V
  | .none => some .non
  | .bool b => some (.bl b)
  | .int i => some (.int i)
  | .str x => some (.str x)
  | _ => Option.none
theorem dp_sV {z : D} {w : V} (h : sV z = some w) : Dp K G w z := by
  cases z with
  | none => cases h; exact .non
  | bool b => cases h; exact .bl b
  | int i => cases h; exact .int i
  | str x => cases h; exact .str x
  | list _ => cases h
  | tuple _ => cases h
  | dict _ => cases h
def rD1 (K : PySem.W.Frag) (f : D → Rs D) : V → Hp → VK → Prop := fun x H Q => ∃ d z w, Dp K H x d ∧ f d = .ok z ∧ sV z = some w ∧ Q w H
def rD2 (K : PySem.W.Frag) (f : D → D → Rs D) : R2 := fun x y H Q => ∃ d e z w, Dp K H x d ∧ Dp K H y e ∧ f d e = .ok z ∧ sV z = some w ∧ Q w H
def rDN (K : PySem.W.Frag) (f : List D → Rs D) : List V → Hp → VK → Prop := fun xs H Q => ∃ ds z w, DpAll K H xs ds ∧ f ds = .ok z ∧ sV z = some w ∧ Q w H
theorem o1_D {f : D → Rs D} (hf : ∀ d z, f d = .ok z → (sV z).isSome = true) : O1 K (rD1 K f) f := by
  refine ⟨fun G H x d z gh h1 e Q q => ?_⟩
  obtain ⟨w, hw⟩ := Option.isSome_iff_exists.mp (hf d z e)
  exact ⟨d, z, w, dp_mono gh _ _ h1, e, hw, q w G H (gf_id gh) (dp_sV hw)⟩
theorem o2_D {f : D → D → Rs D} (hf : ∀ d e z, f d e = .ok z → (sV z).isSome = true) : O2 K (rD2 K f) f := by
  refine ⟨fun G H x y d e z gh h1 h2 he Q q => ?_⟩
  obtain ⟨w, hw⟩ := Option.isSome_iff_exists.mp (hf d e z he)
  exact ⟨d, e, z, w, dp_mono gh _ _ h1, dp_mono gh _ _ h2, he, hw, q w G H (gf_id gh) (dp_sV hw)⟩
theorem oN_D {f : List D → Rs D} (hf : ∀ ds z, f ds = .ok z → (sV z).isSome = true) : ON K (rDN K f) f := by
  refine ⟨fun G H xs ds z gh h1 e Q q => ?_⟩
  obtain ⟨w, hw⟩ := Option.isSome_iff_exists.mp (hf ds z e)
  exact ⟨ds, z, w, dpa_mono gh _ _ h1, e, hw, q w G H (gf_id gh) (dp_sV hw)⟩
/-- a yes or no under a condition -/
def yn (c : Bool) (b : Bool) : Rs D := if c = true then .ok (.bool b) else .stk
theorem yn_is {c b : Bool} {z : D} (h : yn c b = .ok z) : c = true ∧ z = .bool b := by
  unfold yn at h
  split at h
  · rename_i hc; cases h; exact ⟨hc, rfl⟩
  · cases h
theorem yn_sV {c b : Bool} {z : D} (h : yn c b = .ok z) : (sV z).isSome = true := by
  obtain ⟨_, rfl⟩ := yn_is h
  rfl

/-! ### comparisons -/
def notNone : D → Bool
  | .none => false
  | _ => true
def okCmp (d e : D) : Bool := PySem.W.alike d e && notNone d && decide (d.depth ≤ 60)
def fLt (d e : D) : Rs D := yn (okCmp d e) (PySem.W.dataLt d e)
def fGt (d e : D) : Rs D := yn (okCmp d e) (PySem.W.dataLt e d)
def fLe (d e : D) : Rs D := yn (okCmp d e) (!PySem.W.dataLt e d)
def fGe (d e : D) : Rs D := yn (okCmp d e) (!PySem.W.dataLt d e)
def okEq (d e : D) : Bool := SeqAt.shaped d && SeqAt.shaped e
def fEq (d e : D) : Rs D := yn (okEq d e) (PyData.eqv d e)
def fNe (d e : D) : Rs D := yn (okEq d e) (!PyData.eqv d e)
def fIn (d e : D) : Rs D := match seqD e with
  | some ds => yn (okEq d e) (ds.any fun z => PyData.eqv z d)
  | none => .stk
def fNotIn (d e : D) : Rs D := match seqD e with
  | some ds => yn (okEq d e) (!ds.any fun z => PyData.eqv z d)
  | none => .stk
theorem okCmp_is {d e : D} (h : okCmp d e = true) : PySem.W.alike d e = true ∧ d ≠ .none ∧ d.depth ≤ 60 := by
  unfold okCmp at h
  rw [Bool.and_eq_true, Bool.and_eq_true] at h
  refine ⟨h.1.1, fun z => ?_, of_decide_eq_true h.2⟩
  rw [z] at h
  exact absurd h.1.2 (by decide)
end
section
variable {X : Cx}
theorem cmp_room {A : Around} {d e : D} (hu : A.units + 65 < cLine) (h : d.depth ≤ 60) : A.units + min d.depth e.depth < cLine := by
  have := Nat.min_le_left d.depth e.depth
  omega
theorem op_ltG (hu : X.A.units + 65 < cLine) : OpR X (compareOp .Lt) (rD2 X.K fLt) := by
  intro pins s σ H x y v u Q I rx ry h
  obtain ⟨d, e, z, w, hd, he, hf, hw, q⟩ := h
  obtain ⟨c, rfl⟩ := yn_is hf
  obtain ⟨c1, c2, c3⟩ := okCmp_is c
  obtain ⟨as, r1⟩ := Dp.reads I d x v hd rx
  obtain ⟨bs, r2⟩ := Dp.reads I e y u he ry
  cases hw
  exact PySem.W.lt_data r1 r2 c1 c2 (cmp_room hu c3) ⟨.bl _, H, I, rfl, q⟩
theorem op_gtG (hu : X.A.units + 65 < cLine) : OpR X (compareOp .Gt) (rD2 X.K fGt) := by
  intro pins s σ H x y v u Q I rx ry h
  obtain ⟨d, e, z, w, hd, he, hf, hw, q⟩ := h
  obtain ⟨c, rfl⟩ := yn_is hf
  obtain ⟨c1, c2, c3⟩ := okCmp_is c
  obtain ⟨as, r1⟩ := Dp.reads I d x v hd rx
  obtain ⟨bs, r2⟩ := Dp.reads I e y u he ry
  cases hw
  exact PySem.W.gt_data r1 r2 c1 c2 (cmp_room hu c3) ⟨.bl _, H, I, rfl, q⟩
theorem op_leG (hu : X.A.units + 65 < cLine) : OpR X (compareOp .LtE) (rD2 X.K fLe) := by
  intro pins s σ H x y v u Q I rx ry h
  obtain ⟨d, e, z, w, hd, he, hf, hw, q⟩ := h
  obtain ⟨c, rfl⟩ := yn_is hf
  obtain ⟨c1, c2, c3⟩ := okCmp_is c
  obtain ⟨as, r1⟩ := Dp.reads I d x v hd rx
  obtain ⟨bs, r2⟩ := Dp.reads I e y u he ry
  cases hw
  exact PySem.W.le_data r1 r2 c1 c2 (cmp_room hu c3) ⟨.bl _, H, I, rfl, q⟩
theorem op_geG (hu : X.A.units + 65 < cLine) : OpR X (compareOp .GtE) (rD2 X.K fGe) := by
  intro pins s σ H x y v u Q I rx ry h
  obtain ⟨d, e, z, w, hd, he, hf, hw, q⟩ := h
  obtain ⟨c, rfl⟩ := yn_is hf
  obtain ⟨c1, c2, c3⟩ := okCmp_is c
  obtain ⟨as, r1⟩ := Dp.reads I d x v hd rx
  obtain ⟨bs, r2⟩ := Dp.reads I e y u he ry
  cases hw
  exact PySem.W.ge_data r1 r2 c1 c2 (cmp_room hu c3) ⟨.bl _, H, I, rfl, q⟩
theorem op_eqG (hu : X.A.units + 65 < cLine) : OpR X (compareOp .Eq) (rD2 X.K fEq) := by
  intro pins s σ H x y v u Q I rx ry h
  obtain ⟨d, e, z, w, hd, he, hf, hw, q⟩ := h
  obtain ⟨c, rfl⟩ := yn_is hf
  have c' : (SeqAt.shaped d && SeqAt.shaped e) = true := c
  rw [Bool.and_eq_true] at c'
  cases hw
  exact op_eqD (by omega) pins s σ H x y v u Q I rx ry ⟨d, e, hd, he, c'.1, c'.2, q⟩
theorem op_neG (hu : X.A.units + 65 < cLine) : OpR X (compareOp .NotEq) (rD2 X.K fNe) := by
  intro pins s σ H x y v u Q I rx ry h
  obtain ⟨d, e, z, w, hd, he, hf, hw, q⟩ := h
  obtain ⟨c, rfl⟩ := yn_is hf
  have c' : (SeqAt.shaped d && SeqAt.shaped e) = true := c
  rw [Bool.and_eq_true] at c'
  cases hw
  exact op_neD (by omega) pins s σ H x y v u Q I rx ry ⟨d, e, hd, he, c'.1, c'.2, q⟩
theorem op_inG (hu : X.A.units + 65 < cLine) : OpR X (compareOp .In) (rD2 X.K fIn) := by
  intro pins s σ H x y v u Q I rx ry h
  obtain ⟨d, e, z, w, hd, he, hf, hw, q⟩ := h
  unfold fIn at hf
  split at hf
  · rename_i ds hs
    obtain ⟨c, rfl⟩ := yn_is hf
    have c' : (SeqAt.shaped d && SeqAt.shaped e) = true := c
    rw [Bool.and_eq_true] at c'
    obtain ⟨as, r1⟩ := Dp.reads I d x v hd rx
    obtain ⟨bs, r2⟩ := Dp.reads I e y u he ry
    cases hw
    cases e with
    | list es =>
      cases hs
      exact SeqAt.in_list_reads r2 r1 (SeqAt.canLay_of_shaped c'.2) (SeqAt.canLay_of_shaped c'.1) (room_in_shaped c'.1 hu) ⟨.bl _, H, I, rfl, q⟩
    | tuple es =>
      cases hs
      exact SeqAt.in_tuple_reads r2 r1 (SeqAt.canLay_of_shaped c'.2) (SeqAt.canLay_of_shaped c'.1) (room_in_shaped c'.1 hu) ⟨.bl _, H, I, rfl, q⟩
    | _ => cases hs
  · cases hf
theorem op_notInG (hu : X.A.units + 65 < cLine) : OpR X (compareOp .NotIn) (rD2 X.K fNotIn) := by
  intro pins s σ H x y v u Q I rx ry h
  obtain ⟨d, e, z, w, hd, he, hf, hw, q⟩ := h
  unfold fNotIn at hf
  split at hf
  · rename_i ds hs
    obtain ⟨c, rfl⟩ := yn_is hf
    have c' : (SeqAt.shaped d && SeqAt.shaped e) = true := c
    rw [Bool.and_eq_true] at c'
    obtain ⟨as, r1⟩ := Dp.reads I d x v hd rx
    obtain ⟨bs, r2⟩ := Dp.reads I e y u he ry
    cases hw
    cases e with
    | list es =>
      cases hs
      exact SeqAt.notIn_list_reads r2 r1 (SeqAt.canLay_of_shaped c'.2) (SeqAt.canLay_of_shaped c'.1) (room_in_shaped c'.1 hu) ⟨.bl _, H, I, rfl, q⟩
    | tuple es =>
      cases hs
      exact SeqAt.notIn_tuple_reads r2 r1 (SeqAt.canLay_of_shaped c'.2) (SeqAt.canLay_of_shaped c'.1) (room_in_shaped c'.1 hu) ⟨.bl _, H, I, rfl, q⟩
    | _ => cases hs
  · cases hf
end
section
variable {K : PySem.W.Frag} {G H : Hp}
theorem o_lt : O2 K (rD2 K fLt) fLt := o2_D fun _ _ _ h => yn_sV h
theorem o_gt : O2 K (rD2 K fGt) fGt := o2_D fun _ _ _ h => yn_sV h
theorem o_le : O2 K (rD2 K fLe) fLe := o2_D fun _ _ _ h => yn_sV h
theorem o_ge : O2 K (rD2 K fGe) fGe := o2_D fun _ _ _ h => yn_sV h
theorem o_eq : O2 K (rD2 K fEq) fEq := o2_D fun _ _ _ h => yn_sV h
theorem o_ne : O2 K (rD2 K fNe) fNe := o2_D fun _ _ _ h => yn_sV h
theorem o_in : O2 K (rD2 K fIn) fIn := o2_D fun d e z h => by
  unfold fIn at h
  split at h
  · exact yn_sV h
  · cases h
theorem o_notIn : O2 K (rD2 K fNotIn) fNotIn := o2_D fun d e z h => by
  unfold fNotIn at h
  split at h
  · exact yn_sV h
  · cases h
/-- x is None, x is True -/
def fIs (d e : D) : Rs D := match e with
  | .none => .ok (.bool (!notNone d))
  | .bool b => match d with
    | .bool c => .ok (.bool (decide (c = b)))
    | _ => .stk
  | _ => .stk
def fIsNot (d e : D) : Rs D := match e with
  | .none => .ok (.bool (notNone d))
  | .bool b => match d with
    | .bool c => .ok (.bool (!decide (c = b)))
    | _ => .stk
  | _ => .stk
theorem dp_non {v : V} {d : D} (h : Dp K G v d) : (v = .non) ↔ notNone d = false := by cases h <;> simp [notNone]
theorem o_is : O2 K (rD2 K fIs) fIs := o2_D fun d e z h => by
  unfold fIs at h
  split at h
  · cases h; rfl
  · split at h
    · cases h; rfl
    · cases h
  · cases h
theorem o_isNot : O2 K (rD2 K fIsNot) fIsNot := o2_D fun d e z h => by
  unfold fIsNot at h
  split at h
  · cases h; rfl
  · split at h
    · cases h; rfl
    · cases h
  · cases h
end
section
variable {X : Cx}
theorem op_isG : OpR X (compareOp .Is) (rD2 X.K fIs) := by
  intro pins s σ H x y v u Q I rx ry h
  obtain ⟨d, e, z, w, hd, he, hf, hw, q⟩ := h
  unfold fIs at hf
  split at hf
  · cases hf
    cases hw
    cases he
    refine op_isN pins s σ H x .non v u Q I rx ry ⟨rfl, ?_⟩
    have e1 : decide (x = V.non) = !notNone d := by
      have := dp_non hd
      cases q1 : notNone d with
      | true => simp [this, q1]
      | false => simp [this, q1]
    rw [e1]
    exact q
  · split at hf
    · cases hf
      cases hw
      cases he
      cases hd
      exact op_is_bl pins s σ H _ _ v u Q I rx ry ⟨_, _, rfl, rfl, q⟩
    · cases hf
  · cases hf
theorem op_isNotG : OpR X (compareOp .IsNot) (rD2 X.K fIsNot) := by
  intro pins s σ H x y v u Q I rx ry h
  obtain ⟨d, e, z, w, hd, he, hf, hw, q⟩ := h
  unfold fIsNot at hf
  split at hf
  · cases hf
    cases hw
    cases he
    refine op_notN pins s σ H x .non v u Q I rx ry ⟨rfl, ?_⟩
    have e1 : (!decide (x = V.non)) = notNone d := by
      have := dp_non hd
      cases q1 : notNone d with
      | true => simp [this, q1]
      | false => simp [this, q1]
    rw [e1]
    exact q
  · split at hf
    · cases hf
      cases hw
      cases he
      cases hd
      exact op_isnot_bl pins s σ H _ _ v u Q I rx ry ⟨_, _, rfl, rfl, q⟩
    · cases hf
  · cases hf

/-! ### x + y: ints, tuples, lists -/
def rAddL (K : PySem.W.Frag) : R2 := fun x y H Q => ∃ l b xs zs, x = .ref l ∧ y = .ref b ∧ SqL K H l xs ∧ SqL K H b zs ∧ xs.length + zs.length ≤ sizeLine ∧ ∀ p, H p = none → Q (.ref p) (upd H p (.lst (xs ++ zs)))
theorem op_addL : OpR X (binaryOp .Add) (rAddL X.K) := by
  intro pins s σ H x y v u Q I rx ry h
  obtain ⟨l, b, xs, zs, rfl, rfl, hH, hB, hz, q⟩ := h
  cases rx
  cases ry
  obtain ⟨its, r, ⟨⟨cls, dd, data, sl⟩, n, e, hc, hd, hs⟩, z1⟩ := I.list hH
  obtain ⟨its2, r2, ⟨⟨cls2, dd2, data2, sl2⟩, n2, e2, hc2, hd2, hs2⟩, z2⟩ := I.list hB
  have hl := r.length
  have hl2 := r2.length
  simp only at hc hd hs hc2 hd2 hs2
  subst hc hd hs hc2 hd2 hs2
  have ea : its.toArray ++ its2.toArray = (its ++ its2).toArray := by simp
  refine PySem.concat_meets ⟨_, e, rfl⟩ ⟨_, e2, rfl⟩ noFill_list_add seq_list_add PySem.F.slot_list_add PySem.F.entry_list_add (PySem.F.args_list_add_2 _ _) (list_addW l b its.toArray its2.toArray n n2 none none sl sl2 (by rw [List.size_toArray, List.size_toArray]; omega)) ⟨e, e2, ?_⟩
  rw [ea]
  refine ⟨.ref s.heap.objs.size, _, I.laid (t' := s.toks) (o := .lst (xs ++ zs)) (fun b ob q => Heap.get?_push_of_some _ q) (Nat.le_refl _) ?_, rfl, q _ (I.hok.fresh (Nat.le_refl _))⟩
  exact ⟨by rw [List.length_append]; exact hz, _, 0, r.append r2, Heap.get?_push_size _ rfl⟩
def rAdd3 (K : PySem.W.Frag) : R2 := fun x y H Q => (rI0 fun i j => .int (i + j)) x y H Q ∨ rCatA K x y H Q ∨ rAddL K x y H Q
theorem op_add3 : OpR X (binaryOp .Add) (rAdd3 X.K) := by
  intro pins s σ H x y v u Q I rx ry h
  rcases h with h | h | h
  · exact op_add pins s σ H x y v u Q I rx ry h
  · exact op_catA pins s σ H x y v u Q I rx ry h
  · exact op_addL pins s σ H x y v u Q I rx ry h
end
section
variable {K : PySem.W.Frag} {G H : Hp}
def fAdd : D → D → Rs D
  | .int i, .int j => .ok (.int (i + j))
  | .tuple xs, .tuple ys => if xs.length + ys.length ≤ big then .ok (.tuple (xs ++ ys)) else .stk
  | .list xs, .list ys => if xs.length + ys.length ≤ big then .ok (.list (xs ++ ys)) else .stk
  | _, _ => .stk
theorem dpa_nil {vs : List V} {ds : List D} (h : DpAll K G vs ds) : vs = [] ↔ ds = [] := by cases h <;> simp
theorem o_add : O2 K (rAdd3 K) fAdd := by
  refine ⟨fun G H x y d e z gh h1 h2 hf Q q => ?_⟩
  unfold fAdd at hf
  split at hf
  · cases hf
    obtain ⟨rfl, rfl⟩ := int2 h1 h2
    exact .inl ⟨_, _, rfl, rfl, q _ G H (gf_id gh) (.int _)⟩
  · rename_i ds es
    split at hf
    · rename_i hz
      cases hf
      cases h1 with
      | @tup a xs _ hs ha =>
        cases h2 with
        | @tup b ys _ hs2 ha2 =>
          refine .inr (.inl ⟨a, b, xs, ys, rfl, rfl, seqT_mono gh hs, seqT_mono gh hs2, by rw [dpa_len ha, dpa_len ha2]; exact big_line hz, fun e => ?_, fun e1 e2 => ?_, fun e1 e2 p hp => ?_⟩)
          · have e' := (dpa_nil ha).mp e
            rw [e'] at q
            exact q (.ref b) G H (gf_id gh) (.tup hs2 ha2)
          · have e' := (dpa_nil ha2).mp e2
            rw [e', List.append_nil] at q
            exact q (.ref a) G H (gf_id gh) (.tup hs ha)
          · have f := gf0_newG (o := .tup (xs ++ ys)) gh hp
            exact q (.ref p) _ _ f (.tup (.inl (.inl upd_same)) (dpa_mono f.g0 _ _ (dpa_app ha ha2)))
    · cases hf
  · rename_i ds es
    split at hf
    · rename_i hz
      cases hf
      cases h1 with
      | @lst a xs _ hs ha =>
        cases h2 with
        | @lst b ys _ hs2 ha2 =>
          refine .inr (.inr ⟨a, b, xs, ys, rfl, rfl, gh.seq hs, gh.seq hs2, by rw [dpa_len ha, dpa_len ha2]; exact big_line hz, fun p hp => ?_⟩)
          have f := gf0_newG (o := .lst (xs ++ ys)) gh hp
          exact q (.ref p) _ _ f (.lst (.inl (.inl upd_same)) (dpa_mono f.g0 _ _ (dpa_app ha ha2)))
    · cases hf
  · cases hf
/-- list + list as a new list that one may write to -/
def fAddL : D → D → Rs (List D)
  | .list xs, .list ys => if xs.length + ys.length ≤ big then .ok (xs ++ ys) else .stk
  | _, _ => .stk
theorem o_addL : O2L K (rAdd3 K) fAddL := by
  refine ⟨fun G H x y d e z gh h1 h2 hf Q q => ?_⟩
  unfold fAddL at hf
  split at hf
  · rename_i ds es
    split at hf
    · rename_i hz
      cases hf
      cases h1 with
      | @lst a xs _ hs ha =>
        cases h2 with
        | @lst b ys _ hs2 ha2 =>
          refine .inr (.inr ⟨a, b, xs, ys, rfl, rfl, gh.seq hs, gh.seq hs2, by rw [dpa_len ha, dpa_len ha2]; exact big_line hz, fun p hp => ?_⟩)
          exact q p (xs ++ ys) G _ (gf0_new gh hp) hp (Same.free gh hp) upd_same (dpa_app ha ha2)
    · cases hf
  · cases hf
end
end Mir
end

section
set_option Elab.async false
set_option linter.all false
set_option maxRecDepth 100000
set_option maxHeartbeats 4000000
/-! Mir7: subscripts, slices, calls of builtins. -/
namespace Mir
open PySem PySem.Spec PyProof.Rows L2

section
variable {K : PySem.W.Frag} {mg : Str → Option Value} {E : L2.St → XK} {F : Fm} {σ : L2.St} {G G' H H' : Hp} {en : En}
/-! ### a[i] -/
def fIx (d e : D) : Rs D := match seqD d, e with
  | some ds, .int i => match atI ds i with
    | some z => .ok z
    | none => .stk
  | _, _ => .stk
theorem dpa_atI {xs : List V} {ds : List D} {i : Int} {z : D} (h : DpAll K G xs ds) (e : atI ds i = some z) : ∃ v, atI xs i = some v ∧ Dp K G v z := by
  unfold atI at e ⊢
  rw [dpa_len h]
  cases q : ixN ds.length i with
  | none => rw [q] at e; cases e
  | some j =>
    rw [q] at e
    exact dpa_get h e
theorem o_ix : O2 K (rIx K) fIx := by
  refine ⟨fun G H x y d e z gh h1 h2 hf Q q => ?_⟩
  unfold fIx at hf
  split at hf
  · rename_i ds i hd
    split at hf
    · rename_i z' hz
      cases hf
      cases h2
      obtain ⟨a, xs, rfl, hs, ha⟩ := seqD_dp gh h1 hd
      obtain ⟨v, hv, dv⟩ := dpa_atI ha hz
      rcases hs with hs | hs
      · exact .inl ⟨a, xs, i, v, rfl, rfl, hs, hv, q v G H (gf_id gh) dv⟩
      · exact .inr (.inl ⟨a, xs, i, v, rfl, rfl, hs, hv, q v G H (gf_id gh) dv⟩)
    · cases hf
  · cases hf

/-! ### a[lo:hi] -/
abbrev Om := En → Rs (Option Int × En)
def PoO (K : PySem.W.Frag) (mg : Str → Option Value) (E : XK) (F : Fm) (σ : L2.St) (G : Hp) (Q : Option Int → Hp → Prop) : Rs (Option Int × En) → Prop
  | .ok (o, en') => ∀ G' H', Gd K F G' H' σ en' → Same G G' → Q o H'
  | .err c fs => ∀ cls dx H', ErrAt K mg F c fs cls dx H' → E cls dx H'
  | .stk => False
structure SO (K : PySem.W.Frag) (mg : Str → Option Value) (E : L2.St → XK) (to : TO) (m : Om) : Prop where
  run : ∀ F σ en G H Q, Gd K F G H σ en → PoO K mg (E σ) F σ G Q (m en) → to σ H Q
def oNone : Om := fun en => .ok (none, en)
def oSome (m : Em) : Om := fun en => (m en).bind fun p => match p.1 with
  | .int i => .ok (some i, p.2)
  | _ => .stk
theorem poO_err {Q : Option Int → Hp → Prop} (c fs) (h : PoO K mg (E σ) F σ G Q (.err c fs)) : ∀ cls dx H', ErrAt K mg F c fs cls dx H' → E σ cls dx H' := h
theorem so_none : SO K mg E tNoPart oNone := ⟨fun F σ en G H Q g h => h G H g (Same.refl _)⟩
theorem so_some {te : TE} {m : Em} (h1 : SE K mg E te m) : SO K mg E (tPart te) (oSome m) := by
  refine ⟨fun F σ en G H Q g h => ?_⟩
  show te σ H _
  refine se_bind h1 g poO_err id h fun d en1 v G1 H1 p1 g1 s1 d1 => ?_
  split at p1
  · rename_i i e
    have e' : d = .int i := e
    subst e'
    cases d1
    exact ⟨i, rfl, p1 G1 H1 g1 s1⟩
  · exact p1.elim
theorem so_bind {to : TO} {m : Om} {Q : Option Int → Hp → Prop} {B : Type} {P : Rs B → Prop} {f : Option Int × En → Rs B} (h : SO K mg E to m) (g : Gd K F G H σ en) (he : ∀ c fs, P (.err c fs) → ∀ cls dx H', ErrAt K mg F c fs cls dx H' → E σ cls dx H') (hs : ¬ P .stk)
    (p : P ((m en).bind f)) (k : ∀ o en' G' H', P (f (o, en')) → Gd K F G' H' σ en' → Same G G' → Q o H') : to σ H Q := by
  refine h.run F σ en G H Q g ?_
  cases q : m en with
  | ok a =>
    obtain ⟨d, en'⟩ := a
    rw [q] at p
    exact fun G' H' g' s' => k d en' G' H' p g' s'
  | err c fs =>
    rw [q] at p
    exact he c fs p
  | stk =>
    rw [q] at p
    exact hs p
def cutD (xs : List D) (lo hi : Option Int) : List D := (xs.drop (HT.sIx xs.length 0 lo)).take (HT.sIx xs.length xs.length hi - HT.sIx xs.length 0 lo)
theorem dpa_cut {xs : List V} {ds : List D} (lo hi : Option Int) (h : DpAll K G xs ds) : DpAll K G (cutV xs lo hi) (cutD ds lo hi) := by
  unfold cutV cutD
  rw [dpa_len h]
  exact dpa_take _ (dpa_drop _ h)
def rSl2 (K : PySem.W.Frag) : V → Option Int → Option Int → Hp → VK → Prop := fun x lo hi H Q => rSlL K x lo hi H Q ∨ rSlA K x lo hi H Q
theorem slr_2 {X : Cx} : SlR X (rSl2 X.K) := sl_list.or sl_tupA
def eSl (a : Em) (lo hi : Om) : Em := fun en => (a en).bind fun p => (lo p.2).bind fun q => (hi q.2).bind fun r => match p.1 with
  | .list ds => .ok (.list (cutD ds q.1 r.1), r.2)
  | .tuple ds => .ok (.tuple (cutD ds q.1 r.1), r.2)
  | _ => .stk
theorem cut_whole {xs : List V} {lo hi : Option Int} (h : HT.sIx xs.length 0 lo = 0 ∧ HT.sIx xs.length xs.length hi = xs.length) : cutV xs lo hi = xs := by
  unfold cutV
  rw [h.1, h.2]
  simp
theorem se_sl {te : TE} {tl th : TO} {a : Em} {lo hi : Om} (h1 : SE K mg E te a) (h2 : SO K mg E tl lo) (h3 : SO K mg E th hi) : SE K mg E (tSl (rSl2 K) te tl th) (eSl a lo hi) := by
  refine ⟨fun F σ en G H Q g h => ?_⟩
  show te σ H _
  refine se_bind h1 g poE_err id h fun d en1 v G1 H1 p1 g1 s1 d1 => ?_
  refine so_bind h2 g1 poE_err id p1 fun o en2 G2 H2 p2 g2 s2 => ?_
  refine so_bind h3 g2 poE_err id p2 fun o' en3 G3 H3 p3 g3 s3 => ?_
  have d3 := dp_mono (s2.trans s3) _ _ d1
  have s0 := (s1.trans s2).trans s3
  split at p3
  · rename_i ds e
    have e' : d = .list ds := e
    subst e'
    cases d3 with
    | @lst b xs _ hs ha =>
      refine .inl ⟨b, xs, rfl, g3.gf.gh.seq hs, fun p hp => ?_⟩
      have f := gf0_newG (o := .lst (cutV xs o o')) g3.gf.gh hp
      exact p3 (.ref p) _ _ (g3.grow f) (s0.trans f.g0) (.lst (.inl (.inl upd_same)) (dpa_mono f.g0 _ _ (dpa_cut _ _ ha)))
  · rename_i ds e
    have e' : d = .tuple ds := e
    subst e'
    cases d3 with
    | @tup b xs _ hs ha =>
      refine .inr ⟨b, xs, rfl, seqT_mono g3.gf.gh hs, fun w => ?_, fun w p hp => ?_⟩
      · refine p3 (.ref b) G3 H3 g3 s0 (.tup hs ?_)
        have := dpa_cut o o' ha
        rw [cut_whole w] at this
        exact this
      · have f := gf0_newG (o := .tup (cutV xs o o')) g3.gf.gh hp
        exact p3 (.ref p) _ _ (g3.grow f) (s0.trans f.g0) (.tup (.inl (.inl upd_same)) (dpa_mono f.g0 _ _ (dpa_cut _ _ ha)))
  · exact p3.elim

/-! ### len, tuple, list, sum, any, all, abs, int -/
def fLen : List D → Rs D
  | [d] => match seqD d with
    | some ds => .ok (.int ds.length)
    | none => .stk
  | _ => .stk
theorem dpa1 {vs : List V} {d : D} (h : DpAll K G vs [d]) : ∃ v, vs = [v] ∧ Dp K G v d := by
  cases h with
  | cons a b => cases b; exact ⟨_, rfl, a⟩
theorem dpa2 {vs : List V} {d e : D} (h : DpAll K G vs [d, e]) : ∃ v w, vs = [v, w] ∧ Dp K G v d ∧ Dp K G w e := by
  cases h with
  | cons a b =>
    obtain ⟨w, rfl, h2⟩ := dpa1 b
    exact ⟨_, w, rfl, a, h2⟩
theorem o_len : ON K (fun xs H Q => ∃ p ys, xs = [.ref p] ∧ (SqL K H p ys ∨ SqT K H p ys) ∧ Q (.int ys.length) H) fLen := by
  refine ⟨fun G H xs ds z gh h1 hf Q q => ?_⟩
  unfold fLen at hf
  split at hf
  · split at hf
    · rename_i ds hd
      cases hf
      obtain ⟨v, rfl, h2⟩ := dpa1 h1
      obtain ⟨a, xs, rfl, hs, ha⟩ := seqD_dp gh h2 hd
      refine ⟨a, xs, rfl, hs, ?_⟩
      rw [dpa_len ha]
      exact q _ G H (gf_id gh) (.int _)
    · cases hf
  · cases hf
def fTuple : List D → Rs D
  | [.list ds] => .ok (.tuple ds)
  | [.tuple ds] => .ok (.tuple ds)
  | _ => .stk
theorem o_tuple : ON K (fun xs H Q => ∃ p ys, xs = [.ref p] ∧ ((SqL K H p ys ∧ ∀ l, H l = none → Q (.ref l) (upd H l (.tup ys))) ∨ (SqT K H p ys ∧ Q (.ref p) H))) fTuple := by
  refine ⟨fun G H xs ds z gh h1 hf Q q => ?_⟩
  unfold fTuple at hf
  split at hf
  · cases hf
    obtain ⟨v, rfl, h2⟩ := dpa1 h1
    cases h2 with
    | @lst a ys _ hs ha =>
      refine ⟨a, ys, rfl, .inl ⟨gh.seq hs, fun p hp => ?_⟩⟩
      have f := gf0_newG (o := .tup ys) gh hp
      exact q (.ref p) _ _ f (.tup (.inl (.inl upd_same)) (dpa_mono f.g0 _ _ ha))
  · cases hf
    obtain ⟨v, rfl, h2⟩ := dpa1 h1
    cases h2 with
    | @tup a ys _ hs ha => exact ⟨a, ys, rfl, .inr ⟨seqT_mono gh hs, q (.ref a) G H (gf_id gh) (.tup hs ha)⟩⟩
  · cases hf
def fList : List D → Rs (List D)
  | [d] => match seqD d with
    | some ds => .ok ds
    | none => .stk
  | _ => .stk
theorem o_list : OL K (fun xs H Q => ∃ p ys, xs = [.ref p] ∧ (SqL K H p ys ∨ SqT K H p ys) ∧ ∀ l, H l = none → Q (.ref l) (upd H l (.lst ys))) fList := by
  refine ⟨fun G H xs ds zs gh h1 hf Q q => ?_⟩
  unfold fList at hf
  split at hf
  · split at hf
    · rename_i ds hd
      cases hf
      obtain ⟨v, rfl, h2⟩ := dpa1 h1
      obtain ⟨a, ys, rfl, hs, ha⟩ := seqD_dp gh h2 hd
      exact ⟨a, ys, rfl, hs, fun p hp => q p ys G _ (gf0_new gh hp) hp (Same.free gh hp) upd_same ha⟩
    · cases hf
  · cases hf
def intsOf : List D → Option (List Int)
  | [] => some []
  | .int i :: r => (intsOf r).map (i :: ·)
  | _ :: _ => none
theorem intsOf_is : ∀ {ds : List D} {ns : List Int}, intsOf ds = some ns → ds = ns.map PyData.int
  | [], _, h => by cases h; rfl
  | d :: r, ns, h => by
    cases d with
    | int i =>
      simp only [intsOf, Option.map_eq_some_iff] at h
      obtain ⟨ms, h1, rfl⟩ := h
      rw [intsOf_is h1]
      rfl
    | _ => cases h
@[simp] theorem intsOf_map : ∀ ns : List Int, intsOf (ns.map PyData.int) = some ns
  | [] => rfl
  | n :: ns => by simp [intsOf, intsOf_map ns]
def boolsOf : List D → Option (List Bool)
  | [] => some []
  | .bool i :: r => (boolsOf r).map (i :: ·)
  | _ :: _ => none
theorem boolsOf_is : ∀ {ds : List D} {ns : List Bool}, boolsOf ds = some ns → ds = ns.map PyData.bool
  | [], _, h => by cases h; rfl
  | d :: r, ns, h => by
    cases d with
    | bool i =>
      simp only [boolsOf, Option.map_eq_some_iff] at h
      obtain ⟨ms, h1, rfl⟩ := h
      rw [boolsOf_is h1]
      rfl
    | _ => cases h
@[simp] theorem boolsOf_map : ∀ ns : List Bool, boolsOf (ns.map PyData.bool) = some ns
  | [] => rfl
  | n :: ns => by simp [boolsOf, boolsOf_map ns]
def fSum : List D → Rs D
  | [.list ds] => match intsOf ds with
    | some ns => .ok (.int ns.sum)
    | none => .stk
  | _ => .stk
theorem o_sum : ON K (rSum K) fSum := by
  refine ⟨fun G H xs ds z gh h1 hf Q q => ?_⟩
  unfold fSum at hf
  split at hf
  · split at hf
    · rename_i ds ns hn
      cases hf
      obtain ⟨v, rfl, h2⟩ := dpa1 h1
      cases h2 with
      | @lst a ys _ hs ha =>
        have e := intsOf_is hn
        subst e
        have e2 := dpa_ints ha
        subst e2
        exact ⟨a, ns, rfl, gh.seq hs, q _ G H (gf_id gh) (.int _)⟩
    · cases hf
  · cases hf
def fAny : List D → Rs D
  | [.list ds] => match boolsOf ds with
    | some bs => .ok (.bool (bs.any id))
    | none => .stk
  | _ => .stk
def fAll : List D → Rs D
  | [.list ds] => match boolsOf ds with
    | some bs => .ok (.bool (bs.all id))
    | none => .stk
  | _ => .stk
theorem o_any : ON K (rAny K) fAny := by
  refine ⟨fun G H xs ds z gh h1 hf Q q => ?_⟩
  unfold fAny at hf
  split at hf
  · split at hf
    · rename_i ds ns hn
      cases hf
      obtain ⟨v, rfl, h2⟩ := dpa1 h1
      cases h2 with
      | @lst a ys _ hs ha =>
        have e := boolsOf_is hn
        subst e
        have e2 := dpa_bools ha
        subst e2
        exact ⟨a, ns, rfl, gh.seq hs, q _ G H (gf_id gh) (.bl _)⟩
    · cases hf
  · cases hf
theorem o_all : ON K (rAll K) fAll := by
  refine ⟨fun G H xs ds z gh h1 hf Q q => ?_⟩
  unfold fAll at hf
  split at hf
  · split at hf
    · rename_i ds ns hn
      cases hf
      obtain ⟨v, rfl, h2⟩ := dpa1 h1
      cases h2 with
      | @lst a ys _ hs ha =>
        have e := boolsOf_is hn
        subst e
        have e2 := dpa_bools ha
        subst e2
        exact ⟨a, ns, rfl, gh.seq hs, q _ G H (gf_id gh) (.bl _)⟩
    · cases hf
  · cases hf
def fAbs : List D → Rs D
  | [.int i] => .ok (.int (if i < 0 then -i else i))
  | _ => .stk
theorem o_abs : ON K (fun xs H Q => ∃ i, xs = [.int i] ∧ Q (.int (if i < 0 then -i else i)) H) fAbs := by
  refine ⟨fun G H xs ds z gh h1 hf Q q => ?_⟩
  unfold fAbs at hf
  split at hf
  · cases hf
    obtain ⟨v, rfl, h2⟩ := dpa1 h1
    cases h2
    exact ⟨_, rfl, q _ G H (gf_id gh) (.int _)⟩
  · cases hf
def fInt : List D → Rs D
  | [.int i] => .ok (.int i)
  | [.bool b] => .ok (.int (if b then 1 else 0))
  | _ => .stk
theorem o_int : ON K (fun xs H Q => (∃ i, xs = [.int i] ∧ Q (.int i) H) ∨ ∃ k, xs = [.bl k] ∧ Q (.int (if k then 1 else 0)) H) fInt := by
  refine ⟨fun G H xs ds z gh h1 hf Q q => ?_⟩
  unfold fInt at hf
  split at hf
  · cases hf
    obtain ⟨v, rfl, h2⟩ := dpa1 h1
    cases h2
    exact .inl ⟨_, rfl, q _ G H (gf_id gh) (.int _)⟩
  · cases hf
    obtain ⟨v, rfl, h2⟩ := dpa1 h1
    cases h2
    exact .inr ⟨_, rfl, q _ G H (gf_id gh) (.int _)⟩
  · cases hf
def fMax2 : List D → Rs D
  | [.int i, .int j] => .ok (.int (if j > i then j else i))
  | _ => .stk
def fMin2 : List D → Rs D
  | [.int i, .int j] => .ok (.int (if j < i then j else i))
  | _ => .stk
theorem o_max2 : ON K (fun xs H Q => ∃ i j, xs = [.int i, .int j] ∧ Q (.int (if j > i then j else i)) H) fMax2 := by
  refine ⟨fun G H xs ds z gh h1 hf Q q => ?_⟩
  unfold fMax2 at hf
  split at hf
  · cases hf
    obtain ⟨v, w, rfl, h2, h3⟩ := dpa2 h1
    cases h2
    cases h3
    exact ⟨_, _, rfl, q _ G H (gf_id gh) (.int _)⟩
  · cases hf
theorem o_min2 : ON K (fun xs H Q => ∃ i j, xs = [.int i, .int j] ∧ Q (.int (if j < i then j else i)) H) fMin2 := by
  refine ⟨fun G H xs ds z gh h1 hf Q q => ?_⟩
  unfold fMin2 at hf
  split at hf
  · cases hf
    obtain ⟨v, w, rfl, h2, h3⟩ := dpa2 h1
    cases h2
    cases h3
    exact ⟨_, _, rfl, q _ G H (gf_id gh) (.int _)⟩
  · cases hf

/-! ### isinstance -/
inductive Ty | int | bool | tup | lst | str
def Ty.nm : Ty → String
  | .int => "int"
  | .bool => "bool"
  | .tup => "tuple"
  | .lst => "list"
  | .str => "str"
def isi : Ty → D → Bool
  | .int, .int _ => true
  | .int, .bool _ => true
  | .bool, .bool _ => true
  | .tup, .tuple _ => true
  | .lst, .list _ => true
  | .str, .str _ => true
  | _, _ => false
def tyD : D → String
  | .none => "NoneType"
  | .bool _ => "bool"
  | .int _ => "int"
  | .str _ => "str"
  | .list _ => "list"
  | .tuple _ => "tuple"
  | .dict _ => "dict"
theorem tyX_dp {v : V} {d : D} (h : Dp K H v d) : TyX K H v (.type (tyD d)) := by
  cases h with
  | non => exact .base .non
  | bl b => exact .base (.bl b)
  | int i => exact .base (.int i)
  | str x => exact .base (.str x)
  | lst hs _ =>
    rcases hs with hs | ⟨o, its, n, hk, hc, _⟩
    · rcases hs with hs | ⟨o, hs⟩
      · exact .base (.lst hs)
      · exact .base (.frz hs)
    · exact .kList hk hc
  | tup hs _ =>
    rcases hs with hs | ⟨o, its, n, hk, hc, _⟩
    · rcases hs with hs | ⟨o, hs⟩
      · exact .base (.tup hs)
      · exact .fTuple hs
    · exact .kTuple hk hc
theorem kit_non (t : Ty) : kitB "NoneType" t.nm = some (isi t .none) := by cases t <;> decide +kernel
theorem kit_bool (t : Ty) : kitB "bool" t.nm = some (isi t (.bool true)) := by cases t <;> decide +kernel
theorem kit_int (t : Ty) : kitB "int" t.nm = some (isi t (.int 0)) := by cases t <;> decide +kernel
theorem kit_str (t : Ty) : kitB "str" t.nm = some (isi t (.str Str.empty)) := by cases t <;> decide +kernel
theorem kit_list (t : Ty) : kitB "list" t.nm = some (isi t (.list [])) := by cases t <;> decide +kernel
theorem kit_tuple (t : Ty) : kitB "tuple" t.nm = some (isi t (.tuple [])) := by cases t <;> decide +kernel
theorem kit_dp {v : V} {d : D} (h : Dp K H v d) (t : Ty) : PySem.W.kitOne K (.type (tyD d)) (.type t.nm) = some (isi t d) := by
  refine kit_ty ?_
  cases h with
  | non => exact kit_non t
  | bl b => exact (kit_bool t).trans (by cases t <;> rfl)
  | int i => exact (kit_int t).trans (by cases t <;> rfl)
  | str x => exact (kit_str t).trans (by cases t <;> rfl)
  | lst _ _ => exact (kit_list t).trans (by cases t <;> rfl)
  | tup _ _ => exact (kit_tuple t).trans (by cases t <;> rfl)
def eIsi (t : Ty) (m : Em) : Em := fun en => (m en).bind fun p => .ok (.bool (isi t p.1), p.2)
theorem se_isi {te : TE} {m : Em} (t : Ty) (h1 : SE K mg E te m) : SE K mg E (tCB (rIsi K) (tCons te (tCons (tC (.ty t.nm)) tNil))) (eIsi t m) := by
  refine ⟨fun F σ en G H Q g h => ?_⟩
  show te σ H _
  refine se_bind h1 g poE_err id h fun d en1 v G1 H1 p1 g1 s1 d1 => ?_
  have dH := dp_mono g1.gf.gh _ _ d1
  exact ⟨v, .ty t.nm, _, _, _, rfl, .ty _, tyX_dp dH, kit_dp dH t, p1 _ G1 H1 g1 s1 (.bl _)⟩

/-! ### repr -/
def okRepr (d : D) : Bool := d.showable && !d.hasDict && decide (d.depth ≤ 60) && decide (d.shown.length ≤ 1000000)
def fRepr : List D → Rs D
  | [d] => if okRepr d = true then .ok (.str d.shown) else .stk
  | _ => .stk
theorem o_repr : ON K (rDN K fRepr) fRepr := oN_D fun ds z h => by
  unfold fRepr at h
  split at h
  · split at h
    · cases h; rfl
    · cases h
  · cases h
/-- tuple(range(..)), list(range(..)) as data -/
def okRg (a b : Int) : Bool := decide (-1000000 ≤ a) && decide (b ≤ 1000000) && decide (a ≤ 1000000) && decide (-1000000 ≤ b)
theorem rgOk {a b : Int} (h : okRg a b = true) : RgOk a b := by
  unfold okRg at h
  simp only [Bool.and_eq_true, decide_eq_true_eq] at h
  refine ⟨by omega, by omega, by omega, by omega, by omega⟩
def rgD (a b : Int) : List D := (List.range (b - a).toNat).map fun i => PyData.int (a + (i : Nat))
theorem dpa_rg (a b : Int) : DpAll K G (rgV a b) (rgD a b) := by
  have e1 : rgV a b = ((List.range (b - a).toNat).map fun i => (a + (i : Nat) : Int)).map V.int := by simp [rgV, List.map_map, Function.comp_def]
  have e2 : rgD a b = ((List.range (b - a).toNat).map fun i => (a + (i : Nat) : Int)).map PyData.int := by simp [rgD, List.map_map, Function.comp_def]
  rw [e1, e2]
  exact dpa_of_ints _
def eTupR1 (m : Em) : Em := fun en => (m en).bind fun p => match p.1 with
  | .int n => if okRg 0 n = true then .ok (.tuple (rgD 0 n), p.2) else .stk
  | _ => .stk
theorem se_tupR1 {te : TE} {m : Em} (h1 : SE K mg E te m) : SE K mg E (tTupRg (tRg1 te)) (eTupR1 m) := by
  refine ⟨fun F σ en G H Q g h => ?_⟩
  show te σ H _
  refine se_bind h1 g poE_err id h fun d en1 v G1 H1 p1 g1 s1 d1 => ?_
  split at p1
  · rename_i n e
    have e' : d = .int n := e
    subst e'
    split at p1
    · rename_i hr
      cases d1
      refine ⟨n, rfl, rgOk hr, fun p hp => ?_⟩
      have f := gf0_newG (o := .tup (rgV 0 n)) g1.gf.gh hp
      exact p1 (.ref p) _ _ (g1.grow f) (s1.trans f.g0) (.tup (.inl (.inl upd_same)) (dpa_rg 0 n))
    · exact p1.elim
  · exact p1.elim
def lLstR1 (m : Em) : Am := fun en => (m en).bind fun p => match p.1 with
  | .int n => if okRg 0 n = true then .ok (rgD 0 n, p.2) else .stk
  | _ => .stk
theorem sl_lstR1 {te : TE} {m : Em} (h1 : SE K mg E te m) : SL K mg E (tLstRg (tRg1 te)) (lLstR1 m) := by
  refine ⟨fun F σ en G H Q g h => ?_⟩
  show te σ H _
  refine se_bind h1 g poL_err id h fun d en1 v G1 H1 p1 g1 s1 d1 => ?_
  split at p1
  · rename_i n e
    have e' : d = .int n := e
    subst e'
    split at p1
    · rename_i hr
      cases d1
      refine ⟨n, rfl, rgOk hr, fun p hp => ?_⟩
      have f := gf0_new (o := .lst (rgV 0 n)) g1.gf.gh hp
      exact p1 p (rgV 0 n) G1 _ (g1.grow f) s1 (Same.free g1.gf.gh hp) upd_same (dpa_rg 0 n) (h0_new g1 hp) (free_new g1 hp f)
    · exact p1.elim
  · exact p1.elim
end
section
variable {X : Cx}
theorem call_reprG (hgd : X.A.guards = some []) (hu : X.A.units + 65 < cLine) : CallR X (.builtin "repr") (rDN X.K fRepr) := by
  intro pins s σ H xs us Q I r h
  obtain ⟨ds, z, w, hd, hf, hw, q⟩ := h
  unfold fRepr at hf
  split at hf
  · rename_i d
    split at hf
    · rename_i c
      cases hf
      cases hw
      unfold okRepr at c
      simp only [Bool.and_eq_true, decide_eq_true_eq, Bool.not_eq_true'] at c
      obtain ⟨⟨⟨c1, c2⟩, c3⟩, c4⟩ := c
      obtain ⟨v, rfl, h2⟩ := dpa1 hd
      obtain ⟨u, rfl, ru⟩ := vals1 r
      have hz : d.shown.length ≤ sizeLine := Nat.le_trans c4 (by decide)
      cases d with
      | none =>
        cases h2
        cases (show u = Value.none from ru)
        exact PySem.P.repr_of_none ⟨.str _, H, I.tok _, ⟨_, rfl⟩, q⟩
      | bool b =>
        cases h2
        cases (show u = Value.bool b from ru)
        exact PySem.P.repr_of_bool ⟨.str _, H, I.tok _, ⟨_, rfl⟩, q⟩
      | int i =>
        cases h2
        obtain ⟨t, rfl⟩ := (show ∃ t, u = Value.int i t from ru)
        exact PySem.P.repr_of_int (of_decide_eq_true c1) ⟨.str _, H, I.tok _, ⟨_, rfl⟩, q⟩
      | str x =>
        cases h2
        obtain ⟨t, rfl⟩ := (show ∃ t, u = Value.str x t from ru)
        exact PySem.P.repr_of_str ⟨.str _, H, I.tok _, ⟨_, rfl⟩, q⟩ hz
      | list es =>
        obtain ⟨as, rd⟩ := Dp.reads I _ v u h2 ru
        cases h2 with
        | @lst a _ _ _ _ =>
          cases (show u = Value.ref a from ru)
          exact repr_of_reads' rd c1 (PyData.noDict_hsm c2) hgd (by omega) (fun _ _ e => e) (fun h' u' tk hk => ⟨.str _, H, I.kept hk, ⟨_, rfl⟩, q⟩) hz
      | tuple es =>
        obtain ⟨as, rd⟩ := Dp.reads I _ v u h2 ru
        cases h2 with
        | @tup a _ _ _ _ =>
          cases (show u = Value.ref a from ru)
          exact repr_of_reads' rd c1 (PyData.noDict_hsm c2) hgd (by omega) (fun _ _ e => e) (fun h' u' tk hk => ⟨.str _, H, I.kept hk, ⟨_, rfl⟩, q⟩) hz
      | dict es => cases h2
    · cases hf
  · cases hf
end
end Mir
end

section
set_option Elab.async false
set_option linter.all false
set_option maxRecDepth 100000
set_option maxHeartbeats 4000000
/-! Mir8: sorted(list of data), the empty tuple among tuples too. -/
namespace Mir
open PySem PySem.Spec PyProof.Rows L2
open PySem.W (EachIs SortsAt AllAlike Sortable dataKind dataKind_inv dataKind_some alike alikeAll dataLt)

section
variable {prog : Program} {w : World} {A : Around} {E : Value → Shared → Prop} {s : Shared}
def FirstAt (h : Heap) (v : Value) (f : Option Value) : Prop := ∃ a o xs n, v = .ref a ∧ h.get? a = some o ∧ o.cls = .type "tuple" ∧ o.data = .seq xs n ∧ f = xs[0]?
theorem firsts_go {M : Model} : ∀ (vs : List Value) (fs : List (Option Value)) {Q : List (Option Value) → Shared → Prop}, EachIs (FirstAt s.heap) vs fs → Q fs s → wpAny M A (vs.mapM firstOfTuple') Q E s
  | _, _, _, .nil, h => by
    rw [List.mapM_nil]
    exact wpAny_pure h
  | _, _, Q, .cons (as := vs) (bs := fs) hx t, h => by
    obtain ⟨a, o, xs, n, rfl, ho, hc, hd, rfl⟩ := hx
    rw [List.mapM_cons]
    refine wpAny_bind ?_
    rw [PySem.W.kas_first_eq]
    have lk : PySem.W.Looks M s.heap (typeOf (.ref a)) o.cls := (PySem.W.Looks.ld ho).andThen .now
    refine wpAny_bind (PySem.W.Looks.here lk ?_)
    rw [hc, if_neg (by decide)]
    exact wpAny_bind (listItems_at ho hd (wpAny_pure (wpAny_bind (firsts_go vs fs (Q := fun bs s' => wpAny M A (pure (xs[0]? :: bs)) Q E s') t (wpAny_pure h)))))
theorem each_firsts {h : Heap} : ∀ {vs : List Value} {ds : List PyData}, EachIs (fun v d => ∃ as, Reads h v d as) vs ds → (∀ d, d ∈ ds → ∃ xs, d = .tuple xs) → ∃ fs, EachIs (FirstAt h) vs fs ∧ EachIs (fun (d : PyData) (f : Option Value) => f = none ↔ d = .tuple []) ds fs
  | _, _, .nil, _ => ⟨[], .nil, .nil⟩
  | _, _, .cons (b := d) ⟨as, r⟩ t, ht => by
    obtain ⟨fs, h1, h2⟩ := each_firsts t fun d hd => ht d (List.mem_cons_of_mem _ hd)
    obtain ⟨es, rfl⟩ := ht d (List.mem_cons_self ..)
    cases r with
    | @tuple a o xs n _ _ ho hc hd hr =>
      refine ⟨xs[0]? :: fs, .cons ⟨a, o, xs, n, rfl, ho, hc, hd, rfl⟩ h1, .cons ?_ h2⟩
      have hl : xs.size = es.length := by simpa using SeqAt.ReadsAll.length _ _ _ hr
      cases es with
      | nil => simp [show xs.size = 0 by simpa using hl]
      | cons x es =>
        have : 0 < xs.size := by rw [hl]; simp
        simp [this]
theorem each_all {α : Type} {R : α → Option Value → Prop} {P : α → Prop} : ∀ {as : List α} {fs : List (Option Value)}, EachIs R as fs → (∀ a f, R a f → (f = none ↔ P a)) → (∃ a ∈ as, P a) → fs.all (·.isSome) = false
  | _, _, .nil, _, ⟨_, h, _⟩ => absurd h (by simp)
  | _, _, .cons (a := a) (b := f) r t, hR, ⟨x, hx, px⟩ => by
    rcases List.mem_cons.mp hx with rfl | hx
    · have : f = none := (hR _ _ r).mpr px
      simp [this]
    · rw [List.all_cons, each_all t hR ⟨x, hx, px⟩, Bool.and_false]
theorem oneLt_tup {xs ys : List PyData} {a b : Value} {as bs : List Addr} {Q : Bool → Shared → Prop} (ra : Reads s.heap a (.tuple xs) as) (rb : Reads s.heap b (.tuple ys) bs) (h : alike (.tuple xs) (.tuple ys) = true)
    (hu : A.units + min (PyData.tuple xs).depth (PyData.tuple ys).depth < cLine) (hq : Q (dataLt (.tuple xs) (.tuple ys)) s) : wpAny (model prog w) A (oneLt' true a b) Q E s := by
  have hal : alikeAll xs ys = true := by simpa [alike] using h
  cases ra with
  | @tuple l o vs n _ as₁ h1 h2 h3 h4 =>
    cases rb with
    | @tuple l' o' vs' n' _ bs₁ k1 k2 k3 k4 =>
      have n1 : vs.size = xs.length := by simpa using SeqAt.ReadsAll.length _ _ _ h4
      have n2 : vs'.size = ys.length := by simpa using SeqAt.ReadsAll.length _ _ _ k4
      obtain ⟨cls, dd, data, sl⟩ := o
      obtain ⟨cls2, dd2, data2, sl2⟩ := o'
      simp only at h2 h3 k2 k3
      subst h2 h3 k2 k3
      rw [PySem.W.dataLt_tuple, ← PySem.W.firstLt_toks xs ys hal, ← n1, ← n2] at hq
      rw [oneLt'_eq]
      simp only [if_true]
      refine wpAny_bind (wpAny_cRoomFor (SeqAt.room_here hu) ?_)
      refine wpAny_bind (wpAny_callSpecialIfBound?_slot (T := "tuple") ⟨_, h1, rfl⟩ F.slot_tuple_lt (call_meets F.slot_tuple_lt ⟨_, h1, rfl⟩ F.entry_tuple_lt (F.args_tuple_lt_2 _ _)
        (SeqAt.tuple_ltAt l l' vs vs' n n' dd dd2 sl sl2 (SeqAt.pairEq xs ys) (fun j => dataLt (xs.getD j .none) (ys.getD j .none))) ⟨h1, k1, fun j j1 j2 => ?_, fun j j1 j2 hj => ?_, ?_⟩))
      · have := PySem.W.eqAt_alikeAll xs ys A.in1 s vs.toList vs'.toList _ _ h4 k4 hal (SeqAt.room_in hu) j (by simpa using j1) (by simpa using j2)
        simpa using this
      · have := PySem.W.rcLt_alikeAll xs ys A.in1 s vs.toList vs'.toList _ _ h4 k4 hal (SeqAt.room_in hu) j (by simpa using j1) (by simpa using j2) hj
        simpa using this
      · exact wpAny_truthy_bool hq
theorem sorts_mixed {vs : List Value} {ds : List PyData} (e : EachIs (fun v d => ∃ as, Reads s.heap v d as) vs ds) (hal : AllAlike ds) (ht : ∀ d, d ∈ ds → ∃ xs, d = .tuple xs) (hm : PyData.tuple [] ∈ ds)
    (hu : ∀ d, d ∈ ds → A.units + d.depth < cLine) : SortsAt prog w A s (dataKind s.heap ds) vs := by
  have room : ∀ {d d' : PyData}, d ∈ ds → A.units + min d.depth d'.depth < cLine := fun {d d'} hd => Nat.lt_of_le_of_lt (Nat.add_le_add_left (Nat.min_le_left _ _) _) (hu d hd)
  refine ⟨fun v hv => ?_, ?_⟩
  · obtain ⟨d, hd, as, r⟩ := e.left v hv
    exact ⟨_, dataKind_some hal hd r⟩
  · obtain ⟨fs, f1, f2⟩ := each_firsts e ht
    have hall : fs.all (·.isSome) = false := each_all (P := fun d => d = PyData.tuple []) f2 (fun _ _ h => h) ⟨_, hm, rfl⟩
    cases f2 with
    | nil => exact absurd hm (by simp)
    | @cons d0 f0 ds0 fs0 p0 pt =>
      cases f0 with
      | some f =>
        refine ⟨general', fun E x y a b Q ha hb hq => ?_, fun h2 E Q hq => ?_⟩
        · obtain ⟨d, as, hd, ra, rfl⟩ := dataKind_inv ha
          obtain ⟨d', as', hd', rb, rfl⟩ := dataKind_inv hb
          show wpAny _ _ (oneLt' false x y) Q E s
          refine PySem.W.oneLt_alike (fun z => absurd z (by decide)) ra rb (hal d hd d' hd') ?_ (room hd) hq
          obtain ⟨xs, rfl⟩ := ht d hd
          exact nofun
        · rw [keyKind'_eq, List.mapM_toArray, map_eq_pure_bind]
          refine wpAny_bind (wpAny_bind (firsts_go vs _ f1 (wpAny_pure ?_)))
          rw [if_neg (by rw [List.all_toArray, hall]; exact Bool.false_ne_true), if_pos (by simp)]
          exact wpAny_pure hq
      | none =>
        refine ⟨oneType', fun E x y a b Q ha hb hq => ?_, fun h2 E Q hq => ?_⟩
        · obtain ⟨d, as, hd, ra, rfl⟩ := dataKind_inv ha
          obtain ⟨d', as', hd', rb, rfl⟩ := dataKind_inv hb
          rw [keyLt'_oneType]
          obtain ⟨xs, rfl⟩ := ht d hd
          obtain ⟨ys, rfl⟩ := ht d' hd'
          exact oneLt_tup ra rb (hal _ hd _ hd') (room hd) hq
        · rw [keyKind'_eq, List.mapM_toArray, map_eq_pure_bind]
          refine wpAny_bind (wpAny_bind (firsts_go vs _ f1 (wpAny_pure ?_)))
          rw [if_neg (by rw [List.all_toArray, hall]; exact Bool.false_ne_true), if_neg (by simp)]
          rw [oneTypeOnly'_eq, List.mapM_toArray, map_eq_pure_bind]
          have hT : ∀ v ∈ vs, PySem.W.Looks (model prog w) s.heap (typeOf v) (Value.type "tuple") := fun v hv => by
            obtain ⟨d, hd, as, r⟩ := e.left v hv
            obtain ⟨xs, rfl⟩ := ht d hd
            exact PySem.W.looks_reads r
          refine wpAny_bind (wpAny_bind (wpAny_bind (PySem.W.kas_mapM (r := Value.type "tuple") _ (fun v hv Q' hq => (hT v hv).here hq) (wpAny_pure ?_))))
          obtain ⟨v1, vr, rfl⟩ : ∃ v1 vr, vs = v1 :: vr := by
            cases vs with
            | nil => exact absurd h2 (by simp)
            | cons a b => exact ⟨a, b, rfl⟩
          have hall2 : ((List.map (fun _ => Value.type "tuple") (v1 :: vr)).toArray.all fun x => x == Value.type "tuple") = true := by
            simp only [List.all_toArray, List.all_map, List.all_eq_true]
            intro _ _
            rfl
          have h0 : (List.map (fun _ => Value.type "tuple") (v1 :: vr)).toArray[0]? = some (Value.type "tuple") := by simp
          rw [h0]
          simp only [hall2, if_true]
          exact wpAny_pure (wpAny_pure hq)
end
def isTup : D → Bool
  | .tuple _ => true
  | _ => false
def okSort (ds : List D) : Bool := ds.all (fun d => ds.all (fun e => PySem.W.alike d e)) && ds.all (fun d => notNone d && decide (d.depth ≤ 60))
def leD (a b : D) : Bool := !PySem.W.dataLt b a
def sortD (ds : List D) : List D := ds.mergeSort leD
theorem okSort_is {ds : List D} (h : okSort ds = true) : AllAlike ds ∧ ∀ d ∈ ds, d ≠ .none ∧ d.depth ≤ 60 := by
  unfold okSort at h
  rw [Bool.and_eq_true, List.all_eq_true, List.all_eq_true] at h
  refine ⟨fun d hd e he => ?_, fun d hd => ?_⟩
  · exact List.all_eq_true.mp (h.1 d hd) e he
  · have := h.2 d hd
    rw [Bool.and_eq_true] at this
    refine ⟨fun z => ?_, of_decide_eq_true this.2⟩
    rw [z] at this
    exact absurd this.1 (by decide)
theorem alike_tup {d e : D} (h : alike d e = true) (ht : isTup d = true) : isTup e = true := by
  cases d with
  | tuple xs =>
    cases e with
    | tuple ys => rfl
    | _ => exact absurd h (by simp [alike])
  | _ => exact absurd ht (by simp [isTup])
theorem sorts_any {prog : Program} {w : World} {A : Around} {s : Shared} {vs : List Value} {ds : List PyData} (e : EachIs (fun v d => ∃ as, Reads s.heap v d as) vs ds) (h : okSort ds = true) (hu : A.units + 60 < cLine) :
    SortsAt prog w A s (dataKind s.heap ds) vs := by
  obtain ⟨hal, hz⟩ := okSort_is h
  have hu' : ∀ d, d ∈ ds → A.units + d.depth < cLine := fun d hd => by have := (hz d hd).2; omega
  by_cases h1 : ∃ d ∈ ds, isTup d = true
  · obtain ⟨d0, h0, t0⟩ := h1
    have ht : ∀ d, d ∈ ds → ∃ xs, d = .tuple xs := fun d hd => by
      have := alike_tup (hal d0 h0 d hd) t0
      cases d with
      | tuple xs => exact ⟨xs, rfl⟩
      | _ => exact absurd this (by simp [isTup])
    by_cases hm : PyData.tuple [] ∈ ds
    · exact sorts_mixed e hal ht hm hu'
    · refine SortsAt.data e hal (.inl fun d hd => ?_) hu'
      obtain ⟨xs, rfl⟩ := ht d hd
      cases xs with
      | nil => exact absurd hd hm
      | cons x r => exact ⟨x, r, rfl⟩
  · refine SortsAt.data e hal (.inr fun d hd => ⟨(hz d hd).1, fun xs z => h1 ⟨d, hd, by rw [z]; rfl⟩⟩) hu'
section
variable {X : Cx}
def InZip (ys : List V) (ds : List D) (z : V) (d : D) : Prop := (z, d) ∈ ys.zip ds
def rSortD (K : PySem.W.Frag) : List V → Hp → VK → Prop := fun xs H Q => ∃ a ys ds, xs = [V.ref a] ∧ SqL K H a ys ∧ DpAll K H ys ds ∧ okSort ds = true ∧ ∀ p zs, H p = none → EachIs (InZip ys ds) zs (sortD ds) → Q (.ref p) (upd H p (.lst zs))
/-- what a value is, in the heap and abstractly -/
def Both (R : V → D → Prop) (v : Value) (d : D) : Prop := ∃ x, RelV x v ∧ R x d
theorem each_both {R : V → D → Prop} : ∀ {ys : List V} {ds : List D} {its : List Value}, EachIs R ys ds → Vals ys its → EachIs (Both R) its ds
  | _, _, _, .nil, .nil => .nil
  | _, _, _, .cons a b, .cons r t => .cons ⟨_, r, a⟩ (each_both b t)
theorem both_each {R : V → D → Prop} : ∀ {ds : List D} {its : List Value}, EachIs (Both R) its ds → ∃ zs, Vals zs its ∧ EachIs R zs ds
  | _, _, .nil => ⟨[], .nil, .nil⟩
  | _, _, .cons ⟨x, r, a⟩ t => by
    obtain ⟨zs, h1, h2⟩ := both_each t
    exact ⟨x :: zs, .cons r h1, .cons a h2⟩
theorem each_dpa {K : PySem.W.Frag} {H : Hp} {R : V → D → Prop} (hR : ∀ z d, R z d → Dp K H z d) : ∀ {zs : List V} {ds : List D}, EachIs R zs ds → DpAll K H zs ds
  | _, _, .nil => .nil
  | _, _, .cons a b => .cons (hR _ _ a) (each_dpa hR b)
theorem inZip_dp {K : PySem.W.Frag} {H : Hp} : ∀ {ys : List V} {ds : List D}, DpAll K H ys ds → ∀ z d, InZip ys ds z d → Dp K H z d
  | _, _, .nil, _, _, h => absurd h (by simp [InZip])
  | _, _, .cons a b, z, d, h => by
    unfold InZip at h
    rw [List.zip_cons_cons, List.mem_cons] at h
    rcases h with h | h
    · cases h; exact a
    · exact inZip_dp b z d h
theorem each_zip {K : PySem.W.Frag} {H : Hp} {ys : List V} {ds : List D} (h : DpAll K H ys ds) : EachIs (InZip ys ds) ys ds := EachIs.of_zip (dpa_len h) fun p hp => hp
theorem call_sortD (hu : X.A.units + 65 < cLine) : CallR X (.builtin "sorted") (rSortD X.K) := by
  intro pins s σ H xs us Q I r h
  obtain ⟨a, ys, ds, rfl, hs, hd, ok, q⟩ := h
  obtain ⟨its, rv, hl, hz⟩ := I.list hs
  obtain ⟨u, rfl, ru⟩ := vals1 r
  obtain rfl : u = Value.ref a := ru
  have eb : EachIs (Both (InZip ys ds)) its ds := each_both (each_zip hd) rv
  have er : EachIs (fun v d => ∃ as, Reads s.heap v d as) its ds := eb.mono fun v d ⟨x, rx, dx⟩ => Dp.reads I d x v (inZip_dp hd _ _ dx) rx
  have er' : EachIs (fun v d => ∃ as, Reads (PySem.W.sortingHeap (PySem.W.copyHeap s.heap its) (s.heap.objs.size + 1) its) v d as) its ds :=
    er.mono fun _ _ ⟨as, r⟩ => ⟨as, PyProof.Rows.Reads.keeps (fun _ _ => PySem.W.sorting_copy_old) r⟩
  have hL : its.length ≤ sizeLine := by rw [← rv.length]; exact hz
  have S := sorts_any (prog := X.prog) (w := X.w) (A := X.A.in1.in1) (s := { s with heap := PySem.W.sortingHeap (PySem.W.copyHeap s.heap its) (s.heap.objs.size + 1) its }) er' ok (by show X.A.units + 1 + 1 + 60 < cLine; omega)
  refine PySem.W.sorted_vals hl.isList S hL ?_
  have eo : EachIs (Both (InZip ys ds)) (PySem.W.sortVals (dataKind (PySem.W.sortingHeap (PySem.W.copyHeap s.heap its) (s.heap.objs.size + 1) its) ds) false its its) (ds.mergeSort (PySem.W.dataLe false id)) := by
    have := PySem.W.sortVals_data (enc := id) (h' := PySem.W.sortingHeap (PySem.W.copyHeap s.heap its) (s.heap.objs.size + 1) its) false eb er' (by rw [List.map_id]; exact (okSort_is ok).1)
    rw [List.map_id] at this
    exact this
  obtain ⟨zs, r1, d1⟩ := both_each eo
  have hlen : zs.length = ys.length := by
    rw [r1.length, PySem.W.sortVals_length false rfl, rv.length]
  obtain ⟨c, hc⟩ := sortedAll_at s.heap its (PySem.W.sortVals (dataKind (PySem.W.sortingHeap (PySem.W.copyHeap s.heap its) (s.heap.objs.size + 1) its) ds) false its its).toArray
  have hfree : H (s.heap.objs.size + 1) = none := I.hok.fresh (Nat.le_succ _)
  refine ⟨.ref (s.heap.objs.size + 1), upd H (s.heap.objs.size + 1) (.lst zs), I.laid (t' := s.toks) (fun b o e => sortedAll_old e) (Nat.le_succ _) ⟨by rw [hlen]; exact hz, _, c, r1, ?_⟩, rfl, q _ zs hfree ?_⟩
  · exact hc
  · exact d1
end
section
variable {K : PySem.W.Frag} {G H : Hp}
def fSorted : List D → Rs (List D)
  | [.list ds] => if okSort ds = true then .ok (sortD ds) else .stk
  | _ => .stk
theorem o_sorted : OL K (rSortD K) fSorted := by
  refine ⟨fun G H xs ds zs gh h1 hf Q q => ?_⟩
  unfold fSorted at hf
  split at hf
  · split at hf
    · rename_i es ok
      cases hf
      obtain ⟨v, rfl, h2⟩ := dpa1 h1
      cases h2 with
      | @lst a ys _ hs ha => exact ⟨a, ys, es, rfl, gh.seq hs, dpa_mono gh _ _ ha, ok, fun p zs hp hz => q p zs G _ (gf0_new gh hp) hp (Same.free gh hp) upd_same (each_dpa (inZip_dp ha) hz)⟩
    · cases hf
  · cases hf
end
end Mir
end

section
set_option Elab.async false
set_option linter.all false
set_option maxRecDepth 100000
set_option maxHeartbeats 4000000
/-! Mir9: own errors of two fields, try, calls with keywords, the source. -/
namespace Mir
open PySem PySem.Spec PyProof.Rows L2

/-! ### an own error: its class's __init__(self, f1, f2) -/
section
variable {f1 f2 : Str}
def spIni (C : Addr) (f1 f2 : Str) : Sp := fun vs H Q _ => ∃ (a : Addr) (x y : V), vs = [.ref a, x, y] ∧ H a = some (exo a C none) ∧
  ∀ d, H d = none → d ≠ a → Q .non (upd (upd (upd H d (exd d [(f1, x)])) a (exo a C (some d))) d (exd d [(f2, y), (f1, x)]))
def tIni (K : PySem.W.Frag) (f1 f2 : Str) : TS := tSeq (tOst K f1 (tVar 0) (tVar 1)) (tOst K f2 (tVar 0) (tVar 2))
theorem pure_ini {K : PySem.W.Frag} {C : Addr} (T : OexC K C) (h1 : PySem.W.findIn K (.ref C) f1 = some none) (h2 : PySem.W.findIn K (.ref C) f2 = some none) {N : List Str} (hN : N.length = 3) (vs : List V) (H : Hp) (Q : VK) (E : XK) (h : spIni C f1 f2 vs H Q E) :
    tIni K f1 f2 { nx := fun _ H' => Q .non H', rt := Q } (L2.start N vs) H := by
  obtain ⟨a, x, y, rfl, ha, q⟩ := h
  have e : L2.start N [V.ref a, x, y] = [some (.ref a), some x, some y] := by
    unfold L2.start
    simp [hN]
  rw [e]
  refine ⟨x, rfl, .ref a, rfl, a, C, rfl, T, h1, .inl ⟨ha, fun d hd hne => ?_⟩⟩
  refine ⟨y, rfl, .ref a, rfl, a, C, rfl, T, h2, .inr ⟨d, [(f1, x)], upd_same, ?_, by simp, q d hd hne⟩⟩
  rw [upd_ne hne]
  exact upd_same
end
def oexB (K : PySem.W.Frag) (C : Addr) : Bool := (match K.lookup C with
  | some ⟨.type "type", _, .cls cd, sl⟩ => (match cd.mro, sl.toList with
    | .ref C' :: bm, [_, _, _, _, some (.builtin n), _] => decide (C' = C) && (decide (n = "ValueError.__new__") && (!cd.hasDel && (cd.hasDict && PySem.HandSPX.refsVE bm)))
    | _, _ => false)
  | _ => false) && (decide (PySem.W.findIn K (.ref C) "__setattr__" = some (some (.builtin "object.__setattr__"))) && (decide (PySem.W.subIn K (.ref C) (.type "BaseException") = some true) &&
    (decide (PySem.W.typeIn K (.ref C) = some (.type "type")) && PySem.W.keepIn K (.ref C))))
theorem oexB_ok {K : PySem.W.Frag} {C : Addr} (h : oexB K C = true) : OexC K C := by
  unfold oexB at h
  rw [Bool.and_eq_true, Bool.and_eq_true, Bool.and_eq_true, Bool.and_eq_true] at h
  obtain ⟨h0, h1, h2, h3, h4⟩ := h
  refine ⟨?_, of_decide_eq_true h1, of_decide_eq_true h2, of_decide_eq_true h3, h4⟩
  split at h0
  · rename_i dd cd sl ho
    split at h0
    · rename_i C' bm k0 k1 k2 k3 n k5 hm hs
      simp only [Bool.and_eq_true, decide_eq_true_eq, Bool.not_eq_true'] at h0
      obtain ⟨rfl, rfl, hdel, hdc, hv⟩ := h0
      obtain ⟨nm, bs, mro, ns, qn, hd, sn, sub, ab, col, del⟩ := cd
      dsimp only at hm hdel hdc
      subst hm hdel hdc
      have hsl : sl = #[k0, k1, k2, k3, some (.builtin "ValueError.__new__"), k5] := by
        obtain ⟨l⟩ := sl
        simp only at hs
        rw [hs]
      subst hsl
      exact ⟨nm, qn, ns, bs, bm, sn, sub, ab, col, dd, k0, k1, k2, k3, k5, ho, hv⟩
    · cases h0
  · cases h0

section
variable {K : PySem.W.Frag} {mg : Str → Option Value} {E : XK} {F : Fm} {σ : L2.St} {G G' H H' : Hp} {en : En}
/-! ### raise C(e1, e2) -/
def mRaise (c f1 f2 : Str) (a : Am) : Sm := fun en => (a en).bind fun p => match p.1 with
  | [d1, d2] => .err c [(f2, d2), (f1, d1)]
  | _ => .stk
theorem ss_raise {c f1 f2 : Str} {C : Addr} {ta : TA} {a : Am} (hC : mg c = some (.ref C)) (h1 : SA K mg (fun _ => E) ta a) :
    SS K mg E (fun _ σ H => tMkO C (spIni C f1 f2) [] ta σ H fun cls d H' => E cls d H') (mRaise c f1 f2 a) := by
  refine ⟨fun F σ en G H D g h => ?_⟩
  show ta σ H _
  refine sa_bind h1 g poS_err id h fun ds en1 vs G1 H1 p1 g1 s1 d1 => ?_
  split at p1
  · rename_i d1' d2' e
    have e' : ds = [d1', d2'] := e
    subst e'
    obtain ⟨x, y, rfl, dx, dy⟩ := dpa2 d1
    refine ⟨by simp, fun ea hea => ⟨ea, x, y, rfl, upd_same, fun d hd hne => ?_⟩⟩
    have hd1 : H1 d = none := by rw [upd_ne hne] at hd; exact hd
    refine ⟨rfl, d, [(f2, y), (f1, x)], ?_, upd_same, hd1, ?_⟩
    · rw [upd_ne (Ne.symm hne), upd_same]
    · have eH : upd (del (upd (upd (upd (upd H1 ea (exo ea C none)) d (exd d [(f1, x)])) ea (exo ea C (some d))) d (exd d [(f2, y), (f1, x)])) ea) d (.xd [(f2, y), (f1, x)]) = upd H1 d (.xd [(f2, y), (f1, x)]) := by
        funext b
        by_cases q : b = d
        · subst q; rw [upd_same, upd_same]
        · rw [upd_ne q, upd_ne q]
          by_cases q2 : b = ea
          · subst q2; rw [del_same, hea]
          · rw [del_ne q2, upd_ne q, upd_ne q2, upd_ne q, upd_ne q2]
      rw [eH]
      have f := gf0_new (o := .xd [(f2, y), (f1, x)]) g1.gf.gh hd1
      refine p1 _ _ _ ⟨C, d, _, G1, rfl, hC, rfl, g1.gf.comp f rfl rfl (fun _ z => z.elim), h0_new g1 hd1, Same.free g1.gf.gh hd1, upd_same, ?_⟩
      exact .cons ⟨rfl, dy⟩ (.cons ⟨rfl, dx⟩ .nil)
  · exact p1.elim

/-! ### the suite of except C as e -/
structure SX (K : PySem.W.Frag) (i : Nat) (a C dd : Addr) (te : TE) (m : List (Str × D) → Rs D) : Prop where
  run : ∀ σ G H xs fs z Q, Same G H → σ[i]? = some (some (.ref a)) → H dd = some (.xd xs) → FsOk K G xs fs → m fs = .ok z → (∀ v G' H', Gf (F0 G H) G' H' → Dp K G' v z → Q v H') → te σ H Q
structure SXs (K : PySem.W.Frag) (i : Nat) (a C dd : Addr) (ta : TA) (m : List (Str × D) → Rs (List D)) : Prop where
  run : ∀ σ G H xs fs zs Q, Same G H → σ[i]? = some (some (.ref a)) → H dd = some (.xd xs) → FsOk K G xs fs → m fs = .ok zs → (∀ vs G' H', Gf (F0 G H) G' H' → DpAll K G' vs zs → Q vs H') → ta σ H Q
def xF (f : Str) (fs : List (Str × D)) : Rs D := match fs.lookup f with
  | some d => .ok d
  | none => .stk
theorem fs_lookup {f : Str} : ∀ {xs : List (Str × V)} {fs : List (Str × D)} {d : D}, FsOk K G xs fs → fs.lookup f = some d → ∃ v, xs.lookup f = some v ∧ Dp K G v d
  | _, _, d, .nil, h => by cases h
  | (k, v) :: xs, (k', d') :: fs, d, .cons ⟨e1, e2⟩ t, h => by
    have e1' : k = k' := e1
    subst e1'
    rw [List.lookup_cons] at h ⊢
    by_cases q : (f == k) = true
    · rw [q] at h ⊢
      cases h
      exact ⟨v, rfl, e2⟩
    · rw [Bool.not_eq_true] at q
      rw [q] at h ⊢
      exact fs_lookup t h
theorem fsOk_mono (s : Same G G') : ∀ {xs : List (Str × V)} {fs : List (Str × D)}, FsOk K G xs fs → FsOk K G' xs fs
  | _, _, .nil => .nil
  | _, _, .cons ⟨a, b⟩ t => .cons ⟨a, dp_mono s _ _ b⟩ (fsOk_mono s t)
theorem sx_f {i : Nat} {a C dd : Addr} {f : Str} : SX K i a C dd (tXf a (.ref C) (some dd) C f (tVar i)) (xF f) := by
  refine ⟨fun σ G H xs fs z Q gh hi hd ok e q => ?_⟩
  unfold xF at e
  split at e
  · rename_i d hl
    cases e
    obtain ⟨v, h1, h2⟩ := fs_lookup ok hl
    exact ⟨.ref a, hi, rfl, rfl, dd, xs, v, rfl, hd, h1, q v G H (gf_id gh) h2⟩
  · cases e
theorem sx_c {i : Nat} {a C dd : Addr} {v : V} {d : D} (h : ∀ G, Dp K G v d) : SX K i a C dd (tC v) (fun _ => .ok d) := ⟨fun σ G H xs fs z Q gh hi hd ok e q => by cases e; exact q v G H (gf_id gh) (h G)⟩
theorem sxs_nil {i : Nat} {a C dd : Addr} : SXs K i a C dd tNil (fun _ => .ok []) := ⟨fun σ G H xs fs z Q gh hi hd ok e q => by cases e; exact q [] G H (gf_id gh) .nil⟩
def xCons (m : List (Str × D) → Rs D) (r : List (Str × D) → Rs (List D)) (fs : List (Str × D)) : Rs (List D) := (m fs).bind fun d => (r fs).bind fun ds => .ok (d :: ds)
theorem gf0_trans {G1 H1 G2 H2 : Hp} (f : Gf (F0 G H) G1 H1) (f2 : Gf (F0 G1 H1) G2 H2) : Gf (F0 G H) G2 H2 := f.comp f2 rfl rfl fun _ z => z.elim
theorem sxs_cons {i : Nat} {a C dd : Addr} {te : TE} {ta : TA} {m : List (Str × D) → Rs D} {r : List (Str × D) → Rs (List D)} (h1 : SX K i a C dd te m) (h2 : SXs K i a C dd ta r) : SXs K i a C dd (tCons te ta) (xCons m r) := by
  refine ⟨fun σ G H xs fs z Q gh hi hd ok e q => ?_⟩
  obtain ⟨d, e1, e2⟩ := bind_is e
  obtain ⟨ds, e3, e4⟩ := bind_is e2
  cases e4
  refine h1.run σ G H xs fs d _ gh hi hd ok e1 fun v G1 H1 f1 d1 => ?_
  refine h2.run σ G1 H1 xs fs ds _ f1.gh hi (f1.pres dd _ hd id) (fsOk_mono f1.g0 ok) e3 fun vs G2 H2 f2 d2 => ?_
  exact q (v :: vs) G2 H2 (gf0_trans f1 f2) (.cons (dp_mono f2.g0 _ _ d1) d2)
def xTup (r : List (Str × D) → Rs (List D)) (fs : List (Str × D)) : Rs D := (r fs).bind fun ds => if ds.length ≤ big then .ok (.tuple ds) else .stk
theorem sx_tup {i : Nat} {a C dd : Addr} {ta : TA} {r : List (Str × D) → Rs (List D)} (h : SXs K i a C dd ta r) : SX K i a C dd (tTup ta) (xTup r) := by
  refine ⟨fun σ G H xs fs z Q gh hi hd ok e q => ?_⟩
  obtain ⟨ds, e1, e2⟩ := bind_is e
  split at e2
  · rename_i hz
    cases e2
    refine h.run σ G H xs fs ds _ gh hi hd ok e1 fun vs G1 H1 f1 d1 => ⟨by rw [dpa_len d1]; exact big_line hz, fun p hp => ?_⟩
    have f := gf0_newG (o := .tup vs) f1.gh hp
    exact q (.ref p) _ _ (gf0_trans f1 f) (.tup (.inl (.inl upd_same)) (dpa_mono f.g0 _ _ d1))
  · cases e2
def xRepr (m : List (Str × D) → Rs D) (fs : List (Str × D)) : Rs D := (m fs).bind fun d => fRepr [d]
theorem sx_repr {i : Nat} {a C dd : Addr} {te : TE} {m : List (Str × D) → Rs D} (h : SX K i a C dd te m) : SX K i a C dd (tCB (rDN K fRepr) (tCons te tNil)) (xRepr m) := by
  refine ⟨fun σ G H xs fs z Q gh hi hd ok e q => ?_⟩
  obtain ⟨d, e1, e2⟩ := bind_is e
  show te σ H _
  refine h.run σ G H xs fs d _ gh hi hd ok e1 fun v G1 H1 f1 d1 => ?_
  exact o_repr.run G1 H1 [v] [d] z f1.gh (.cons d1 .nil) e2 Q fun u G2 H2 f2 d2 => q u G2 H2 (gf0_trans f1 f2) d2

/-! ### try -/
/-- an expression whose errors are caught at slot i -/
def eAt (i : Nat) (m : Em) : Em := fun en => if i < en.length then m en else .stk
theorem se_callE {m : List D → Rs D} {ta : TA} {a : Am} {i : Nat} {E2 : L2.St → XK} (hE : ∀ σ cls dx H, i < σ.length → E cls dx H → E2 σ cls dx H) (h1 : SA K mg (fun _ => E) ta a) :
    SE K mg (fun _ => E) (tCallG (spP K mg m) E2 ta) (eAt i (eCall m a)) := by
  refine ⟨fun F σ en G H Q g h => ?_⟩
  unfold eAt at h
  split at h
  · rename_i hi
    have hl : i < σ.length := by rw [← g.len]; exact hi
    show ta σ H _
    refine sa_bind h1 g (poE_err (E := fun _ => E) (σ := σ)) id h fun ds en1 vs G1 H1 p1 g1 s1 d1 => ?_
    refine ⟨G1, ds, g1.gf.gh, d1, ?_⟩
    have p1' : PoE K mg E F σ G Q ((m ds).bind fun d => .ok (d, en1)) := p1
    cases q : m ds with
    | stk => rw [q] at p1'; exact p1'.elim
    | err c fs =>
      rw [q] at p1'
      exact fun cls dx H' e => hE σ cls dx H' hl (p1' cls dx H' (ErrAt.back (F' := F0 G1 H1) g1.gf rfl rfl (fun _ z => z.elim) e))
    | ok d =>
      rw [q] at p1'
      exact fun v G' H' f hd => p1' v G' H' (g1.grow f) (s1.trans f.g0) hd
  · exact h.elim
/-- try: b; except c as e: return h(e's fields) (cs: what errors there are, and whether the clause takes them) -/
def mTry (cs : List (Str × Bool)) (hm : List (Str × D) → Rs D) (b : Sm) : Sm := fun en => match b en with
  | .err c fs => if (c, true) ∈ cs then (hm fs).calm.bind fun d => .ok (.rt d, en.map fun _ => .un) else .stk
  | r => r
theorem gd_un (f : Gf F G H) : Gd K F G H σ (σ.map fun _ => SV.un) := by
  refine ⟨f, by rw [List.length_map], ⟨fun _ => 0, fun i sv e => ?_⟩, fun c t e => ?_⟩
  · rw [List.getElem?_map] at e
    cases q : σ[i]? with
    | none => rw [q] at e; cases e
    | some x => rw [q] at e; cases e; trivial
  · rw [List.getElem?_map] at e
    cases q : σ[0]? with
    | none => rw [q] at e; cases e
    | some x => rw [q] at e; cases e
theorem len_un {A : Type} (xs : List A) (ys : List (Option V)) (h : xs.length = ys.length) : (xs.map fun _ => SV.un) = ys.map fun _ => SV.un := by
  rw [List.map_const', List.map_const', h]
theorem ss_try {cs : List (Str × Bool)} {c : Value} {i : Nat} {te : Addr → Value → Option Addr → TE} {tb : WX → TS} {hm : List (Str × D) → Rs D} {b : Sm} {Wout : WX}
    (hcs : ∀ x bb C, (x, bb) ∈ cs → mg x = some (.ref C) → PySem.W.exmOne K (.ref C) c = some bb)
    (hb : ∀ W : WX, SS K mg (fun cls d H => ∀ σ, i < σ.length → W cls d σ H) (tb W) b) (hx : ∀ a C dd, (∃ x, (x, true) ∈ cs ∧ mg x = some (.ref C)) → SX K i a C dd (te a (.ref C) (some dd)) hm) :
    SS K mg E (fun D σ H => tb (wAs K c i (fun a cls d => tRet (te a cls d)) Wout D) D σ H) (mTry cs hm b) := by
  refine ⟨fun F σ en G H D g h => ?_⟩
  refine (hb _).run (F.re K G H σ en) σ en G H D g.rebase ?_
  unfold mTry at h
  cases q : b en with
  | stk => rw [q] at h; exact h
  | ok z =>
    obtain ⟨fl, en'⟩ := z
    rw [q] at h
    cases fl with
    | nx => exact fun σ' G' H' g' s' => h σ' G' H' (g.back g') s'
    | bk => exact fun σ' G' H' g' s' => h σ' G' H' (g.back g') s'
    | ct => exact fun σ' G' H' g' s' => h σ' G' H' (g.back g') s'
    | rt d => exact fun v σ' G' H' g' s' hd => h v σ' G' H' (g.back g') s' hd
  | err x fs =>
    rw [q] at h
    intro cls dx H' er σ' hi
    simp only at h
    split at h
    · rename_i hm
      obtain ⟨d, ed, pd⟩ := calm_bind (P := PoS K mg E F G D) id h
      obtain ⟨C, dd, xs, G', rfl, hC, rfl, gf', h0, hg, hd, ok⟩ := er
      refine ⟨true, hcs x true C hm hC, fun _ a ha => ?_, fun z => Bool.noConfusion z⟩
      have hs : (σ'.set i (some (.ref a)))[i]? = some (some (.ref a)) := by rw [List.getElem?_set_self hi]
      refine (hx a C dd ⟨x, hm, hC⟩).run _ G' H' xs fs d _ gf'.gh hs hd ok ed fun v G2 H2 f2 d2 => ?_
      have gF : Gf F G2 H2 := (g.gf.comp gf' rfl rfl g.zs).comp f2 rfl rfl fun _ z => z.elim
      have e1 : (en.map fun _ => SV.un) = σ.map fun _ => SV.un := len_un en σ g.len
      rw [e1] at pd
      exact pd v σ G2 H2 (gd_un gF) (gf'.g0.trans f2.g0) d2
    · exact h.elim
end
end Mir
end

section
set_option Elab.async false
set_option linter.all false
set_option maxRecDepth 100000
set_option maxHeartbeats 4000000
/-! Mir10: what the operations do to ints; calls with keywords; the source of draws. -/
namespace Mir
open PySem PySem.Spec PyProof.Rows L2

/-! ### ints -/
@[simp] theorem shaped_int (i : Int) : SeqAt.shaped (.int i) = true := by
  show (PyData.canLay0 (.int i) && decide (PyData.depth (.int i) ≤ 64)) = true
  simp [PyData.canLay0, PyData.depth]
@[simp] theorem eqv_int (i j : Int) : PyData.eqv (.int i) (.int j) = decide (i = j) := by
  simp only [PyData.eqv]
  by_cases h : i = j
  · simp [h]
  · simp [h]
@[simp] theorem okEq_int (i j : Int) : okEq (.int i) (.int j) = true := by simp [okEq]
@[simp] theorem fEq_int (i j : Int) : fEq (.int i) (.int j) = .ok (.bool (decide (i = j))) := by simp [fEq, yn]
@[simp] theorem fNe_int (i j : Int) : fNe (.int i) (.int j) = .ok (.bool (!decide (i = j))) := by simp [fNe, yn]
@[simp] theorem okCmp_int (i j : Int) : okCmp (.int i) (.int j) = true := by simp [okCmp, PySem.W.alike, notNone, PyData.depth]
@[simp] theorem lt_int_D (i j : Int) : PySem.W.dataLt (.int i) (.int j) = decide (i < j) := by rw [PySem.W.dataLt_int]
@[simp] theorem fLt_int (i j : Int) : fLt (.int i) (.int j) = .ok (.bool (decide (i < j))) := by simp [fLt, yn]
@[simp] theorem fGt_int (i j : Int) : fGt (.int i) (.int j) = .ok (.bool (decide (j < i))) := by simp [fGt, yn]
theorem not_lt_D (i j : Int) : (!decide (j < i)) = decide (i ≤ j) := by
  by_cases h : j < i
  · simp [h, Int.not_le.mpr h]
  · simp [h, Int.not_lt.mp h]
@[simp] theorem fLe_int (i j : Int) : fLe (.int i) (.int j) = .ok (.bool (decide (i ≤ j))) := by unfold fLe; rw [okCmp_int, lt_int_D, not_lt_D]; rfl
@[simp] theorem fGe_int (i j : Int) : fGe (.int i) (.int j) = .ok (.bool (decide (j ≤ i))) := by unfold fGe; rw [okCmp_int, lt_int_D, not_lt_D]; rfl
@[simp] theorem fAdd_int (i j : Int) : fAdd (.int i) (.int j) = .ok (.int (i + j)) := rfl
@[simp] theorem fSub_int (i j : Int) : fSub (.int i) (.int j) = .ok (.int (i - j)) := rfl

/-! ### calls with keywords -/
def permL {A : Type} (perm : List Nat) (l : List A) : List A := perm.filterMap fun i => l[i]?
theorem vals_get : ∀ {vs : List V} {us : List Value} (i : Nat), Vals vs us → (vs[i]? = none ∧ us[i]? = none) ∨ ∃ v u, vs[i]? = some v ∧ us[i]? = some u ∧ RelV v u
  | _, _, _, .nil => .inl ⟨by simp, by simp⟩
  | _, _, 0, .cons r t => .inr ⟨_, _, rfl, rfl, r⟩
  | _, _, i + 1, .cons r t => by simpa using vals_get i t
theorem vals_perm {vs : List V} {us : List Value} (r : Vals vs us) : ∀ perm : List Nat, Vals (permL perm vs) (permL perm us)
  | [] => .nil
  | i :: l => by
    have ih := vals_perm r l
    rcases vals_get i r with ⟨h1, h2⟩ | ⟨v, u, h1, h2, h3⟩
    · unfold permL at ih ⊢
      rw [List.filterMap_cons, List.filterMap_cons, h1, h2]
      exact ih
    · unfold permL at ih ⊢
      rw [List.filterMap_cons, List.filterMap_cons, h1, h2]
      exact .cons h3 ih
theorem dpa_perm {K : PySem.W.Frag} {G : Hp} {vs : List V} {ds : List D} (r : DpAll K G vs ds) : ∀ perm : List Nat, DpAll K G (permL perm vs) (permL perm ds)
  | [] => .nil
  | i :: l => by
    have ih := dpa_perm r l
    unfold permL at ih ⊢
    rw [List.filterMap_cons, List.filterMap_cons]
    cases q : ds[i]? with
    | none =>
      have : vs[i]? = none := by
        rw [List.getElem?_eq_none_iff] at q ⊢
        rw [dpa_len r]
        exact q
      rw [this]
      exact ih
    | some d =>
      obtain ⟨v, h1, h2⟩ := dpa_get r q
      rw [h1]
      exact .cons h2 ih
structure KwB (K : PySem.W.Frag) (fd : FuncData) (ps ks : List Str) (n : Nat) (perm : List Nat) : Prop where
  to : ∀ (s : Shared) (us ws : List Value), K.In s.heap → us.length = n → ws.length = ks.length → BindsTo s fd ⟨us, ks.zip ws⟩ (ps.zip (permL perm (us ++ ws)))
section
variable {K : PySem.W.Frag} {x qual : Str} {params : Arguments} {body : List Stmt} {scope : Scope} {kws : List (Str × V)} {f : Addr} {fd : FuncData} {ps ks : List Str}
theorem kwB_of (F : FunD K x qual params body scope [] kws f fd) (n : Nat) (perm : List Nat)
    (h : ∀ (kV doc pm : Value) (an : Option Addr) (cdv ct : Value) (us ws : List Value), us.length = n → ws.length = ks.length → bindArgs (PySem.W.fnOf x qual params body scope .none kV doc pm an cdv ct) ⟨us, ks.zip ws⟩ = pure (ps.zip (permL perm (us ++ ws)))) : KwB K fd ps ks n perm := by
  obtain ⟨oc, od, dV, kV, doc, pm, an, cdv, ct, osl, rfl, lk, hcd, hD, hK⟩ := F.ex
  rcases hD with ⟨_, rfl⟩ | ⟨e, _⟩
  · exact ⟨fun s us ws _ l1 l2 => .of_eq (h kV doc pm an cdv ct us ws l1 l2)⟩
  · exact absurd rfl e
end
def tCallGK (sp : Sp) (n m : Nat) (perm : List Nat) (E : L2.St → XK) (t tk : TA) : TE := fun σ H Q => t σ H fun vs H1 => tk σ H1 fun zs H2 => vs.length = n ∧ zs.length = m ∧ sp (permL perm (vs ++ zs)) H2 Q (E σ)
section
variable {X : Cx} {C : CXT} {k n : Nat} {f : Addr} {fd : FuncData} {ps ks : List Str} {perm : List Nat} {sp : Sp} {E : L2.St → XK} {x : Str} {p pos : Pos} {e : Expr} {es : List Expr} {kws : List Keyword} {t tk : TA}
theorem go_fnK {pins : List (Addr × Obj)} {σ : L2.St} {H : Hp} {s : Shared} {Q : VK} {us ws : List Value} {vs zs : List V} (F : FnG X.prog X.w X.K X.mg X.base C k f fd ps sp) (hgd : X.A.guards = some []) (hr : Room k X.A) (hb : KwB X.K fd ps ks n perm) (hx : PassesAt C X σ (E σ))
    (I : Inv X pins σ H s) (r : Vals vs us) (rz : Vals zs ws) (l1 : vs.length = n) (l2 : zs.length = ks.length) (h : sp (permL perm (vs ++ zs)) H Q (E σ)) : wpAny (model X.prog X.w) X.A (call (.ref f) us (ks.zip ws)) (EP X pins σ Q) X.xe s := by
  have r2 : Vals (permL perm (vs ++ zs)) (permL perm (us ++ ws)) := vals_perm (r.append rz) perm
  have b := hb.to s us ws I.kIn (r.length.symm.trans l1) (rz.length.symm.trans l2)
  refine wpAny_call (codeAny_mono (F.go X.A X.stack s H ⟨us, ks.zip ws⟩ (permL perm (us ++ ws)) (permL perm (vs ++ zs)) Q (E σ) hgd hr I.env0 b r2 h) ?_)
  intro rs s' hq
  cases rs with
  | error ev => exact hx pins H s ev s' I hq
  | ok fl =>
    cases fl with
    | ret u => exact I.after hq
    | next => exact (show False from hq).elim
    | brk => exact (show False from hq).elim
    | cont => exact (show False from hq).elim
/-- f(k = v, ..) -/
theorem pe_callG0 (F : FnG X.prog X.w X.K X.mg X.base C k f fd ps sp) (hgd : X.A.guards = some []) (hr : Room k X.A) (hg : Gl X x) (hm : X.mg x = some (.ref f)) (hk : PySem.W.keepIn X.K (.ref f) = true) (hb : KwB X.K fd ps ks 0 perm) (hx : ∀ σ, PassesAt C X σ (E σ))
    (hkw : PK X kws tk) (hall : (backToKw pos (keywordEach kws X.env)).all (·.1.isSome) = true := by rfl) (hks : (backToKw pos (keywordEach kws X.env)).filterMap (·.1) = ks := by rfl) (hdb : (x == ("__debug__" : Str)) = false := by decide)
    (hpl : ((backTo pos (starEach [] X.env)).any (·.1) || (backToKw pos (keywordEach kws X.env)).any (·.1.isNone)) = false := by rfl) :
    PE X (.Call (.Name x p) [] kws pos) (tCallGK sp 0 ks.length perm E tNil tk) := by
  constructor
  intro pins s σ H Q I h
  refine wpAny_Call_Name_kw (ld_glob I hg hm ?_ hdb)
  refine PySem.W.callWith_KW0 (h₀ := X.base) I.ok.mod.kin hk hall ?_ hpl
  refine thn (hkw.run pos pins s σ H _ I h) ?_
  rintro ws s2 ⟨zs, H2, I2, rz, l1, l2, q2⟩
  refine ⟨I2.kIn, ?_⟩
  rw [hks]
  exact go_fnK (us := []) (vs := []) F hgd hr hb (hx σ) I2 .nil rz rfl l2 q2
/-- f(e, .., k = v, ..) -/
theorem pe_callGk (F : FnG X.prog X.w X.K X.mg X.base C k f fd ps sp) (hgd : X.A.guards = some []) (hr : Room k X.A) (hg : Gl X x) (hm : X.mg x = some (.ref f)) (hk : PySem.W.keepIn X.K (.ref f) = true) (hb : KwB X.K fd ps ks n perm) (hx : ∀ σ, PassesAt C X σ (E σ))
    (ha : PA X (e :: es) t) (hkw : PK X kws tk) (hall : (backToKw pos (keywordEach kws X.env)).all (·.1.isSome) = true := by rfl) (hks : (backToKw pos (keywordEach kws X.env)).filterMap (·.1) = ks := by rfl) (hdb : (x == ("__debug__" : Str)) = false := by decide)
    (he : starEach (e :: es) X.env = (false, eval e X.env) :: starEach es X.env := by rfl) (hpl : ((backTo pos (starEach (e :: es) X.env)).any (·.1) || (backToKw pos (keywordEach kws X.env)).any (·.1.isNone)) = false := by rfl) :
    PE X (.Call (.Name x p) (e :: es) kws pos) (tCallGK sp n ks.length perm E t tk) := by
  constructor
  intro pins s σ H Q I h
  refine wpAny_Call_Name_kw (ld_glob I hg hm ?_ hdb)
  refine PySem.W.callWith_KW (h₀ := X.base) I.ok.mod.kin hk hall (thn (ha.run pos pins s σ H _ I h) ?_) hpl he
  rintro us s1 ⟨vs, H1, I1, r, q⟩
  refine thn (hkw.run pos pins s1 σ H1 _ I1 q) ?_
  rintro ws s2 ⟨zs, H2, I2, rz, l1, l2, q2⟩
  refine ⟨I2.kIn, ?_⟩
  rw [hks]
  exact go_fnK F hgd hr hb (hx σ) I2 r rz l1 l2 q2
end
section
variable {K : PySem.W.Frag} {mg : Str → Option Value} {E : L2.St → XK} {F : Fm} {σ : L2.St} {G G' H H' : Hp} {en : En}
def eCallK (m : List D → Rs D) (n k : Nat) (perm : List Nat) (a b : Am) : Em := fun en => (a en).bind fun p => (b p.2).bind fun q => if p.1.length = n ∧ q.1.length = k then (m (permL perm (p.1 ++ q.1))).bind fun d => .ok (d, q.2) else .stk
theorem se_callK {m : List D → Rs D} {n k : Nat} {perm : List Nat} {ta tb : TA} {a b : Am} (h1 : SA K mg E ta a) (h2 : SA K mg E tb b) : SE K mg E (tCallGK (spP K mg m) n k perm E ta tb) (eCallK m n k perm a b) := by
  refine ⟨fun F σ en G H Q g h => ?_⟩
  show ta σ H _
  refine sa_bind h1 g poE_err id h fun ds en1 vs G1 H1 p1 g1 s1 d1 => ?_
  refine sa_bind h2 g1 poE_err id p1 fun es en2 zs G2 H2 p2 g2 s2 d2 => ?_
  split at p2
  · rename_i hl
    refine ⟨(dpa_len d1).trans hl.1, (dpa_len d2).trans hl.2, G2, permL perm (ds ++ es), g2.gf.gh, dpa_perm (dpa_app (dpa_mono s2 _ _ d1) d2) perm, ?_⟩
    have p2' : PoE K mg (E σ) F σ G Q ((m (permL perm (ds ++ es))).bind fun d => .ok (d, en2)) := p2
    cases q : m (permL perm (ds ++ es)) with
    | stk => rw [q] at p2'; exact p2'.elim
    | err c fs =>
      rw [q] at p2'
      exact fun cls dx H' e => p2' cls dx H' (ErrAt.back (F' := F0 G2 H2) g2.gf rfl rfl (fun _ z => z.elim) e)
    | ok d =>
      rw [q] at p2'
      exact fun v G' H' f hd => p2' v G' H' (g2.grow f) ((s1.trans s2).trans f.g0) hd
  · exact p2.elim

/-! ### the source of draws -/
theorem Gd.setSrc {i : Nat} {p c : Addr} {cells : List Int} {t : Int} (g : Gd K F G H σ en) (hi0 : i ≠ 0) (hpc : p ≠ c) (hg : G p = none) (hgc : G c = none) (hp : H p = some (.dK [(.inr "cells", .ref c), (.inr "turn", .int t)])) (hc : H c = some (.lst (cells.map V.int)))
    (h0 : F.Z p ∨ F.H0 p = none) (h1 : F.Z c ∨ F.H0 c = none) (fp : Free K G H σ en p) (fc : Free K G H σ en c) : Gd K F G H (σ.set i (some (.ref p))) (en.set i (.own (.src cells t))) := by
  obtain ⟨om, s⟩ := g.sat
  refine ⟨g.gf, by rw [List.length_set, List.length_set, g.len], ⟨fun a => if a = p ∨ a = c then i else om a, fun j sv e => ?_⟩, fun c t e => ?_⟩
  · by_cases q : i = j
    · subst q
      by_cases hi : i < en.length
      · rw [List.getElem?_set_self hi] at e
        cases e
        refine ⟨.ref p, [p, c], by rw [List.getElem?_set_self (by rw [← g.len]; exact hi)], ⟨p, c, rfl, rfl, hpc, hg, hgc, hp, hc⟩, fun a ha => ?_⟩
        have ha' : a = p ∨ a = c := by simpa using ha
        refine ⟨if_pos ha', ?_⟩
        rcases ha' with rfl | rfl
        · exact h0
        · exact h1
      · rw [List.getElem?_eq_none (by rw [List.length_set]; omega)] at e
        cases e
    · rw [List.getElem?_set_ne q] at e ⊢
      have z := s j sv e
      cases sv with
      | un => trivial
      | dat d => exact z
      | own mo =>
        obtain ⟨v, as, k1, k2, k3⟩ := z
        refine ⟨v, as, k1, k2, fun a ha => ⟨?_, (k3 a ha).2⟩⟩
        have n1 : a ≠ p := fun z => fp _ _ _ _ e k1 k2 (by rw [← z]; exact ha)
        have n2 : a ≠ c := fun z => fc _ _ _ _ e k1 k2 (by rw [← z]; exact ha)
        show (if a = p ∨ a = c then i else om a) = j
        rw [if_neg (fun z => z.elim n1 n2)]
        exact (k3 a ha).1
  · rw [List.getElem?_set_ne hi0] at e ⊢
    exact g.pin c t e
def mNewSrc (i : Nat) (m : Am) : Sm := fun en => if i = 0 then .stk else (m en).calm.bind fun p => match intsOf p.1 with
  | some ns => .ok (.nx, p.2.set i (.own (.src ns 0)))
  | none => .stk
theorem ss_newSrc {i : Nat} {tl : TE} {m : Am} {E : XK} (h1 : SL K mg (fun _ => E) tl m) : SS K mg E (tAsg (tDisp [(tC (.str "cells"), tl), (tC (.str "turn"), tC (.int 0))]) (gName i)) (mNewSrc i m) := by
  refine ⟨fun F σ en G H D g h => ?_⟩
  unfold mNewSrc at h
  split at h
  · exact h.elim
  rename_i hi
  obtain ⟨⟨ds, en1⟩, em, pm⟩ := calm_bind (P := PoS K mg E F G D) id h
  show tDisp _ σ H _
  intro p hp
  have g1 : Gd K F G (upd H p (.dK [])) σ en := g.grow (gf0_new g.gf.gh hp)
  have fr : Free K G (upd H p (.dK [])) σ en p := free_new g hp (gf0_new g.gf.gh hp)
  have g2 := g1.rebase
  have nz : ¬ (F.re K G (upd H p (.dK [])) σ en).Z p := by
    rintro ⟨j, mo, v, as, e1, e2, ow, ha⟩
    exact fr j mo v as e1 e2 ow ha
  show tl σ (upd H p (.dK [])) _
  refine h1.run (F.re K G (upd H p (.dK [])) σ en) σ en G (upd H p (.dK [])) _ g2 ?_
  rw [em]
  intro c vs G' H' g' s' hgc hhc hd h0c frc
  have hpp : H' p = some (.dK []) := g'.gf.pres p _ upd_same nz
  have hgp : G' p = none := g'.gf.nf p (by rw [show (F.re K G (upd H p (.dK [])) σ en).H0 p = some (.dK []) from upd_same]; exact fun z => nomatch z) (Same.free g.gf.gh hp) nz
  have hpc : p ≠ c := fun z => by rw [z] at hpp; rw [hpp] at hhc; cases hhc
  simp only at pm
  split at pm
  · rename_i ns hn
    have e1 := intsOf_is hn
    subst e1
    have e2 := dpa_ints hd
    subst e2
    refine ⟨hpp, [(.inr "cells", .ref c), (.inr "turn", .int 0)], rfl, by show 2 ≤ 15; decide, ?_⟩
    have gb : Gd K F G' H' σ en1 := g1.back g'
    have frp : Free K G' H' σ en1 p := by
      refine g'.free ?_ nz
      rw [show (F.re K G (upd H p (.dK [])) σ en).H0 p = some (.dK []) from upd_same]
      exact fun z => nomatch z
    have hF0p : F.H0 p = none := h0_new g hp
    have hF0c : F.Z c ∨ F.H0 c = none := by
      right
      cases q : F.H0 c with
      | none => rfl
      | some o =>
        have := g1.gf.live c (by rw [q]; exact fun z => nomatch z)
        exact absurd h0c this
    obtain ⟨ga, frp'⟩ := gb.other (o := .dK (mergeK [] [(.inr "cells", .ref c), (.inr "turn", .int 0)])) hgp hF0p frp
    have frc' : Free K G' (upd H' p (.dK (mergeK [] [(.inr "cells", .ref c), (.inr "turn", .int 0)]))) σ en1 c := by
      intro j mo v as e1 e2 ow ha
      obtain ⟨om, s⟩ := gb.sat
      obtain ⟨v', as', k1, k2, k3⟩ := s j _ e1
      rw [e2] at k1; cases k1
      have k2' : Own K G' (upd H' p (.dK (mergeK [] [(.inr "cells", .ref c), (.inr "turn", .int 0)]))) v mo as' := k2.keep (Same.refl _) (fun a ha => (k2.live a ha).2) fun a ha x hx => by
        have : a ≠ p := fun z => frp _ _ _ _ e1 e2 k2 (by rw [← z]; exact ha)
        rw [upd_ne this]; exact hx
      obtain rfl := ow.inj k2'
      exact frc _ _ _ _ e1 e2 k2 ha
    refine pm _ G' _ (ga.setSrc (c := c) hi hpc hgp hgc ?_ ?_ (.inr hF0p) hF0c frp' frc') s'
    · rw [upd_same]; rfl
    · rw [upd_ne (Ne.symm hpc)]; exact hhc
  · exact pm.elim
end
end Mir
end

section
set_option Elab.async false
set_option linter.all false
set_option maxRecDepth 100000
set_option maxHeartbeats 4000000
/-! Mir11: a draw off the source (cells, turn). -/
namespace Mir
open PySem PySem.Spec PyProof.Rows L2

structure DrC where
  ad : Int
  a : Int
  b : Int
  m1 : Int
  c : Int
  d : Int
  m2 : Int
  e : Int
  line : Int
def DrC.once (k : DrC) (cell t : Int) : Int := (cell * k.a + t * k.b) % k.m1
def DrC.twice (k : DrC) (cell t : Int) : Int := (k.once cell t * k.once cell t + k.c * cell + k.d * t) % k.m2
def srcOk (cells : List Int) (t : Int) : Bool := (cells.all fun c => decide (c.natAbs.log2 < 3000000)) && decide (0 ≤ t) && decide (t < 1000000) && decide (cells.length ≤ big)
def DrC.ok (k : DrC) : Bool := decide (0 ≤ k.ad) && decide (0 < k.m1) && decide (0 < k.m2) && decide (0 < k.e) && decide (k.m1 < 1000000000000) && decide (k.m2 < 1000000000000) && decide (k.e < 1000) && decide (k.a.natAbs < 1000000000000) && decide (k.b.natAbs < 1000000000000) && decide (k.c.natAbs < 1000000) && decide (k.d.natAbs < 1000000)
def drawM (k : DrC) (mo : MO) (ds : List D) : Rs (D × MO) := match mo, ds with
  | .src cells t, [.int top] => if srcOk cells t = true ∧ 0 < top ∧ top < 1000000000000 then
      if cells.length = 0 then .ok (.int 0, .src cells (t + 1)) else
        let i := ((t + 1 + k.ad) % (cells.length : Int)).toNat
        match cells[i]? with
        | some cell => if k.line ≤ cell then .ok (.int (cell % top), .src (cells.set i (cell / top)) (t + 1)) else .ok (.int ((k.twice cell (t + 1) / k.e) % top), .src cells (t + 1))
        | none => .stk
    else .stk
  | _, _ => .stk

section
variable (K : PySem.W.Frag) (k : DrC)
abbrev tGetS (x : Str) : TE := tDGet (tVar 0) (tC (.str x))
abbrev tLen1 (t : TE) : TE := tCB (fun xs H Q => ∃ p ys, xs = [V.ref p] ∧ (SqL K H p ys ∨ SqT K H p ys) ∧ Q (.int ys.length) H) (tCons t tNil)
abbrev tInt1 (t : TE) : TE := tCB (fun xs H Q => (∃ i, xs = [V.int i] ∧ Q (.int i) H) ∨ ∃ k, xs = [V.bl k] ∧ Q (.int (if k then 1 else 0)) H) (tCons t tNil)
abbrev tAdd (a b : TE) : TE := tOp (rAdd3 K) a b
abbrev tMulX (a b : TE) : TE := tOp (rI CMulX fun i j => .int (i * j)) a b
abbrev tDivW (a b : TE) : TE := tOp (rI CDivW fun i j => .int (i / j)) a b
abbrev tModP (a b : TE) : TE := tOp (rI (fun _ j => 0 < j) fun i j => .int (i % j)) a b
def t_draw : TS :=
  tSeq (sDPut (tVar 0) (tC (.str "turn")) (tAdd K (tGetS "turn") (tC (.int 1))))
  (tSeq (tAsg (tGetS "cells") (gName 2))
  (tSeq (tIfS (tTest (tOp (rD2 K fEq) (tLen1 K (tVar 2)) (tC (.int 0)))) (tRet (tC (.int 0))) tNext)
  (tSeq (tAsg (tGetS "turn") (gName 3))
  (tSeq (tAsg (tModP (tInt1 (tAdd K (tVar 3) (tC (.int k.ad)))) (tLen1 K (tVar 2))) (gName 4))
  (tSeq (tAsg (tOp (rIx K) (tVar 2) (tVar 4)) (gName 5))
  (tSeq (tIfS (tTest (tOp (rD2 K fGe) (tVar 5) (tC (.int k.line)))) (tSeq (tAsg (tDivW (tVar 5) (tVar 1)) (gSub (tVar 2) (tVar 4) rSetL)) (tRet (tModP (tInt1 (tVar 5)) (tVar 1)))) tNext)
  (tSeq (tAsg (tModP (tInt1 (tAdd K (tMulX (tVar 5) (tC (.int k.a))) (tMulX (tVar 3) (tC (.int k.b))))) (tC (.int k.m1))) (gName 6))
  (tSeq (tAsg (tModP (tInt1 (tAdd K (tAdd K (tMulX (tVar 6) (tVar 6)) (tMulX (tC (.int k.c)) (tVar 5))) (tMulX (tC (.int k.d)) (tVar 3)))) (tC (.int k.m2))) (gName 7))
  (tRet (tModP (tInt1 (tDivW (tVar 7) (tC (.int k.e)))) (tVar 1)))))))))))
end
theorem valV_cells {c : V} {t : V} : valV ([(.inr "cells", c), (.inr "turn", t)] : List (Key × V)) (.inr "cells") = some c := by simp [valV]
theorem valV_turn {c : V} {t : V} : valV ([(.inr "cells", c), (.inr "turn", t)] : List (Key × V)) (.inr "turn") = some t := by
  have : ¬ ((.inr "cells" : Key) = .inr "turn") := by decide
  simp [valV, this]
theorem putK_turn {c : V} {t u : V} : putK ([(.inr "cells", c), (.inr "turn", t)] : List (Key × V)) (.inr "turn") u = [(.inr "cells", c), (.inr "turn", u)] := by
  have : ¬ ((.inr "cells" : Key) = .inr "turn") := by decide
  simp [putK, this]
theorem mul_ok {i j : Int} (hi : i.natAbs.log2 < 60000000) (hj : j.natAbs.log2 < 60000000) : CMulX i j := mulx_ok Nat.lt_log2_self Nat.lt_log2_self (by omega)
theorem log2_small {i : Int} {n : Nat} (h : i.natAbs < 2 ^ n) (hn : 0 < n) : i.natAbs.log2 < n := by
  by_cases q : i.natAbs = 0
  · rw [q]; simpa using hn
  · exact (Nat.log2_lt q).mpr h
theorem log2_lt60 {i : Int} (h : i.natAbs < 1000000000000) : i.natAbs.log2 < 60000000 := Nat.lt_of_lt_of_le (log2_small (n := 40) (by omega) (by decide)) (by decide)
theorem rAdd3_int {K : PySem.W.Frag} {i j : Int} {H : Hp} {Q : VK} (q : Q (.int (i + j)) H) : rAdd3 K (.int i) (.int j) H Q := .inl ⟨i, j, rfl, rfl, q⟩
theorem ite_t {c : Bool} {A B : Prop} (hc : c = true) (h : A) : if c = true then A else B := by
  rw [if_pos hc]
  exact h
theorem ite_f {c : Bool} {A B : Prop} (hc : c = false) (h : B) : if c = true then A else B := by
  rw [if_neg (by rw [hc]; exact Bool.false_ne_true)]
  exact h
theorem pure_draw {K : PySem.W.Frag} {mg : Str → Option Value} {k : DrC} (hk : k.ok = true) {N : List Str} (hN : N.length = 8) (vs : List V) (H : Hp) (Q : VK) (E : XK) (h : spS K mg (drawM k) vs H Q E) :
    t_draw K k { nx := fun _ H' => Q .non H', rt := Q } (L2.start N vs) H := by
  obtain ⟨G, p, vr, ds, cells, t, as, rfl, gh, ow, hd, hq⟩ := h
  obtain ⟨a, c, rfl, rfl, hac, ga, gc, ha, hc⟩ := id ow
  unfold DrC.ok at hk
  simp only [Bool.and_eq_true, decide_eq_true_eq] at hk
  obtain ⟨⟨⟨⟨⟨⟨⟨⟨⟨⟨k0, k1⟩, k2⟩, k3⟩, k4⟩, k5⟩, k6⟩, k7⟩, k8⟩, k9⟩, k10⟩ := hk
  obtain ⟨top, rfl⟩ : ∃ top, ds = [PyData.int top] := by
    cases ds with
    | nil => exact hq.elim
    | cons d r =>
      cases r with
      | nil =>
        cases d with
        | int i => exact ⟨i, rfl⟩
        | _ => exact hq.elim
      | cons _ _ => cases d <;> exact hq.elim
  unfold drawM at hq
  dsimp only at hq
  by_cases hs : srcOk cells t = true ∧ 0 < top ∧ top < 1000000000000
  rotate_left
  · rw [if_neg hs] at hq
    exact hq.elim
  rw [if_pos hs] at hq
  obtain ⟨hs, ht0, ht1⟩ := hs
  unfold srcOk at hs
  simp only [Bool.and_eq_true, decide_eq_true_eq] at hs
  obtain ⟨⟨⟨s1, s2⟩, s3⟩, s4⟩ := hs
  obtain ⟨v1, rfl, hv1⟩ := dpa1 hd
  cases hv1
  have eS : L2.start N [V.ref a, V.int top] = [some (.ref a), some (.int top), none, none, none, none, none, none] := by
    unfold L2.start
    simp [hN]
  rw [eS]
  -- turn
  refine ⟨.ref a, rfl, a, .int t, rfl, ?_, rAdd3_int ?_⟩
  · have := DGet.k (H := H) (k := .inr "turn") ha
    rw [valV_turn] at this
    exact this
  have hH1 : DPut H a (.str "turn") (.int (t + 1)) (upd H a (.dK [(.inr "cells", .ref c), (.inr "turn", .int (t + 1))])) := by
    have := DPut.k (H := H) (k := .inr "turn") (v := .int (t + 1)) ha (by show 2 < sizeLine; decide)
    rw [putK_turn] at this
    exact this
  refine ⟨.ref a, rfl, a, _, rfl, hH1, ?_⟩
  generalize hh1 : upd H a (.dK [(.inr "cells", .ref c), (.inr "turn", .int (t + 1))]) = H1
  have ha1 : H1 a = some (.dK [(.inr "cells", .ref c), (.inr "turn", .int (t + 1))]) := by rw [← hh1]; exact upd_same
  have hc1 : H1 c = some (.lst (cells.map V.int)) := by rw [← hh1, upd_ne (Ne.symm hac)]; exact hc
  have gfS : ∀ {o1 o2 : HO}, Gf (FS G H (.ref a) [a, c]) G (upd (upd H a o1) c o2) := fun {o1 o2} => by
    refine ⟨Same.refl _, fun b x e => ?_, fun b _ h _ => h, fun b x e hz => ?_, fun b hb => ?_⟩
    · have n1 : b ≠ c := fun z => by rw [z, gc] at e; cases e
      have n2 : b ≠ a := fun z => by rw [z, ga] at e; cases e
      rw [upd_ne n1, upd_ne n2]
      exact gh b x e
    · have hz' : ¬ (b = a ∨ b = c) := fun z => hz (by show b ∈ [a, c]; simpa using z)
      rw [upd_ne (fun z => hz' (.inr z)), upd_ne (fun z => hz' (.inl z))]
      exact e
    · by_cases n1 : b = c
      · subst n1; rw [upd_same]; exact fun z => nomatch z
      · rw [upd_ne n1]
        by_cases n2 : b = a
        · subst n2; rw [upd_same]; exact fun z => nomatch z
        · rw [upd_ne n2]; exact hb
  have same1 : upd H1 c (.lst (cells.map V.int)) = H1 := by
    funext b
    by_cases q : b = c
    · subst q; rw [upd_same, hc1]
    · rw [upd_ne q]
  have gf1 : Gf (FS G H (.ref a) [a, c]) G H1 := by
    have := gfS (o1 := .dK [(.inr "cells", .ref c), (.inr "turn", .int (t + 1))]) (o2 := .lst (cells.map V.int))
    rw [hh1, same1] at this
    exact this
  have ow1 : Own K G H1 (.ref a) (.src cells (t + 1)) [a, c] := ⟨a, c, rfl, rfl, hac, ga, gc, ha1, hc1⟩
  -- cells
  refine ⟨.ref a, rfl, a, .ref c, rfl, ?_, ?_⟩
  · have := DGet.k (H := H1) (k := .inr "cells") ha1
    rw [valV_cells] at this
    exact this
  have sq : SqL K H1 c (cells.map V.int) := .inl (.inl hc1)
  have hlen : (cells.map V.int).length = cells.length := List.length_map ..
  refine ⟨.ref c, rfl, c, cells.map V.int, rfl, .inl sq, ?_⟩
  refine ⟨.int (cells.map V.int).length, .int 0, .bool (decide (((cells.map V.int).length : Int) = 0)), .bl _, .int _, .int _, fEq_int _ _, rfl, _, rfl, ?_⟩
  rw [hlen]
  by_cases h0 : cells.length = 0
  · rw [if_pos h0] at hq
    rw [if_pos (decide_eq_true (by omega))]
    exact hq (.int 0) G H1 gf1 ow1 (.int 0)
  rw [if_neg h0] at hq
  rw [if_neg (by rw [decide_eq_true_eq]; omega)]
  -- the place
  refine ⟨.ref a, rfl, a, .int (t + 1), rfl, ?_, ?_⟩
  · have := DGet.k (H := H1) (k := .inr "turn") ha1
    rw [valV_turn] at this
    exact this
  refine ⟨.int (t + 1), rfl, rAdd3_int (.inl ⟨_, rfl, .ref c, rfl, c, cells.map V.int, rfl, .inl sq, _, _, rfl, rfl, ?_, ?_⟩)⟩
  · show (0 : Int) < ((cells.map V.int).length : Int)
    rw [hlen]
    omega
  rw [hlen]
  have hpos : (0 : Int) ≤ (t + 1 + k.ad) % (cells.length : Int) := Int.emod_nonneg _ (by omega)
  have hlt : (t + 1 + k.ad) % (cells.length : Int) < (cells.length : Int) := Int.emod_lt_of_pos _ (by omega)
  obtain ⟨i, hi⟩ : ∃ i, i = (t + 1 + k.ad) % (cells.length : Int) := ⟨_, rfl⟩
  rw [← hi] at hpos hlt hq
  obtain ⟨cell, hcell⟩ : ∃ cell, cells[i.toNat]? = some cell := ⟨_, List.getElem?_eq_getElem (by omega)⟩
  rw [hcell] at hq
  dsimp only at hq
  have hat : atI (cells.map V.int) i = some (.int cell) := by
    unfold atI ixN
    rw [hlen, if_pos hpos, if_pos hlt]
    show (cells.map V.int)[i.toNat]? = some (.int cell)
    rw [List.getElem?_map, hcell]
    rfl
  have hix : ixN (cells.map V.int).length i = some i.toNat := by
    unfold ixN
    rw [hlen, if_pos hpos, if_pos hlt]
  refine ⟨.ref c, rfl, .int i, by rw [hi]; rfl, .inl ⟨c, cells.map V.int, i, .int cell, rfl, rfl, sq, hat, ?_⟩⟩
  refine ⟨.int cell, rfl, .int cell, .int k.line, .bool (decide (k.line ≤ cell)), .bl _, .int _, .int _, fGe_int _ _, rfl, _, rfl, ?_⟩
  have hl0 : cell.natAbs.log2 < 3000000 := of_decide_eq_true (List.all_eq_true.mp s1 cell (List.mem_of_getElem? hcell))
  by_cases hg : k.line ≤ cell
  · rw [if_pos hg] at hq
    refine ite_t (decide_eq_true hg) ?_
    refine ⟨.int cell, rfl, .int top, rfl, _, _, rfl, rfl, ⟨ht0, Nat.lt_of_lt_of_le (log2_small (n := 40) (by omega) (by decide)) (by decide)⟩, ?_⟩
    refine ⟨.ref c, rfl, .int i, by rw [hi]; rfl, c, cells.map V.int, i, i.toNat, rfl, rfl, hc1, hix, ?_⟩
    refine ⟨.int cell, rfl, .inl ⟨_, rfl, .int top, rfl, _, _, rfl, rfl, ht0, ?_⟩⟩
    refine hq (.int (cell % top)) G _ ?_ ⟨a, c, rfl, rfl, hac, ga, gc, ?_, ?_⟩ (.int _)
    · rw [← hh1]; exact gfS
    · rw [upd_ne hac]; exact ha1
    · rw [upd_same, List.map_set]
  · rw [if_neg hg] at hq
    refine ite_f (decide_eq_false hg) ?_
    have b60 : cell.natAbs.log2 < 60000000 := Nat.lt_of_lt_of_le hl0 (by decide)
    refine ⟨.int cell, rfl, _, _, rfl, rfl, mul_ok b60 (log2_lt60 k7), .int (t + 1), rfl, _, _, rfl, rfl, mul_ok (log2_lt60 (by omega)) (log2_lt60 k8), rAdd3_int (.inl ⟨_, rfl, _, _, rfl, rfl, k1, ?_⟩)⟩
    have o1 : 0 ≤ k.once cell (t + 1) := Int.emod_nonneg _ (by omega)
    have o2 : k.once cell (t + 1) < k.m1 := Int.emod_lt_of_pos _ k1
    have ob : (k.once cell (t + 1)).natAbs.log2 < 60000000 := log2_lt60 (by omega)
    refine ⟨.int (k.once cell (t + 1)), rfl, .int (k.once cell (t + 1)), rfl, _, _, rfl, rfl, mul_ok ob ob, .int cell, rfl, _, _, rfl, rfl, mul_ok (log2_lt60 (by omega)) b60, rAdd3_int ⟨.int (t + 1), rfl, _, _, rfl, rfl, mul_ok (log2_lt60 (by omega)) (log2_lt60 (by omega)), rAdd3_int (.inl ⟨_, rfl, _, _, rfl, rfl, k2, ?_⟩)⟩⟩
    refine ⟨.int (k.twice cell (t + 1)), rfl, _, _, rfl, rfl, ⟨k3, Nat.lt_of_lt_of_le (log2_small (n := 40) (by omega) (by decide)) (by decide)⟩, .inl ⟨_, rfl, .int top, rfl, _, _, rfl, rfl, ht0, ?_⟩⟩
    exact hq (.int _) G H1 gf1 ow1 (.int _)
end Mir
end

section
set_option Elab.async false
set_option linter.all false
set_option maxRecDepth 100000
set_option maxHeartbeats 4000000
/-! Mir12: an own list is looked at without becoming data. -/
namespace Mir
open PySem PySem.Spec PyProof.Rows L2
section
variable {K : PySem.W.Frag} {mg : Str → Option Value} {E : L2.St → XK} {F : Fm} {σ : L2.St} {G G' H H' : Hp} {en : En}
def eBLen (i : Nat) : Em := fun en => match ownL en i with
  | some ds => .ok (.int ds.length, en)
  | none => .stk
theorem se_bLen {i : Nat} : SE K mg E (tLen1 K (tVar i)) (eBLen i) := by
  refine ⟨fun F σ en G H Q g h => ?_⟩
  unfold eBLen at h
  split at h
  · rename_i ds e
    obtain ⟨p, vs, k1, k2, k3, k4, k5⟩ := g.own (ownL_some e)
    refine ⟨.ref p, k1, p, vs, rfl, .inl (.inl (.inl k3)), ?_⟩
    rw [dpa_len k4]
    exact h _ G H g (Same.refl _) (.int _)
  · exact h.elim
def eBIx (i : Nat) (m : Em) : Em := fun en => match ownL en i with
  | none => .stk
  | some _ => (m en).bind fun p => match ownL p.2 i, p.1 with
    | some ds, .int k => match atI ds k with
      | some d => .ok (d, p.2)
      | none => .stk
    | _, _ => .stk
theorem se_bIx {i : Nat} {te : TE} {m : Em} (h1 : SE K mg E te m) : SE K mg E (tOp (rIx K) (tVar i) te) (eBIx i m) := by
  refine ⟨fun F σ en G H Q g h => ?_⟩
  unfold eBIx at h
  split at h
  · exact h.elim
  rename_i ds0 e0
  obtain ⟨p0, vs0, k1, _⟩ := g.own (ownL_some e0)
  refine ⟨.ref p0, k1, ?_⟩
  show te σ H _
  refine se_bind h1 g poE_err id h fun d en1 v G1 H1 p1 g1 s1 d1 => ?_
  split at p1
  · rename_i ds k e1 e2
    have e2' : d = .int k := e2
    subst e2'
    cases d1
    obtain ⟨p, vs, l1, l2, l3, l4, l5⟩ := g1.own (ownL_some e1)
    rw [k1] at l1; cases l1
    split at p1
    · rename_i z hz
      obtain ⟨w, hw, dw⟩ := dpa_atI l4 hz
      exact .inl ⟨p0, vs, k, w, rfl, rfl, .inl (.inl l3), hw, p1 w G1 H1 g1 s1 dw⟩
    · exact p1.elim
  · exact p1.elim
def eBIn (m : Em) (i : Nat) : Em := fun en => (m en).bind fun p => match ownL p.2 i with
  | some ds => if okEq p.1 (.list ds) = true then .ok (.bool (ds.any fun z => PyData.eqv z p.1), p.2) else .stk
  | none => .stk
def eBNotIn (m : Em) (i : Nat) : Em := fun en => (m en).bind fun p => match ownL p.2 i with
  | some ds => if okEq p.1 (.list ds) = true then .ok (.bool (!ds.any fun z => PyData.eqv z p.1), p.2) else .stk
  | none => .stk
theorem se_bIn {i : Nat} {te : TE} {m : Em} (h1 : SE K mg E te m) : SE K mg E (tOp (rD2 K fIn) te (tVar i)) (eBIn m i) := by
  refine ⟨fun F σ en G H Q g h => ?_⟩
  show te σ H _
  refine se_bind h1 g poE_err id h fun d en1 v G1 H1 p1 g1 s1 d1 => ?_
  split at p1
  · rename_i ds e1
    split at p1
    · rename_i hc
      obtain ⟨p, vs, l1, l2, l3, l4, l5⟩ := g1.own (ownL_some e1)
      refine ⟨.ref p, l1, d, .list ds, .bool (ds.any fun z => PyData.eqv z d), _, dp_mono g1.gf.gh _ _ d1, Dp.lst (SqL.of l3) (dpa_mono g1.gf.gh _ _ l4), ?_, rfl, p1 _ G1 H1 g1 s1 (.bl _)⟩
      show fIn d (.list ds) = .ok (.bool (ds.any fun z => PyData.eqv z d))
      unfold fIn seqD yn
      exact if_pos hc
    · exact p1.elim
  · exact p1.elim
theorem se_bNotIn {i : Nat} {te : TE} {m : Em} (h1 : SE K mg E te m) : SE K mg E (tOp (rD2 K fNotIn) te (tVar i)) (eBNotIn m i) := by
  refine ⟨fun F σ en G H Q g h => ?_⟩
  show te σ H _
  refine se_bind h1 g poE_err id h fun d en1 v G1 H1 p1 g1 s1 d1 => ?_
  split at p1
  · rename_i ds e1
    split at p1
    · rename_i hc
      obtain ⟨p, vs, l1, l2, l3, l4, l5⟩ := g1.own (ownL_some e1)
      refine ⟨.ref p, l1, d, .list ds, .bool (!ds.any fun z => PyData.eqv z d), _, dp_mono g1.gf.gh _ _ d1, Dp.lst (SqL.of l3) (dpa_mono g1.gf.gh _ _ l4), ?_, rfl, p1 _ G1 H1 g1 s1 (.bl _)⟩
      show fNotIn d (.list ds) = .ok (.bool (!ds.any fun z => PyData.eqv z d))
      unfold fNotIn seqD yn
      exact if_pos hc
    · exact p1.elim
  · exact p1.elim
/-- the turns over a list of our own, place by place -/
def lcIx (ix : Nat) (vs : List Nat) (gm : Gm) (t : Tm) (m : Em) : Nat → Nat → Am
  | 0, _, _ => .stk
  | f + 1, i, en => match ownL en ix with
    | none => .stk
    | some ds => match ds[i]? with
      | none => .ok ([], en)
      | some d => (gm d en).calm.bind fun en1 => (t en1).calm.bind fun p => if p.1 = true then
          (m p.2).calm.bind fun q => (lcIx ix vs gm t m f (i + 1) (wipeE q.2 vs)).bind fun r => .ok (q.1 :: r.1, r.2)
        else lcIx ix vs gm t m f (i + 1) (wipeE p.2 vs)
/-- .. over a list of our own -/
theorem lc_loopB {p : Addr} {ix n : Nat} {vs js : List Nat} {gt : TG} {gm : Gm} {tt : TT} {t : Tm} {te : TE} {m : Em} {L : Addr} {acc0 : List V} {da0 ds0 : List D} {en0 enF : En} {Qd : Hp → Prop}
    (hj : ∀ j ∈ js, j ∈ vs) (hg : SG K js gt gm) (ht : ST K mg (fun _ _ _ _ => False) tt t) (hm : SE K mg (fun _ _ _ _ => False) te m)
    (hix : ix ∉ vs) (hp : (wipe σ vs)[ix]? = some (some (.ref p))) (g0 : Gd K F G H (wipe σ vs) en0) (hGL : G L = none) (h0L : F.H0 L = none) (hHL : H L = some (.lst acc0)) (hd0 : DpAll K G acc0 da0) (fr0 : Free K G H (wipe σ vs) en0 L) (hz0 : acc0.length + n < sizeLine)
    (eF : lcIx ix vs gm t m n 0 en0 = .ok (ds0, enF))
    (fin : ∀ G' H' acc, Gd K F G' H' (wipe σ vs) enF → Same G G' → G' L = none → H' L = some (.lst acc) → DpAll K G' acc (da0 ++ ds0) → Free K G' H' (wipe σ vs) enF L → Qd H') :
    ∃ W : Nat → Nat → Hp → Prop, (∃ k, W 0 k H) ∧ ∀ i k H, W i k H → ((Itl K p).stop i H ∧ Qd H) ∨ ((Itl K p).go i H ∧ ∃ Nx : Hp → Prop, (∀ H', Nx H' → ∃ k', k' < k ∧ W (i + 1) k' H') ∧ ∀ x H', (Itl K p).yld i H x H' → gt x (wipe σ vs) H' fun σ2 H2 => wipe σ2 vs = wipe σ vs ∧ tt σ2 H2 fun b H3 =>
      if b = true then te σ2 H3 fun y H4 => ∃ acc, H4 L = some (.lst acc) ∧ acc.length < sizeLine ∧ Nx (upd H4 L (.lst (acc ++ [y]))) else Nx H3) := by
  refine ⟨fun i k H' => ∃ G' en' acc da ds', k = n - i ∧ i ≤ n ∧ Gd K F G' H' (wipe σ vs) en' ∧ Same G G' ∧ G' L = none ∧ H' L = some (.lst acc) ∧ DpAll K G' acc (da0 ++ da) ∧ da.length ≤ i ∧ Free K G' H' (wipe σ vs) en' L ∧
    lcIx ix vs gm t m (n - i) i en' = .ok (ds', enF) ∧ da ++ ds' = ds0, ⟨n, G, en0, acc0, [], ds0, rfl, Nat.zero_le _, g0, Same.refl _, hGL, hHL, by rw [List.append_nil]; exact hd0, Nat.le_refl _, fr0, eF, rfl⟩, ?_⟩
  rintro i k H' ⟨G', en', acc, da, ds', rfl, hi, g', s', hg', hh', hd', hda, fr', e', ea⟩
  obtain ⟨f, hf⟩ : ∃ f, n - i = f + 1 := by
    cases q : n - i with
    | zero => rw [q] at e'; cases e'
    | succ f => exact ⟨f, rfl⟩
  have hf1 : n - (i + 1) = f := by omega
  rw [hf] at e'
  have e1 : (match ownL en' ix with
    | none => (.stk : Rs (List D × En))
    | some ds => match ds[i]? with
      | none => .ok ([], en')
      | some d => (gm d en').calm.bind fun en1 => (t en1).calm.bind fun p => if p.1 = true then
          (m p.2).calm.bind fun q => (lcIx ix vs gm t m f (i + 1) (wipeE q.2 vs)).bind fun r => .ok (q.1 :: r.1, r.2)
        else lcIx ix vs gm t m f (i + 1) (wipeE p.2 vs)) = .ok (ds', enF) := e'
  cases ho : ownL en' ix with
  | none => rw [ho] at e1; cases e1
  | some ds =>
  rw [ho] at e1
  dsimp only at e1
  obtain ⟨p', ws, k1, k2, k3, k4, k5⟩ := g'.own (ownL_some ho)
  rw [hp] at k1; cases k1
  have sq : SqL K H' p ws := .inl (.inl k3)
  cases hd : ds[i]? with
  | none =>
    rw [hd] at e1
    have e2 : ds' = [] ∧ enF = en' := by
      have : (Rs.ok (([] : List D), en')) = .ok (ds', enF) := e1
      injection this with this
      injection this with h1 h2
      exact ⟨h1.symm, h2.symm⟩
    obtain ⟨rfl, rfl⟩ := e2
    rw [List.append_nil] at ea
    subst ea
    exact .inl ⟨⟨ws, sq, by rw [dpa_len k4]; exact List.getElem?_eq_none_iff.mp hd⟩, fin G' H' acc g' s' hg' hh' hd' fr'⟩
  | some d =>
    rw [hd] at e1
    have hlt := (List.getElem?_eq_some_iff.mp hd).1
    obtain ⟨xv, hxv, dxv⟩ := dpa_get k4 hd
    have go : (Itl K p).go i H' := ⟨ws, xv, sq, hxv⟩
    have yl : ∀ x H2, (Itl K p).yld i H' x H2 → ∃ G2, Gf (F0 G' H') G2 H2 ∧ Dp K G2 x d := by
      rintro x H2 ⟨rfl, hx⟩
      have := hx ws sq
      rw [hxv] at this; cases this
      exact ⟨G', gf_id g'.gf.gh, dxv⟩
    have e'' := e1
    obtain ⟨en2, q2, e3⟩ := calm_is e''
    obtain ⟨⟨b, en3⟩, q3, e4⟩ := calm_is e3
    refine .inr ⟨go, fun H2 => ∃ G2 en2 acc2 da2 ds2, Gd K F G2 H2 (wipe σ vs) en2 ∧ Same G G2 ∧ G2 L = none ∧ H2 L = some (.lst acc2) ∧ DpAll K G2 acc2 (da0 ++ da2) ∧ da2.length ≤ i + 1 ∧ Free K G2 H2 (wipe σ vs) en2 L ∧
      lcIx ix vs gm t m (n - (i + 1)) (i + 1) en2 = .ok (ds2, enF) ∧ da2 ++ ds2 = ds0, fun H2 ⟨G2, en2, acc2, da2, ds2, z1, z2, z3, z5, z6, z7, z8, z9, z10⟩ => ⟨n - (i + 1), by omega, G2, en2, acc2, da2, ds2, rfl, by omega, z1, z2, z3, z5, z6, z7, z8, z9, z10⟩, fun x H2 y => ?_⟩
    obtain ⟨G2, f2, dx⟩ := yl x H2 y
    have gR := g'.rebase
    have hz : ¬ (F.re K G' H' (wipe σ vs) en').Z L := by
      rintro ⟨j, mo, v, as, e1, e2, ow, ha⟩
      exact fr' j mo v as e1 e2 ow ha
    have hL0 : (F.re K G' H' (wipe σ vs) en').H0 L ≠ none := by
      show H' L ≠ none
      rw [hh']; exact fun z => by cases z
    have g2 := gR.grow f2
    refine hg.run _ (wipe σ vs) en' G2 H2 x d _ g2 dx ?_
    rw [show gm d en' = .ok en2 from q2]
    intro σ3 hl3 hk3 g3
    have hw : wipe σ3 vs = wipe σ vs := wipe_eq (by rw [hl3, wipe_length]) fun k hk => hk3 k fun z => hk (hj k z)
    refine ⟨hw, ?_⟩
    refine ht.run _ σ3 en2 G2 H2 _ g3 ?_
    rw [show t en2 = .ok (b, en3) from q3]
    intro G4 H4 g4 s4
    have at4 : H4 L = some (.lst acc) := g4.gf.pres L _ hh' hz
    have gn4 : G4 L = none := g4.gf.nf L hL0 hg' hz
    have sG4 : Same G' G4 := f2.g0.trans s4
    cases b with
    | false =>
      have gw := g'.back (g4.wipe (vs := vs))
      rw [hw] at gw
      have e5 : lcIx ix vs gm t m f (i + 1) (wipeE en3 vs) = .ok (ds', enF) := e4
      have frw := (g4.wipe (vs := vs)).free hL0 hz
      rw [hw] at frw
      exact ⟨G4, wipeE en3 vs, acc, da, ds', gw, s'.trans sG4, gn4, at4, dpa_mono sG4 _ _ hd', by omega, frw, by rw [hf1]; exact e5, ea⟩
    | true =>
      rw [if_pos rfl]
      have e5 : ((m en3).calm.bind fun q => (lcIx ix vs gm t m f (i + 1) (wipeE q.2 vs)).bind fun r => .ok (q.1 :: r.1, r.2)) = .ok (ds', enF) := e4
      obtain ⟨⟨z, en4⟩, q5, e6⟩ := calm_is e5
      obtain ⟨⟨dsr, enr⟩, q6, e7⟩ := bind_is e6
      injection e7 with e7
      injection e7 with e8 e9
      have e9' : enr = enF := e9
      subst e9'
      refine hm.run _ σ3 en3 G4 H4 _ g4 ?_
      rw [show m en3 = .ok (z, en4) from q5]
      intro v G5 H5 g5 s5 dv
      have at5 : H5 L = some (.lst acc) := g5.gf.pres L _ hh' hz
      have gn5 : G5 L = none := g5.gf.nf L hL0 hg' hz
      have sG5 : Same G' G5 := sG4.trans s5
      have gw := g'.back (g5.wipe (vs := vs))
      rw [hw] at gw
      have frw := (g5.wipe (vs := vs)).free hL0 hz
      rw [hw] at frw
      have hal := dpa_len hd'
      have hal0 := dpa_len hd0
      rw [List.length_append] at hal
      obtain ⟨ga, fa⟩ := gw.other (o := .lst (acc ++ [v])) gn5 h0L frw
      refine ⟨acc, at5, by omega, G5, wipeE en4 vs, acc ++ [v], da ++ [z], dsr, ga, s'.trans sG5, gn5, upd_same, ?_, by rw [List.length_append]; exact Nat.succ_le_succ hda, fa, by rw [hf1]; exact q6, ?_⟩
      · rw [← List.append_assoc]
        exact dpa_app (dpa_mono sG5 _ _ hd') (dpa_one dv)
      · rw [← ea, ← e8, List.append_assoc]
        rfl

def lLcB (ix : Nat) (vs : List Nat) (gm : Gm) (t : Tm) (m : Em) : Am := fun en => match ownL en ix with
  | none => .stk
  | some ds => if noOwn en vs = true ∧ ix ∉ vs ∧ ds.length < big then (lcIx ix vs gm t m (ds.length + 1) 0 (wipeE en vs)).calm.bind fun r => .ok (r.1, restE en r.2 vs) else .stk
theorem sl_lcB {ix : Nat} {vs js : List Nat} {gt : TG} {gm : Gm} {tt : TT} {t : Tm} {te : TE} {m : Em} (hj : ∀ j ∈ js, j ∈ vs) (hg : SG K js gt gm) (ht : ST K mg (fun _ _ _ _ => False) tt t) (hm : SE K mg (fun _ _ _ _ => False) te m) :
    SL K mg E (tLc (iSeq K (tVar ix)) gt tt te vs) (lLcB ix vs gm t m) := by
  refine ⟨fun F σ en G H Q g h0 => ?_⟩
  unfold lLcB at h0
  split at h0
  · exact h0.elim
  rename_i ds0 e0
  obtain ⟨p, ws, k1, k2, k3, k4, k5⟩ := g.own (ownL_some e0)
  split at h0
  case isFalse => exact h0.elim
  rename_i hno
  obtain ⟨no, hix, hlen⟩ := hno
  obtain ⟨⟨all, enF⟩, eF, pF⟩ := calm_bind (P := PoL K mg (E σ) F σ G Q) id h0
  refine ⟨.ref p, k1, p, rfl, .inl ⟨⟨ws, .inl (.inl k3)⟩, ?_⟩⟩
  intro L hL
  have hGL : G L = none := Same.free g.gf.gh hL
  have f := gf0_new (o := .lst []) g.gf.gh hL
  have gw := (g.grow f).wipe (vs := vs)
  refine lc_loopB (Qd := fun H => Q (.ref L) H) (acc0 := []) (da0 := []) hj hg ht hm hix (by rw [wipe_other hix]; exact k1) gw hGL (h0_new g hL) upd_same .nil (free_new (g.wipe (vs := vs)) hL f) (by
    show 0 + (ds0.length + 1) < sizeLine
    rw [Nat.zero_add]; exact Nat.lt_of_le_of_lt hlen (by decide)) eF fun G' H' acc g' s' hg' hh' hd' fr' => ?_
  refine pF L acc G' H' (g.rest no s' g') s' hg' hh' hd' (h0_new g hL) fun j mo v as e1 e2 ow => ?_
  by_cases hj' : j ∈ vs
  · have hl : en.length = enF.length := by rw [g.len, g'.len, wipe_length]
    exact absurd (restE_at hl hj' e1) (noOwn_at no hj')
  · rw [restE_other hj'] at e1
    exact fr' j mo v as e1 (by rw [wipe_other hj']; exact e2) ow
end
end Mir
end

section
set_option Elab.async false
set_option linter.all false
set_option maxRecDepth 100000
set_option maxHeartbeats 4000000
/-! Mir13: what a law's walk is written in; the head's facts. -/
namespace Mir
open PySem PySem.Spec PyProof.Rows L2

/-! ### the head: facts, defs, and yes or no of one's own -/
abbrev YesNo : Type := PySem.W.Frag → Bool
abbrev AlM : Type := Bool × List He.FnW
def obsM (fa : List He.Fa) (fn : List He.DefD) (ys : List YesNo) (K : PySem.W.Frag) : AlM := ((fa.all fun f => f.ok K) && ((fn.all fun d => d.ok K) && ys.all fun y => y K), fn.map fun d => He.fnW K d.at_)
def valM (fn : List He.DefD) : AlM := (true, fn.map He.DefD.val)
def SaysM (fa : List He.Fa) (fn : List He.DefD) (ys : List YesNo) (K : PySem.W.Frag) : Prop := obsM fa fn ys K = valM fn
def obsMG (n : Nat) (fa : List He.Fa) (fn : List He.DefD) (ys : List YesNo) (g : Addr → Option Obj) : AlM := obsM fa fn ys (He.frG g (He.asD g n))
def hookM (n : Nat) (fa : List He.Fa) (fn : List He.DefD) (ys : List YesNo) : PySem.W.Hook where
  α := AlM
  obs := fun s => obsMG n fa fn ys s.heap.get?
  val := fun _ => valM fn
  says := fun _ h => ∃ K : PySem.W.Frag, K.In h ∧ SaysM fa fn ys K
  of := fun _ _ e => ⟨_, He.frG_in, e⟩
  keeps := fun _ _ _ ⟨K, hK, c⟩ k => ⟨K, PySem.W.Frag.In.keeps hK k, c⟩
theorem obsMG_eq {n : Nat} {fa : List He.Fa} {fn : List He.DefD} {ys : List YesNo} {g : Addr → Option Obj} {s : Shared} (h : ∀ a, g a = s.heap.get? a) : obsMG n fa fn ys g = (hookM n fa fn ys).obs s := by
  have e : g = s.heap.get? := funext h
  rw [e]
  rfl
section
variable {fa : List He.Fa} {fn : List He.DefD} {ys : List YesNo} {K : PySem.W.Frag}
theorem SaysM.yes (c : SaysM fa fn ys K) : (fa.all fun f => f.ok K) = true ∧ (fn.all fun d => d.ok K) = true ∧ (ys.all fun y => y K) = true := by
  have h : ((fa.all fun f => f.ok K) && ((fn.all fun d => d.ok K) && ys.all fun y => y K)) = true := congrArg (fun z : AlM => z.1) c
  rw [Bool.and_eq_true, Bool.and_eq_true] at h
  exact h
theorem SaysM.fact (c : SaysM fa fn ys K) {f : He.Fa} (h : f ∈ fa) : f.ok K = true := List.all_eq_true.mp c.yes.1 f h
theorem SaysM.own (c : SaysM fa fn ys K) {y : YesNo} (h : y ∈ ys) : y K = true := List.all_eq_true.mp c.yes.2.2 y h
theorem SaysM.def_ (c : SaysM fa fn ys K) {d : He.DefD} (h : d ∈ fn) : ∃ fd, FunD K d.name d.qual d.params d.body d.scope (d.dvs K) (d.kws K) (He.fAd K d.at_) fd := by
  obtain ⟨i, hi⟩ := List.mem_iff_getElem?.mp h
  have e : fn.map (fun d => He.fnW K d.at_) = fn.map He.DefD.val := congrArg (fun z : AlM => z.2) c
  have e2 : (fn.map fun d => He.fnW K d.at_)[i]? = (fn.map He.DefD.val)[i]? := by rw [e]
  rw [List.getElem?_map, List.getElem?_map, hi] at e2
  exact He.DefD.funD (Option.some.inj e2) (List.all_eq_true.mp c.yes.2.1 d h)
end
/-- what the walk knows of the module -/
structure Tx (fa : List He.Fa) (fn : List He.DefD) (ys : List YesNo) (K : PySem.W.Frag) (mg : Str → Option Value) : Prop where
  says : SaysM fa fn ys K
  glo : ∀ x, He.Fa.glo x ∈ fa → mg x = some (.ref (He.ga K x))
  free : ∀ x, He.Fa.free x ∈ fa → mg x = none
theorem tx_of {fa : List He.Fa} {fn : List He.DefD} {ys : List YesNo} {K : PySem.W.Frag} {mg : Str → Option Value} {h : Heap} (X : K.In h) (G : h.Ns mainGlobals mg) (c : SaysM fa fn ys K) : Tx fa fn ys K mg :=
  ⟨c, fun x hx => He.glo_ok X G (c.fact hx), fun x hx => He.free_ok X G (c.fact hx)⟩

section
variable {K : PySem.W.Frag} {mg : Str → Option Value} {E : L2.St → XK}
def tmYes : Tm := fun en => .ok (true, en)
theorem st_yes : ST K mg E tYes tmYes := ⟨fun F σ en G H Q g h => h G H g (Same.refl _)⟩
end
theorem noSl_str {x : Str} {j : Nat} {p : Pos} : NoSl (.Constant (.str x) j p) := fun _ _ => rfl
/-! ### a def that may be called -/
structure CalG (P : Program) (w : World) (K : PySem.W.Frag) (mg : Str → Option Value) (base : Heap) (k : Nat) (d : He.DefD) (ps : List Str) (sp : Sp) : Prop where
  ex : ∃ fd, FunD K d.name d.qual d.params d.body d.scope [] [] (He.fAd K d.at_) fd ∧ FnG P w K mg base (L2.CX P w) k (He.fAd K d.at_) fd ps sp ∧ Binds K fd ps []
  glo : mg d.name = some (.ref (He.fAd K d.at_))
section
variable {X : Cx} {j k n : Nat} {d : He.DefD} {ps ks : List Str} {perm : List Nat} {sp : Sp} {E : L2.St → XK} {p pos : Pos} {e : Expr} {es : List Expr} {kws : List Keyword} {t tk : TA}
theorem pe_calX (c : CalG X.prog X.w X.K X.mg X.base k d ps sp) (hgd : X.A.guards = some []) (hr : Room j X.A) (hk : k ≤ j) (hx : ∀ σ, PassesAt (L2.CX X.prog X.w) X σ (E σ)) (ha : PA X (e :: es) t) (hg : Gl X d.name := by rfl) (hdb : (d.name == ("__debug__" : Str)) = false := by decide)
    (he : starEach (e :: es) X.env = (false, eval e X.env) :: starEach es X.env := by rfl) (hpl : (backTo pos (starEach es X.env)).any (·.1) = false := by rfl) : PE X (.Call (.Name d.name p) (e :: es) [] pos) (tCallG sp E t) := by
  obtain ⟨fd, F, Fn, B⟩ := c.ex
  exact pe_callG Fn hgd (hr.mono hk) hg c.glo F.kp B hx ha hdb he hpl
theorem pe_cal0X (c : CalG X.prog X.w X.K X.mg X.base k d ps sp) (hgd : X.A.guards = some []) (hr : Room j X.A) (hk : k ≤ j) (hx : ∀ σ, PassesAt (L2.CX X.prog X.w) X σ (E σ))
    (hb : ∀ (kV doc pm : Value) (an : Option Addr) (cdv ct : Value) (us ws : List Value), us.length = 0 → ws.length = ks.length → bindArgs (PySem.W.fnOf d.name d.qual d.params d.body d.scope .none kV doc pm an cdv ct) ⟨us, ks.zip ws⟩ = pure (ps.zip (permL perm (us ++ ws))))
    (hkw : PK X kws tk) (hg : Gl X d.name := by rfl) (hall : (backToKw pos (keywordEach kws X.env)).all (·.1.isSome) = true := by rfl) (hks : (backToKw pos (keywordEach kws X.env)).filterMap (·.1) = ks := by rfl) (hdb : (d.name == ("__debug__" : Str)) = false := by decide)
    (hpl : ((backTo pos (starEach [] X.env)).any (·.1) || (backToKw pos (keywordEach kws X.env)).any (·.1.isNone)) = false := by rfl) :
    PE X (.Call (.Name d.name p) [] kws pos) (tCallGK sp 0 ks.length perm E tNil tk) := by
  obtain ⟨fd, F, Fn, B⟩ := c.ex
  exact pe_callG0 Fn hgd (hr.mono hk) hg c.glo F.kp (kwB_of F 0 perm hb) hx hkw hall hks hdb hpl
theorem pe_calkX (c : CalG X.prog X.w X.K X.mg X.base k d ps sp) (hgd : X.A.guards = some []) (hr : Room j X.A) (hk : k ≤ j) (hx : ∀ σ, PassesAt (L2.CX X.prog X.w) X σ (E σ))
    (hb : ∀ (kV doc pm : Value) (an : Option Addr) (cdv ct : Value) (us ws : List Value), us.length = n → ws.length = ks.length → bindArgs (PySem.W.fnOf d.name d.qual d.params d.body d.scope .none kV doc pm an cdv ct) ⟨us, ks.zip ws⟩ = pure (ps.zip (permL perm (us ++ ws))))
    (ha : PA X (e :: es) t) (hkw : PK X kws tk) (hg : Gl X d.name := by rfl) (hall : (backToKw pos (keywordEach kws X.env)).all (·.1.isSome) = true := by rfl) (hks : (backToKw pos (keywordEach kws X.env)).filterMap (·.1) = ks := by rfl) (hdb : (d.name == ("__debug__" : Str)) = false := by decide)
    (he : starEach (e :: es) X.env = (false, eval e X.env) :: starEach es X.env := by rfl) (hpl : ((backTo pos (starEach (e :: es) X.env)).any (·.1) || (backToKw pos (keywordEach kws X.env)).any (·.1.isNone)) = false := by rfl) :
    PE X (.Call (.Name d.name p) (e :: es) kws pos) (tCallGK sp n ks.length perm E t tk) := by
  obtain ⟨fd, F, Fn, B⟩ := c.ex
  exact pe_callGk Fn hgd (hr.mono hk) hg c.glo F.kp (kwB_of F n perm hb) hx ha hkw hall hks hdb he hpl
variable {P : Program} {w : World} {K : PySem.W.Frag} {mg : Str → Option Value} {base : Heap}
theorem pe_cal (c : CalG P w K mg base k d ps sp) (hgd : X.A.guards = some []) (hr : Room j X.A) (hk : k ≤ j) (hx : ∀ σ, PassesAt (L2.CX X.prog X.w) X σ (E σ)) (ha : PA X (e :: es) t) (z1 : X.prog = P := by rfl) (z2 : X.w = w := by rfl) (z3 : X.K = K := by rfl) (z4 : X.mg = mg := by rfl) (z5 : X.base = base := by rfl)
    (hg : Gl X d.name := by rfl) (hdb : (d.name == ("__debug__" : Str)) = false := by decide) (he : starEach (e :: es) X.env = (false, eval e X.env) :: starEach es X.env := by rfl) (hpl : (backTo pos (starEach es X.env)).any (·.1) = false := by rfl) : PE X (.Call (.Name d.name p) (e :: es) [] pos) (tCallG sp E t) := by
  subst z1 z2 z3 z4 z5
  exact pe_calX c hgd hr hk hx ha hg hdb he hpl
theorem pe_cal0 (c : CalG P w K mg base k d ps sp) (hgd : X.A.guards = some []) (hr : Room j X.A) (hk : k ≤ j) (hx : ∀ σ, PassesAt (L2.CX X.prog X.w) X σ (E σ))
    (hb : ∀ (kV doc pm : Value) (an : Option Addr) (cdv ct : Value) (us ws : List Value), us.length = 0 → ws.length = ks.length → bindArgs (PySem.W.fnOf d.name d.qual d.params d.body d.scope .none kV doc pm an cdv ct) ⟨us, ks.zip ws⟩ = pure (ps.zip (permL perm (us ++ ws))))
    (hkw : PK X kws tk) (z1 : X.prog = P := by rfl) (z2 : X.w = w := by rfl) (z3 : X.K = K := by rfl) (z4 : X.mg = mg := by rfl) (z5 : X.base = base := by rfl) (hg : Gl X d.name := by rfl) (hall : (backToKw pos (keywordEach kws X.env)).all (·.1.isSome) = true := by rfl) (hks : (backToKw pos (keywordEach kws X.env)).filterMap (·.1) = ks := by rfl) (hdb : (d.name == ("__debug__" : Str)) = false := by decide)
    (hpl : ((backTo pos (starEach [] X.env)).any (·.1) || (backToKw pos (keywordEach kws X.env)).any (·.1.isNone)) = false := by rfl) :
    PE X (.Call (.Name d.name p) [] kws pos) (tCallGK sp 0 ks.length perm E tNil tk) := by
  subst z1 z2 z3 z4 z5
  exact pe_cal0X c hgd hr hk hx hb hkw hg hall hks hdb hpl
theorem pe_calk (c : CalG P w K mg base k d ps sp) (hgd : X.A.guards = some []) (hr : Room j X.A) (hk : k ≤ j) (hx : ∀ σ, PassesAt (L2.CX X.prog X.w) X σ (E σ))
    (hb : ∀ (kV doc pm : Value) (an : Option Addr) (cdv ct : Value) (us ws : List Value), us.length = n → ws.length = ks.length → bindArgs (PySem.W.fnOf d.name d.qual d.params d.body d.scope .none kV doc pm an cdv ct) ⟨us, ks.zip ws⟩ = pure (ps.zip (permL perm (us ++ ws))))
    (ha : PA X (e :: es) t) (hkw : PK X kws tk) (z1 : X.prog = P := by rfl) (z2 : X.w = w := by rfl) (z3 : X.K = K := by rfl) (z4 : X.mg = mg := by rfl) (z5 : X.base = base := by rfl) (hg : Gl X d.name := by rfl) (hall : (backToKw pos (keywordEach kws X.env)).all (·.1.isSome) = true := by rfl) (hks : (backToKw pos (keywordEach kws X.env)).filterMap (·.1) = ks := by rfl) (hdb : (d.name == ("__debug__" : Str)) = false := by decide)
    (he : starEach (e :: es) X.env = (false, eval e X.env) :: starEach es X.env := by rfl) (hpl : ((backTo pos (starEach (e :: es) X.env)).any (·.1) || (backToKw pos (keywordEach kws X.env)).any (·.1.isNone)) = false := by rfl) :
    PE X (.Call (.Name d.name p) (e :: es) kws pos) (tCallGK sp n ks.length perm E t tk) := by
  subst z1 z2 z3 z4 z5
  exact pe_calkX c hgd hr hk hx hb ha hkw hg hall hks hdb he hpl
/-- nothing passes -/
theorem passF {X : Cx} (σ : L2.St) : PassesAt (L2.CX X.prog X.w) X σ (fun _ _ _ => False) := fun _ _ _ _ _ _ ⟨_, _, _, _, _, _, _, _, _, _, _, _, z⟩ => z.elim
theorem passE {X : Cx} {E : XK} (tk : Takes X (fun cls d _ H => E cls d H)) (σ : L2.St) : PassesAt (L2.CX X.prog X.w) X σ E := passAt tk σ
theorem room65 {k : Nat} {A : Around} (r : Room k A) : A.units + 65 < cLine := by have := r.un; omega
theorem room1 {k : Nat} {A : Around} (r : Room k A) : A.units + 1 < cLine := by have := r.un; omega
/-- append to a list -/
theorem ps_app {i : Nat} {x : Str} {e : Expr} {te : TE} {p apos pos pos2 : Pos} (hN : X.N[i]? = some x) (hv : Vis X.env.scope x) (he : PE X (.Call (.Attribute (.Name x p) "append" apos) [e] [] pos) (tBM X.K "list" rAppend (tVar i) (tCons te tNil)))
    (hs : swapsWith (.Call (.Attribute (.Name x p) "append" apos) [e] [] pos) none pos2.line X.env = pure false := by rfl) :
    PS X (.Expr (.Call (.Attribute (.Name x p) "append" apos) [e] [] pos) pos2) (tDrop (tBM X.K "list" rAppend (tVar i) (tCons te tNil))) := ps_expr he hs
end
/-- a class's own statement -/
def clsBody (s : Stmt) (j : Nat) : Stmt := match s with
  | .ClassDef _ _ _ b _ _ _ _ _ _ _ => b.getD j (.Pass ⟨0, 0, 0, 0⟩)
  | s => s
/-- an own error's class: its facts, its __init__ -/
structure ErrC (P : Program) (w : World) (K : PySem.W.Frag) (mg : Str → Option Value) (base : Heap) (c f1 f2 : Str) (d : He.DefD) : Prop where
  oex : OexC K (He.ga K c)
  glo : mg c = some (.ref (He.ga K c))
  init : PySem.W.findIn K (.ref (He.ga K c)) "__init__" = some (some (.ref (He.fAd K d.at_)))
  ty : PySem.W.typeIn K (.ref (He.fAd K d.at_)) = some (.type "function")
  run : ∃ fd, FnOk P w K mg base (L2.CX P w) 1 (He.fAd K d.at_) fd [("self" : Str), f1, f2] (spIni (He.ga K c) f1 f2) ∧ Binds K fd [("self" : Str), f1, f2] []
def errY (c : Str) (d : Str × Option Str) (f1 f2 : Str) : List YesNo := [fun K => oexB K (He.ga K c), fun K => decide (PySem.W.findIn K (.ref (He.ga K c)) "__init__" = some (some (.ref (He.fAd K d)))), fun K => decide (PySem.W.typeIn K (.ref (He.fAd K d)) = some (.type "function")),
  fun K => decide (PySem.W.findIn K (.ref (He.ga K c)) f1 = some none), fun K => decide (PySem.W.findIn K (.ref (He.ga K c)) f2 = some none), fun K => xfB K (He.ga K c)]
theorem errC_of {P : Program} {w : World} {fa : List He.Fa} {fn : List He.DefD} {ys : List YesNo} {K : PySem.W.Frag} {mg : Str → Option Value} {base : Heap} {c f1 f2 : Str} {d : He.DefD} (T : Tx fa fn ys K mg) (hd : d ∈ fn) (hdf : d.dfl = []) (hkw : d.kwd = []) (hc : He.Fa.glo c ∈ fa) (hy : ∀ y ∈ errY c d.at_ f1 f2, y ∈ ys)
    (S : FnScope [("self" : Str), f1, f2] [("self" : Str), f1, f2] d.scope) (hb : ∀ (kV doc pm : Value) (an : Option Addr) (cdv ct : Value) (us : List Value), us.length = 3 → bindArgs (PySem.W.fnOf d.name d.qual d.params d.body d.scope .none kV doc pm an cdv ct) ⟨us, []⟩ = pure ((["self", f1, f2] : List Str).zip us))
    (hp : ∀ X : Cx, X.N = [("self" : Str), f1, f2] → X.env.scope = d.scope → PSs X d.body (tIni X.K f1 f2)) : ErrC P w K mg base c f1 f2 d := by
  have y0 : oexB K (He.ga K c) = true := T.says.own (y := fun K => oexB K (He.ga K c)) (hy _ (by simp [errY]))
  have y1 : decide (PySem.W.findIn K (.ref (He.ga K c)) "__init__" = some (some (.ref (He.fAd K d.at_)))) = true := T.says.own (y := fun K => decide (PySem.W.findIn K (.ref (He.ga K c)) "__init__" = some (some (.ref (He.fAd K d.at_))))) (hy _ (by simp [errY]))
  have y2 : decide (PySem.W.typeIn K (.ref (He.fAd K d.at_)) = some (.type "function")) = true := T.says.own (y := fun K => decide (PySem.W.typeIn K (.ref (He.fAd K d.at_)) = some (.type "function"))) (hy _ (by simp [errY]))
  have y3 : decide (PySem.W.findIn K (.ref (He.ga K c)) f1 = some none) = true := T.says.own (y := fun K => decide (PySem.W.findIn K (.ref (He.ga K c)) f1 = some none)) (hy _ (by simp [errY]))
  have y4 : decide (PySem.W.findIn K (.ref (He.ga K c)) f2 = some none) = true := T.says.own (y := fun K => decide (PySem.W.findIn K (.ref (He.ga K c)) f2 = some none)) (hy _ (by simp [errY]))
  obtain ⟨fd, F⟩ := T.says.def_ hd
  have e1 : d.dvs K = [] := by unfold He.DefD.dvs; rw [hdf]; rfl
  have e2 : d.kws K = [] := by unfold He.DefD.kws; rw [hkw]; rfl
  rw [e1, e2] at F
  have o := oexB_ok y0
  refine ⟨o, T.glo c hc, of_decide_eq_true y1, of_decide_eq_true y2, fd, ?_, F.bindsN fun a b c d e f us hl => hb a b c d e f us hl⟩
  refine F.ok S (fun vs H Q E h => ?_) (fun cdv A outer s H vs Q E hr h => ⟨tIni K f1 f2, hp _ rfl rfl, pure_ini o (of_decide_eq_true y3) (of_decide_eq_true y4) rfl vs H Q E h⟩)
  obtain ⟨a, x, y, rfl, _⟩ := h
  rfl
theorem ps_raiseC {X : Cx} {E : XK} {j : Nat} {c f1 f2 : Str} {d : He.DefD} {e : Expr} {es : List Expr} {ta : TA} {p pos pos2 : Pos} (C : ErrC X.prog X.w X.K X.mg X.base c f1 f2 d) (hc : X.calm = true) (hr : Room j X.A) (hk : 2 ≤ j) (tk : Takes X (fun cls d _ H => E cls d H)) (ha : PA X (e :: es) ta) (hg : Gl X c := by rfl)
    (hdb : (c == ("__debug__" : Str)) = false := by decide) (he : starEach (e :: es) X.env = (false, eval e X.env) :: starEach es X.env := by rfl) (hpl : (backTo pos (starEach es X.env)).any (·.1) = false := by rfl) :
    PS X (.Raise (some (.Call (.Name c p) (e :: es) [] pos)) none pos2) (fun _ σ H => tMkO (He.ga X.K c) (spIni (He.ga X.K c) f1 f2) [] ta σ H fun cls d H' => E cls d H') := by
  obtain ⟨fd, F, B⟩ := C.run
  exact ps_raise (W := fun cls d _ H => E cls d H) hc tk (pmk_oex C.oex C.init C.ty F (hr.mono hk) B .nil (fun pins σ H s e s' I c => by
    obtain ⟨_, _, _, _, _, _, _, _, _, _, _, _, z⟩ := c
    exact z.elim) hg C.glo ha hdb he hpl)
end Mir
end

section
set_option Elab.async false
set_option linter.all false
set_option maxRecDepth 100000
set_option maxHeartbeats 4000000
/-! Mir14: two comparisons in a chain, ranges downward, zip, a list so many times, a list turned round, defs that hand back their own list, defs that call themselves. -/
namespace Mir
open PySem PySem.Spec PyProof.Rows L2
section
variable {K : PySem.W.Frag} {mg : Str → Option Value} {E : L2.St → XK} {F : Fm} {σ : L2.St} {G G' H H' : Hp} {en : En}
/-! ### a < b < c -/
def eChain (f f' : D → D → Rs D) (a b c : Em) : Em := fun en => (a en).bind fun p => (b p.2).bind fun q => (f p.1 q.1).calm.bind fun z => match z with
  | .bool true => (c q.2).bind fun w => (f' q.1 w.1).calm.bind fun z' => .ok (z', w.2)
  | .bool false => .ok (.bool false, q.2)
  | _ => .stk
theorem se_chain {r r' : R2} {f f' : D → D → Rs D} {ta tb tc : TE} {a b c : Em} (ho : O2 K r f) (ho' : O2 K r' f') (h1 : SE K mg E ta a) (h2 : SE K mg E tb b) (h3 : SE K mg E tc c) : SE K mg E (tChain r r' ta tb tc) (eChain f f' a b c) := by
  refine ⟨fun F σ en G H Q g h => ?_⟩
  show ta σ H _
  refine se_bind h1 g poE_err id h fun d en1 v G1 H1 p1 g1 s1 d1 => ?_
  refine se_bind h2 g1 poE_err id p1 fun e en2 u G2 H2 p2 g2 s2 d2 => ?_
  obtain ⟨z, ez, pz⟩ := calm_bind (P := PoE K mg (E σ) F σ G Q) id p2
  refine ho.run G2 H2 v u d e z g2.gf.gh (dp_mono s2 _ _ d1) d2 ez _ fun w G3 H3 f3 dw => ?_
  cases z with
  | bool k =>
    cases dw
    have g3 := g2.grow f3
    have s3 := (s1.trans s2).trans f3.g0
    cases k with
    | true =>
      refine ⟨true, rfl, ?_⟩
      rw [if_pos rfl]
      refine se_bind h3 g3 poE_err id pz fun e' en4 u' G4 H4 p4 g4 s4 d4 => ?_
      obtain ⟨z', ez', pz'⟩ := calm_bind (P := PoE K mg (E σ) F σ G Q) id p4
      exact ho'.run G4 H4 u u' e e' z' g4.gf.gh (dp_mono (f3.g0.trans s4) _ _ d2) d4 ez' Q fun w' G5 H5 f5 dw' => pz' w' G5 H5 (g4.grow f5) ((s3.trans s4).trans f5.g0) dw'
    | false =>
      refine ⟨false, rfl, ?_⟩
      rw [if_neg Bool.false_ne_true]
      exact pz (.bl false) G3 H3 g3 s3 (.bl false)
  | none => exact (show False from pz).elim
  | int i => exact (show False from pz).elim
  | str x => exact (show False from pz).elim
  | list ds => exact (show False from pz).elim
  | tuple ds => exact (show False from pz).elim
  | dict kvs => exact (show False from pz).elim
/-! ### range downward -/
def downD (hi : Int) (n : Nat) : List D := (List.range n).map fun i => PyData.int (hi + (i : Nat) * (-1))
def rng3 : List D → Rs (List D)
  | [.int a, .int b, .int c] => if c = -1 ∧ (a ≤ 100000 ∧ -100000 ≤ a) ∧ b ≤ 100000 ∧ -100000 ≤ b then .ok (downD a (a - b).toNat) else .stk
  | _ => .stk
theorem itOk_down {lo : Int} {n : Nat} : ItOk K G (Itc lo (-1) n) (downD lo n) := by
  intro i G1 H1 s1 s2
  refine ⟨fun d e => ?_, fun e => ?_⟩
  · have hi : i < n := by
      have := (List.getElem?_eq_some_iff.mp e).1
      unfold downD at this
      simpa using this
    unfold downD at e
    rw [List.getElem?_map, List.getElem?_range hi] at e
    cases e
    refine ⟨hi, fun x H2 y => ?_⟩
    obtain ⟨rfl, rfl⟩ := y
    exact ⟨G1, gf0_refl s2, .int _⟩
  · have := List.getElem?_eq_none_iff.mp e
    show n ≤ i
    unfold downD at this
    simpa using this
theorem si_rng3 {ta : TA} {a : Am} (h1 : SA K mg E ta a) : SI K mg E (iRng3 ta) (imRng rng3 a) := by
  refine ⟨fun F σ en G H R g h => ?_⟩
  show ta σ H _
  refine sa_bind h1 g poI_err id h fun ds en1 vs G1 H1 p1 g1 s1 d1 => ?_
  have p1' : PoI K mg (E σ) F σ G R ((rng3 ds).bind fun ds => .ok (ds, en1)) := p1
  unfold rng3 at p1'
  split at p1'
  · rename_i a b c
    split at p1'
    · rename_i hn
      obtain ⟨rfl, ha, hb⟩ := hn
      cases d1 with
      | cons x t =>
        cases x
        cases t with
        | cons y t =>
          cases y
          cases t with
          | cons z t =>
            cases z
            cases t
            refine ⟨a, b, -1, (a - b).toNat, rfl, RgC.neg (by omega) (by omega) (by omega) (by omega), p1' _ G1 H1 g1 s1 ?_⟩
            exact itOk_down
    · exact (show False from p1').elim
  · exact (show False from p1').elim
/-! ### zip of two tuples or two lists -/
def zipD : List D → List D → List D
  | x :: xs, y :: ys => .tuple [x, y] :: zipD xs ys
  | _, _ => []
theorem zipD_get : ∀ {xs ys : List D} {i : Nat} {d : D}, (zipD xs ys)[i]? = some d → ∃ x y, xs[i]? = some x ∧ ys[i]? = some y ∧ d = .tuple [x, y]
  | [], _, i, d, h => by unfold zipD at h; cases h
  | _ :: _, [], i, d, h => by unfold zipD at h; cases h
  | x :: xs, y :: ys, 0, d, h => by
    unfold zipD at h
    cases h
    exact ⟨x, y, rfl, rfl, rfl⟩
  | x :: xs, y :: ys, i + 1, d, h => by
    unfold zipD at h
    obtain ⟨a, b, h1, h2, h3⟩ := zipD_get (xs := xs) (ys := ys) (i := i) (d := d) (by simpa using h)
    exact ⟨a, b, by simpa using h1, by simpa using h2, h3⟩
theorem zipD_len : ∀ (xs ys : List D), (zipD xs ys).length = min xs.length ys.length
  | [], _ => by unfold zipD; simp
  | _ :: _, [] => by unfold zipD; simp
  | x :: xs, y :: ys => by
    unfold zipD
    rw [List.length_cons, zipD_len xs ys, List.length_cons, List.length_cons]
    omega
def zipM : List D → Rs (List D)
  | [.tuple xs, .tuple ys] => .ok (zipD xs ys)
  | [.list xs, .list ys] => .ok (zipD xs ys)
  | _ => .stk
theorem gf_tup2 {x y : V} {dx dy : D} {T : Addr} (gh : Same G H) (hT : H T = none) (h1 : Dp K G x dx) (h2 : Dp K G y dy) : ∃ G2, Gf (F0 G H) G2 (upd H T (.tup [x, y])) ∧ Dp K G2 (.ref T) (.tuple [dx, dy]) := by
  have f := gf0_newG (o := .tup [x, y]) gh hT
  exact ⟨_, f, .tup (.inl (.inl upd_same)) (.cons (dp_mono f.g0 _ _ h1) (.cons (dp_mono f.g0 _ _ h2) .nil))⟩
theorem itOk_zipT {a b : Addr} {xs ys : List V} {ds es : List D} (h1 : SqT K G a xs) (h2 : SqT K G b ys) (d1 : DpAll K G xs ds) (d2 : DpAll K G ys es) : ItOk K G (RZ.ItzT K a b) (zipD ds es) := by
  intro i G1 H1 s1 s2
  have q1 : SqT K H1 a xs := seqT_mono s2 (seqT_mono s1 h1)
  have q2 : SqT K H1 b ys := seqT_mono s2 (seqT_mono s1 h2)
  refine ⟨fun d e => ?_, fun e => ?_⟩
  · obtain ⟨dx, dy, e1, e2, rfl⟩ := zipD_get e
    obtain ⟨x, ex, px⟩ := dpa_get d1 e1
    obtain ⟨y, ey, py⟩ := dpa_get d2 e2
    refine ⟨⟨xs, ys, x, y, q1, q2, ex, ey⟩, fun v H2 z => ?_⟩
    obtain ⟨T, x', y', rfl, hT, rfl, k1, k2⟩ := z
    have e3 : x' = x := Option.some.inj ((k1 xs q1).symm.trans ex)
    have e4 : y' = y := Option.some.inj ((k2 ys q2).symm.trans ey)
    subst e3 e4
    exact gf_tup2 s2 hT (dp_mono s1 _ _ px) (dp_mono s1 _ _ py)
  · refine ⟨xs, ys, q1, q2, ?_⟩
    have := List.getElem?_eq_none_iff.mp e
    rw [zipD_len] at this
    have := dpa_len d1
    have := dpa_len d2
    omega
theorem itOk_zipL {a b : Addr} {xs ys : List V} {ds es : List D} (h1 : SqL K G a xs) (h2 : SqL K G b ys) (d1 : DpAll K G xs ds) (d2 : DpAll K G ys es) : ItOk K G (Itz K a b) (zipD ds es) := by
  intro i G1 H1 s1 s2
  have q1 : SqL K H1 a xs := s2.seq (s1.seq h1)
  have q2 : SqL K H1 b ys := s2.seq (s1.seq h2)
  refine ⟨fun d e => ?_, fun e => ?_⟩
  · obtain ⟨dx, dy, e1, e2, rfl⟩ := zipD_get e
    obtain ⟨x, ex, px⟩ := dpa_get d1 e1
    obtain ⟨y, ey, py⟩ := dpa_get d2 e2
    refine ⟨⟨xs, ys, x, y, q1, q2, ex, ey⟩, fun v H2 z => ?_⟩
    obtain ⟨T, x', y', rfl, hT, rfl, k1, k2⟩ := z
    have e3 : x' = x := Option.some.inj ((k1 xs q1).symm.trans ex)
    have e4 : y' = y := Option.some.inj ((k2 ys q2).symm.trans ey)
    subst e3 e4
    exact gf_tup2 s2 hT (dp_mono s1 _ _ px) (dp_mono s1 _ _ py)
  · refine ⟨xs, ys, q1, q2, ?_⟩
    have := List.getElem?_eq_none_iff.mp e
    rw [zipD_len] at this
    have := dpa_len d1
    have := dpa_len d2
    omega
theorem si_zip {ta : TA} {a : Am} (h1 : SA K mg E ta a) : SI K mg E (RZ.iZipA K ta) (imRng zipM a) := by
  refine ⟨fun F σ en G H R g h => ?_⟩
  show ta σ H _
  refine sa_bind h1 g poI_err id h fun ds en1 vs G1 H1 p1 g1 s1 d1 => ?_
  have p1' : PoI K mg (E σ) F σ G R ((zipM ds).bind fun ds => .ok (ds, en1)) := p1
  unfold zipM at p1'
  split at p1'
  · rename_i xs ys
    cases d1 with
    | cons x t =>
      cases t with
      | cons y t =>
        cases t
        cases x with
        | @tup a us _ hs ha =>
          cases y with
          | @tup b ws _ hs2 ha2 => exact ⟨a, b, us, ws, rfl, .inr ⟨seqT_mono g1.gf.gh hs, seqT_mono g1.gf.gh hs2, p1' _ G1 H1 g1 s1 (itOk_zipT hs hs2 ha ha2)⟩⟩
  · rename_i xs ys
    cases d1 with
    | cons x t =>
      cases t with
      | cons y t =>
        cases t
        cases x with
        | @lst a us _ hs ha =>
          cases y with
          | @lst b ws _ hs2 ha2 => exact ⟨a, b, us, ws, rfl, .inl ⟨g1.gf.gh.seq hs, g1.gf.gh.seq hs2, p1' _ G1 H1 g1 s1 (itOk_zipL hs hs2 ha ha2)⟩⟩
  · exact (show False from p1').elim
/-! ### [x] * n -/
def lRep (a : Am) (m : Em) : Am := fun en => (a en).bind fun p => (m p.2).bind fun q => match q.1 with
  | .int k => if (-100000 ≤ k ∧ k ≤ 100000) ∧ p.1.length * k.toNat ≤ big then .ok ((List.replicate k.toNat p.1).flatten, q.2) else .stk
  | _ => .stk
theorem dpa_rep {vs : List V} {ds : List D} (h : DpAll K G vs ds) : ∀ n, DpAll K G (List.replicate n vs).flatten (List.replicate n ds).flatten
  | 0 => .nil
  | n + 1 => by
    rw [List.replicate_succ, List.replicate_succ, List.flatten_cons, List.flatten_cons]
    exact dpa_app h (dpa_rep h n)
theorem sl_rep {ta tb : TE} {a : Am} {m : Em} (h1 : SL K mg E ta a) (h2 : SE K mg E tb m) : SL K mg E (tOp rRep ta tb) (lRep a m) := by
  refine ⟨fun F σ en G H Q g h => ?_⟩
  show ta σ H _
  refine sl_bind h1 g poL_err id h fun ds en1 l vs G1 H1 p1 g1 s1 hg hh hd h0 fr => ?_
  have sm : Same G1 (upd G1 l (.lst vs)) := same_upd hg
  refine se_bind h2 (g1.adopt hg hh (.inr h0) fr) poL_err id p1 fun e en2 u G2 H2 p2 g2 s2 d2 => ?_
  have hl : H2 l = some (.lst vs) := g2.gf.gh _ _ (s2 _ _ upd_same)
  cases e with
  | int k =>
    cases d2
    have p2' : PoL K mg (E σ) F σ G Q (if (-100000 ≤ k ∧ k ≤ 100000) ∧ ds.length * k.toNat ≤ big then .ok ((List.replicate k.toNat ds).flatten, en2) else .stk) := p2
    split at p2'
    case isFalse => exact p2'.elim
    rename_i hk
    refine ⟨l, k, vs, rfl, rfl, hl, by omega, by omega, by rw [dpa_len hd]; exact big_line hk.2, fun p hp => ?_⟩
    have f := gf0_new (o := .lst (List.replicate k.toNat vs).flatten) g2.gf.gh hp
    exact p2' p _ G2 _ (g2.grow f) ((s1.trans sm).trans s2) (Same.free g2.gf.gh hp) upd_same (dpa_rep (dpa_mono (sm.trans s2) _ _ hd) _) (h0_new g2 hp) (free_new g2 hp f)
  | none => exact (show False from p2).elim
  | bool b => exact (show False from p2).elim
  | str x => exact (show False from p2).elim
  | list ds => exact (show False from p2).elim
  | tuple ds => exact (show False from p2).elim
  | dict kvs => exact (show False from p2).elim
/-! ### l[::-1] -/
def lRev (m : Em) : Am := fun en => (m en).bind fun p => match p.1 with
  | .list ds => .ok (ds.reverse, p.2)
  | _ => .stk
theorem sl_rev {te : TE} {m : Em} (h1 : SE K mg E te m) : SL K mg E (tRevL K te) (lRev m) := by
  refine ⟨fun F σ en G H Q g h => ?_⟩
  show te σ H _
  refine se_bind h1 g poL_err id h fun d en1 v G1 H1 p1 g1 s1 d1 => ?_
  cases d with
  | list ds =>
    cases d1 with
    | @lst a xs _ hs ha =>
      refine ⟨a, xs, rfl, g1.gf.gh.seq hs, fun p hp => ?_⟩
      have f := gf0_new (o := .lst xs.reverse) g1.gf.gh hp
      exact (show PoL K mg (E σ) F σ G Q (.ok (ds.reverse, en1)) from p1) p _ G1 _ (g1.grow f) s1 (Same.free g1.gf.gh hp) upd_same (dpa_rev ha) (h0_new g1 hp) (free_new g1 hp f)
  | none => exact (show False from p1).elim
  | bool b => exact (show False from p1).elim
  | int i => exact (show False from p1).elim
  | str x => exact (show False from p1).elim
  | tuple ds => exact (show False from p1).elim
  | dict kvs => exact (show False from p1).elim
end
/-! ### defs that hand back their own list -/
def spO (K : PySem.W.Frag) (mg : Str → Option Value) (m : List D → Rs (List D)) : Sp := fun vs H Q E => ∃ G ds, Same G H ∧ DpAll K G vs ds ∧
  match m ds with
  | .ok zs => ∀ p us G' H', Gf (F0 G H) G' H' → H p = none → G' p = none → H' p = some (.lst us) → DpAll K G' us zs → Q (.ref p) H'
  | _ => False
def lCall (m : List D → Rs (List D)) (a : Am) : Am := fun en => (a en).bind fun p => (m p.1).calm.bind fun zs => .ok (zs, p.2)
section
variable {K : PySem.W.Frag} {mg : Str → Option Value} {E : L2.St → XK}
theorem sl_callO {m : List D → Rs (List D)} {ta : TA} {a : Am} {E1 : L2.St → XK} (h1 : SA K mg E ta a) : SL K mg E (tCallG (spO K mg m) E1 ta) (lCall m a) := by
  refine ⟨fun F σ en G H Q g h => ?_⟩
  show ta σ H _
  refine sa_bind h1 g poL_err id h fun ds en1 vs G1 H1 p1 g1 s1 d1 => ?_
  obtain ⟨zs, ez, pz⟩ := calm_bind (P := PoL K mg (E σ) F σ G Q) id p1
  refine ⟨G1, ds, g1.gf.gh, d1, ?_⟩
  rw [show m ds = .ok zs from ez]
  intro p us G' H' f hp hg hh hd
  exact pz p us G' H' (g1.grow f) (s1.trans f.g0) hg hh hd (h0_new g1 hp) (free_new g1 hp f)
end
/-- a body that ends with its own list -/
structure SOw (K : PySem.W.Frag) (mg : Str → Option Value) (E : XK) (ts : TS) (m : Am) : Prop where
  run : ∀ F σ en G H D, Gd K F G H σ en → (match m en with
    | .ok (ds, en') => ∀ p vs σ' G' H', Gd K F G' H' σ' en' → Same G G' → G' p = none → H' p = some (.lst vs) → DpAll K G' vs ds → (F.Z p ∨ F.H0 p = none) → D.rt (.ref p) H'
    | _ => False) → ts D σ H
section
variable {K : PySem.W.Frag} {mg : Str → Option Value} {E : XK}
def aSeq (a : Sm) (b : Am) : Am := fun en => (a en).calm.bind fun p => match p.1 with
  | .nx => b p.2
  | _ => .stk
def aOwn (i : Nat) : Am := fun en => match en[i]? with
  | some (.own (.lst ds)) => .ok (ds, en)
  | _ => .stk
theorem so_ret {i : Nat} : SOw K mg E (tRet (tVar i)) (aOwn i) := by
  refine ⟨fun F σ en G H D g h => ?_⟩
  unfold aOwn at h
  split at h
  · rename_i ds en' e
    split at e
    · rename_i ds' e'
      cases e
      obtain ⟨p, vs, h1, h2, h3, h4, h5⟩ := g.own e'
      exact ⟨.ref p, h1, h p vs σ G H g (Same.refl _) h2 h3 h4 h5⟩
    · cases e
  · exact h.elim
theorem so_seq {t u : TS} {a : Sm} {b : Am} (h1 : SS K mg E t a) (h2 : SOw K mg E u b) : SOw K mg E (tSeq t u) (aSeq a b) := by
  refine ⟨fun F σ en G H D g h => ?_⟩
  refine h1.run F σ en G H _ g ?_
  unfold aSeq at h
  cases q : a en with
  | stk => rw [q] at h; exact h
  | err c fs => rw [q] at h; exact (show False from h).elim
  | ok z =>
    obtain ⟨fl, en1⟩ := z
    rw [q] at h
    cases fl with
    | nx =>
      intro σ' G' H' g' s'
      refine h2.run F σ' en1 G' H' D g' ?_
      cases q2 : b en1 with
      | stk =>
        have h' : (match b en1 with
          | .ok (ds, en') => ∀ p vs σ' G' H', Gd K F G' H' σ' en' → Same G G' → G' p = none → H' p = some (.lst vs) → DpAll K G' vs ds → (F.Z p ∨ F.H0 p = none) → D.rt (.ref p) H'
          | _ => False) := h
        rw [q2] at h'
        exact h'
      | err c fs =>
        have h' : (match b en1 with
          | .ok (ds, en') => ∀ p vs σ' G' H', Gd K F G' H' σ' en' → Same G G' → G' p = none → H' p = some (.lst vs) → DpAll K G' vs ds → (F.Z p ∨ F.H0 p = none) → D.rt (.ref p) H'
          | _ => False) := h
        rw [q2] at h'
        exact h'
      | ok y =>
        obtain ⟨ds, en2⟩ := y
        have h' : (match b en1 with
          | .ok (ds, en') => ∀ p vs σ' G' H', Gd K F G' H' σ' en' → Same G G' → G' p = none → H' p = some (.lst vs) → DpAll K G' vs ds → (F.Z p ∨ F.H0 p = none) → D.rt (.ref p) H'
          | _ => False) := h
        rw [q2] at h'
        intro p vs σ2 G2 H2 g2 s2
        exact h' p vs σ2 G2 H2 g2 (s'.trans s2)
    | bk => exact (show False from h).elim
    | ct => exact (show False from h).elim
    | rt d => exact (show False from h).elim
end
def fnO (n np : Nat) (m : Am) (ds : List D) : Rs (List D) := if ds.length = np then (m (enOf n ds)).bind fun p => .ok p.1 else .stk
section
variable {P : Program} {w : World} {K : PySem.W.Frag} {mg : Str → Option Value} {base : Heap} {x qual : Str} {params : Arguments} {body : List Stmt} {scope : Scope} {f : Addr} {fd : FuncData} {N ps : List Str} {k : Nat}
theorem fnO_ok {m : Am} (F : FunD K x qual params body scope [] [] f fd) (S : FnScope N ps scope) (hn : ps.length ≤ N.length)
    (hb : ∀ (cdv : Value) (A : Around) (outer : List Env) (s : Shared) (H : Hp) (E : XK), (A.deeper (envOfC qual scope s.heap.objs.size f cdv)).guards = some [] → Room k (A.deeper (envOfC qual scope s.heap.objs.size f cdv)) →
      ∃ t, PSs (cxOf (L2.CX P w) P w K mg base N qual scope f cdv A outer s H E) body t ∧ SOw K mg E t m) :
    FnG P w K mg base (L2.CX P w) (k + 1) f fd ps (spO K mg (fnO N.length ps.length m)) := by
  have len : ∀ vs H Q E, spO K mg (fnO N.length ps.length m) vs H Q E → vs.length = ps.length := by
    rintro vs H Q E ⟨G, ds, gh, hd, h⟩
    by_cases q : ds.length = ps.length
    · rw [dpa_len hd, q]
    · have : fnO N.length ps.length m ds = .stk := if_neg q
      rw [this] at h
      exact h.elim
  refine fnG_of F S len fun cdv A outer s H vs Q E hgd hr hsp => ?_
  obtain ⟨t, h1, h2⟩ := hb cdv A outer s H E hgd hr
  refine ⟨t, h1, ?_⟩
  have hlen := len vs H Q E hsp
  obtain ⟨G, ds, gh, hd, h⟩ := hsp
  refine h2.run (F0 G H) _ (enOf N.length ds) G H _ (gd_start gh hd (by omega)) ?_
  have hq : ds.length = ps.length := by rw [← dpa_len hd]; exact hlen
  have e1 : fnO N.length ps.length m ds = (m (enOf N.length ds)).bind fun p => .ok p.1 := if_pos hq
  rw [e1] at h
  cases q : m (enOf N.length ds) with
  | stk => rw [q] at h; exact h
  | err c fs => rw [q] at h; exact h
  | ok z =>
    obtain ⟨zs, en'⟩ := z
    rw [q] at h
    intro p us σ' G' H' g' s' hg hh hd' hz
    exact h p us G' H' g'.gf (by
      rcases hz with z | z
      · exact z.elim
      · exact z) hg hh hd'
/-- a promise that asks for what cannot be -/
theorem fnG_never {f : Addr} {fd : FuncData} {ps : List Str} {k : Nat} : FnG P w K mg base (L2.CX P w) k f fd ps (spP K mg fun _ => .stk) :=
  ⟨fun _ _ _ _ ⟨_, _, _, _, h⟩ => h.elim, fun _ _ _ _ _ _ _ _ _ _ _ _ _ _ ⟨_, _, _, _, h⟩ => h.elim⟩
end
end Mir
end

section
set_option Elab.async false
set_option linter.all false
set_option maxRecDepth 100000
set_option maxHeartbeats 4000000
/-! MirL: how mirrors are worked out. -/
namespace Mir
open PySem PySem.Spec PyProof.Rows L2

section
variable {en : En}
@[simp] theorem mNext_ap : mNext en = .ok (.nx, en) := rfl
@[simp] theorem mSeq_ap {a b : Sm} : mSeq a b en = (a en).bind fun p => match p.1 with
  | .nx => b p.2
  | f => .ok (f, p.2) := rfl
@[simp] theorem mCont_ap : mCont en = .ok (.ct, en) := rfl
@[simp] theorem mBreak_ap : mBreak en = .ok (.bk, en) := rfl
@[simp] theorem mDrop_ap {m : Em} : mDrop m en = (m en).bind fun p => .ok (.nx, p.2) := rfl
@[simp] theorem mRet_ap {m : Em} : mRet m en = (m en).bind fun p => .ok (.rt p.1, p.2) := rfl
@[simp] theorem mRetN_ap : mRetN en = .ok (.rt .none, en) := rfl
@[simp] theorem mAsg_ap {gm : Gm} {m : Em} : mAsg gm m en = (m en).bind fun p => (gm p.1 p.2).calm.bind fun e => .ok (.nx, e) := rfl
@[simp] theorem mAsgO_ap {i : Nat} {m : Am} : mAsgO i m en = (m en).bind fun p => .ok (.nx, p.2.set i (.own (.lst p.1))) := rfl
@[simp] theorem mIf_ap {t : Tm} {a b : Sm} : mIf t a b en = (t en).bind fun p => if p.1 = true then a p.2 else b p.2 := rfl
@[simp] theorem gmName_ap {j : Nat} {d : D} : gmName j d en = .ok (en.set j (.dat d)) := rfl
@[simp] theorem eC_ap {d : D} : eC d en = .ok (d, en) := rfl
@[simp] theorem aNil_ap : aNil en = .ok ([], en) := rfl
@[simp] theorem aCons_ap {m : Em} {r : Am} : aCons m r en = (m en).bind fun p => (r p.2).bind fun q => .ok (p.1 :: q.1, q.2) := rfl
@[simp] theorem eTup_ap {a : Am} : eTup a en = (a en).bind fun p => if p.1.length ≤ big then .ok (.tuple p.1, p.2) else .stk := rfl
@[simp] theorem lLst_ap {a : Am} : lLst a en = (a en).bind fun p => if p.1.length ≤ big then .ok p else .stk := rfl
@[simp] theorem eL_ap {a : Am} : eL a en = (a en).bind fun p => .ok (.list p.1, p.2) := rfl
@[simp] theorem e1_ap {f : D → Rs D} {a : Em} : e1 f a en = (a en).bind fun p => (f p.1).calm.bind fun z => .ok (z, p.2) := rfl
@[simp] theorem e2_ap {f : D → D → Rs D} {a b : Em} : e2 f a b en = (a en).bind fun p => (b p.2).bind fun q => (f p.1 q.1).calm.bind fun z => .ok (z, q.2) := rfl
@[simp] theorem eN_ap {f : List D → Rs D} {a : Am} : eN f a en = (a en).bind fun p => (f p.1).calm.bind fun z => .ok (z, p.2) := rfl
@[simp] theorem lN_ap {f : List D → Rs (List D)} {a : Am} : lN f a en = (a en).bind fun p => (f p.1).calm.bind fun z => .ok (z, p.2) := rfl
@[simp] theorem tmB_ap {a : Em} : tmB a en = (a en).bind fun p => match p.1 with
  | .bool b => .ok (b, p.2)
  | _ => .stk := rfl
@[simp] theorem tmTru_ap {a : Em} : tmTru a en = (a en).bind fun p => (tru p.1).calm.bind fun b => .ok (b, p.2) := rfl
@[simp] theorem tru_bool {b : Bool} : tru (.bool b) = .ok b := rfl
@[simp] theorem tmYes_ap : tmYes en = .ok (true, en) := rfl
@[simp] theorem tmAnd_ap {a b : Tm} : tmAnd a b en = (a en).bind fun p => if p.1 = true then b p.2 else .ok (false, p.2) := rfl
@[simp] theorem tmOr_ap {a b : Tm} : tmOr a b en = (a en).bind fun p => if p.1 = true then .ok (true, p.2) else b p.2 := rfl
@[simp] theorem tmNot_ap {a : Tm} : tmNot a en = (a en).bind fun p => .ok (!p.1, p.2) := rfl
@[simp] theorem eAnd_ap {a b : Em} : eAnd a b en = (a en).bind fun p => match p.1 with
  | .bool true => b p.2
  | .bool false => .ok (.bool false, p.2)
  | _ => .stk := rfl
@[simp] theorem eOr_ap {a b : Em} : eOr a b en = (a en).bind fun p => match p.1 with
  | .bool true => .ok (.bool true, p.2)
  | .bool false => b p.2
  | _ => .stk := rfl
@[simp] theorem eNot_ap {a : Em} : eNot a en = (a en).bind fun p => match p.1 with
  | .bool b => .ok (.bool (!b), p.2)
  | _ => .stk := rfl
@[simp] theorem eIf_ap {t : Tm} {a b : Em} : eIf t a b en = (t en).bind fun p => if p.1 = true then a p.2 else b p.2 := rfl
@[simp] theorem eIsi_ap {t : Ty} {m : Em} : eIsi t m en = (m en).bind fun p => .ok (.bool (isi t p.1), p.2) := rfl
@[simp] theorem eCall_ap {m : List D → Rs D} {a : Am} : eCall m a en = (a en).bind fun p => (m p.1).bind fun d => .ok (d, p.2) := rfl
@[simp] theorem eAt_ap {i : Nat} {m : Em} : eAt i m en = if i < en.length then m en else .stk := rfl
@[simp] theorem eCallK_ap {m : List D → Rs D} {n k : Nat} {perm : List Nat} {a b : Am} : eCallK m n k perm a b en = (a en).bind fun p => (b p.2).bind fun q => if p.1.length = n ∧ q.1.length = k then (m (permL perm (p.1 ++ q.1))).bind fun d => .ok (d, q.2) else .stk := rfl
@[simp] theorem mRaise_ap {c f1 f2 : Str} {a : Am} : mRaise c f1 f2 a en = (a en).bind fun p => match p.1 with
  | [d1, d2] => .err c [(f2, d2), (f1, d1)]
  | _ => .stk := rfl
@[simp] theorem mFor_ap {im : Im} {gm : Gm} {b : Sm} : mFor im gm b en = (im en).bind fun p => forGo gm b p.1 p.2 := rfl
@[simp] theorem imSeq_ap {m : Em} : imSeq m en = (m en).bind fun p => (itemsOf p.1).bind fun ds => .ok (ds, p.2) := rfl
@[simp] theorem imRng_ap {f : List D → Rs (List D)} {a : Am} : imRng f a en = (a en).bind fun p => (f p.1).bind fun ds => .ok (ds, p.2) := rfl
@[simp] theorem itemsOf_list {ds : List D} : itemsOf (.list ds) = .ok ds := rfl
@[simp] theorem itemsOf_tuple {ds : List D} : itemsOf (.tuple ds) = .ok ds := rfl
@[simp] theorem fLen_list {ds : List D} : fLen [.list ds] = .ok (.int ds.length) := rfl
@[simp] theorem fLen_tuple {ds : List D} : fLen [.tuple ds] = .ok (.int ds.length) := rfl
@[simp] theorem fTuple_list {ds : List D} : fTuple [.list ds] = .ok (.tuple ds) := rfl
@[simp] theorem fTuple_tuple {ds : List D} : fTuple [.tuple ds] = .ok (.tuple ds) := rfl
@[simp] theorem fInt_int {i : Int} : fInt [.int i] = .ok (.int i) := rfl
@[simp] theorem fNeg_int {i : Int} : fNeg (.int i) = .ok (.int (-i)) := rfl
@[simp] theorem isi_int_int {i : Int} : isi .int (.int i) = true := rfl
@[simp] theorem isi_bool_int {i : Int} : isi .bool (.int i) = false := rfl
@[simp] theorem isi_tup_tup {ds : List D} : isi .tup (.tuple ds) = true := rfl
theorem eVar_dat {i : Nat} {d : D} (h : en[i]? = some (.dat d)) : eVar i en = .ok (d, en) := by unfold eVar; rw [h]
@[simp] theorem eVar_0 {d : D} {r : En} : eVar 0 (.dat d :: r) = .ok (d, .dat d :: r) := rfl
theorem eVar_ap {i : Nat} : eVar i en = match en[i]? with
  | some (.dat d) => .ok (d, en)
  | some (.own (.lst ds)) => .ok (.list ds, en.set i (.dat (.list ds)))
  | _ => .stk := rfl
@[simp] theorem intsD_zero {n : Nat} : intsD 0 n = (List.range n).map fun i : Nat => PyData.int (i : Nat) := by simp [intsD]
theorem rng1_nat {n : Nat} (h : n ≤ 100000) : rng1 [.int (n : Int)] = .ok ((List.range n).map fun i : Nat => PyData.int (i : Nat)) := by
  have e : rng1 [.int (n : Int)] = if (n : Int) ≤ 100000 ∧ -100000 ≤ (n : Int) then .ok (intsD 0 (n : Int).toNat) else .stk := rfl
  rw [e, if_pos (by omega)]
  simp
end

/-! ### comprehensions that change nothing -/
theorem set_self {en : En} {j : Nat} (h : j < en.length) : en.set j (en.getD j .un) = en := by
  apply List.ext_getElem?
  intro i
  by_cases q : j = i
  · subst q
    rw [List.getElem?_set_self h, List.getD_eq_getElem?_getD, List.getElem?_eq_getElem h]
    rfl
  · rw [List.getElem?_set_ne q]
theorem lcGo_pure {j : Nat} {t : Tm} {m : Em} {en : En} {b : D → Bool} {f : D → D} : ∀ {ds : List D},
    (∀ d ∈ ds, t (en.set j (.dat d)) = .ok (b d, en.set j (.dat d)) ∧ (b d = true → m (en.set j (.dat d)) = .ok (f d, en.set j (.dat d)))) →
    lcGo [j] (gmName j) t m ds (en.set j .un) = .ok ((ds.filter b).map f, en.set j .un)
  | [], _ => rfl
  | d :: ds, h => by
    obtain ⟨h1, h2⟩ := h d (List.mem_cons_self ..)
    have ih := lcGo_pure (ds := ds) fun x hx => h x (List.mem_cons_of_mem _ hx)
    have e0 : (en.set j .un).set j (.dat d) = en.set j (.dat d) := List.set_set ..
    have e1 : wipeE (en.set j (.dat d)) [j] = en.set j .un := List.set_set ..
    unfold lcGo
    rw [gmName_ap, calm_ok, bind_ok, e0, h1, calm_ok, bind_ok]
    cases q : b d with
    | true =>
      rw [if_pos rfl, h2 q, calm_ok, bind_ok, e1, ih, bind_ok, List.filter_cons_of_pos (by rw [q]), List.map_cons]
    | false =>
      rw [if_neg Bool.false_ne_true, e1, ih, List.filter_cons_of_neg (by rw [q]; decide)]
theorem lLc_pure {j : Nat} {im : Im} {t : Tm} {m : Em} {en : En} {ds : List D} (b : D → Bool) (f : D → D) (hi : im en = .ok (ds, en)) (hj : j < en.length) (hn : noOwn en [j] = true) (hz : ds.length ≤ big)
    (h : ∀ d ∈ ds, t (en.set j (.dat d)) = .ok (b d, en.set j (.dat d)) ∧ (b d = true → m (en.set j (.dat d)) = .ok (f d, en.set j (.dat d)))) : lLc im [j] (gmName j) t m en = .ok ((ds.filter b).map f, en) := by
  unfold lLc
  rw [hi, bind_ok, if_pos ⟨hn, hz⟩]
  have e : wipeE en [j] = en.set j .un := rfl
  rw [e, lcGo_pure h, calm_ok, bind_ok]
  have e2 : restE en (en.set j .un) [j] = (en.set j .un).set j (en.getD j .un) := rfl
  rw [e2, List.set_set, set_self hj]
/-- .. over natural numbers below n -/
theorem lLc_nat {j : Nat} {a : Am} {t : Tm} {m : Em} {en : En} {n : Nat} (b : Nat → Bool) (f : Nat → D) (ha : a en = .ok ([.int (n : Int)], en)) (hj : j < en.length) (hn : noOwn en [j] = true) (hz : n ≤ 100000)
    (h : ∀ i, i < n → t (en.set j (.dat (.int (i : Nat)))) = .ok (b i, en.set j (.dat (.int (i : Nat)))) ∧ (b i = true → m (en.set j (.dat (.int (i : Nat)))) = .ok (f i, en.set j (.dat (.int (i : Nat)))))) :
    lLc (imRng rng1 a) [j] (gmName j) t m en = .ok (((List.range n).filter b).map f, en) := by
  have hi : imRng rng1 a en = .ok ((List.range n).map fun i : Nat => PyData.int (i : Nat), en) := by rw [imRng_ap, ha, bind_ok, rng1_nat hz, bind_ok]
  let dec : D → Nat := fun d => match d with | .int i => i.toNat | _ => 0
  have := lLc_pure (j := j) (t := t) (m := m) (fun d => b (dec d)) (fun d => f (dec d)) hi hj hn (by rw [List.length_map, List.length_range]; exact hz) (fun d hd => by
    obtain ⟨i, hi, rfl⟩ := List.mem_map.mp hd
    exact h i (List.mem_range.mp hi))
  rw [this, List.filter_map, List.map_map]
  rfl
/-- a loop with an invariant -/
theorem forGo_inv {gm : Gm} {b : Sm} (P : Nat → En → Prop) : ∀ {ds : List D} {k : Nat} {en : En}, P k en → (∀ i d en, ds[i]? = some d → P (k + i) en → ∃ en1 fl en2, gm d en = .ok en1 ∧ b en1 = .ok (fl, en2) ∧ (fl = .nx ∨ fl = .ct) ∧ P (k + i + 1) en2) →
    ∃ en', forGo gm b ds en = .ok (.nx, en') ∧ P (k + ds.length) en'
  | [], k, en, h0, _ => ⟨en, rfl, h0⟩
  | d :: ds, k, en, h0, hs => by
    obtain ⟨en1, fl, en2, h1, h2, h3, h4⟩ := hs 0 d en rfl h0
    obtain ⟨en', h5, h6⟩ := forGo_inv P (ds := ds) (k := k + 1) (en := en2) h4 fun i d' e hd hp => by
      have := hs (i + 1) d' e (by simpa using hd) (by rw [show k + (i + 1) = k + 1 + i by omega]; exact hp)
      rw [show k + (i + 1) + 1 = k + 1 + i + 1 by omega] at this
      exact this
    refine ⟨en', ?_, by rw [List.length_cons, show k + (ds.length + 1) = k + 1 + ds.length by omega]; exact h6⟩
    unfold forGo
    rw [h1, calm_ok, bind_ok, h2, bind_ok]
    rcases h3 with rfl | rfl <;> exact h5
end Mir
end

section
set_option Elab.async false
set_option linter.all false
set_option maxRecDepth 100000
set_option maxHeartbeats 4000000
/-! MirT: naturals, tuples of naturals, sorted lists of them. -/
namespace Mir
open PySem PySem.Spec PyProof.Rows L2
abbrev iD (n : Nat) : D := .int (n : Int)
def tupN (xs : List Nat) : D := .tuple (xs.map iD)
/-- a tuple of such tuples -/
def FD (F : List (List Nat)) : D := .tuple (F.map tupN)
@[simp] theorem fDiv_2 (m : Nat) : fDiv (iD m) (.int 2) = .ok (iD (m / 2)) := by
  have h : okDiv (m : Int) 2 = true := by unfold okDiv; decide
  show (if okDiv (m : Int) 2 = true then Rs.ok (PyData.int ((m : Int) / 2)) else .stk) = _
  rw [if_pos h]
  rfl
@[simp] theorem fMod_2 (m : Nat) : fMod (iD m) (.int 2) = .ok (iD (m % 2)) := by
  show (if okMod (m : Int) 2 = true then Rs.ok (PyData.int ((m : Int) % 2)) else .stk) = _
  rw [if_pos (show okMod (m : Int) 2 = true from (by decide : decide ((0 : Int) < 2) = true))]
  rfl
@[simp] theorem fMul_2 (m : Nat) (h : m < 2 ^ 40) : fMul (iD m) (.int 2) = .ok (iD (m * 2)) := by
  have h1 : okMul (m : Int) 2 = true := by
    unfold okMul
    rw [Bool.and_eq_true]
    refine ⟨decide_eq_true ?_, by decide⟩
    exact Nat.lt_of_lt_of_le (log2_small (n := 40) (by simpa using h) (by decide)) (by decide)
  show (if okMul (m : Int) 2 = true then Rs.ok (PyData.int ((m : Int) * 2)) else .stk) = _
  rw [if_pos h1]
  rfl
/-! ### comprehensions over marks -/
theorem lLc_marks {j : Nat} {a : Em} {t : Mir.Tm} {m : Em} {en : En} {ms : List Nat} {d0 : D} (b : Nat → Bool) (f : Nat → D) (ha : a en = .ok (d0, en)) (h0 : itemsOf d0 = .ok (ms.map iD)) (hj : j < en.length) (hn : noOwn en [j] = true) (hz : ms.length ≤ 100000)
    (h : ∀ i ∈ ms, t (en.set j (.dat (iD i))) = .ok (b i, en.set j (.dat (iD i))) ∧ (b i = true → m (en.set j (.dat (iD i))) = .ok (f i, en.set j (.dat (iD i))))) :
    lLc (imSeq a) [j] (gmName j) t m en = .ok ((ms.filter b).map f, en) := by
  have hi : imSeq a en = .ok (ms.map iD, en) := by rw [imSeq_ap, ha, bind_ok, h0, bind_ok]
  let dec : D → Nat := fun d => match d with | .int i => i.toNat | _ => 0
  have := lLc_pure (j := j) (t := t) (m := m) (fun d => b (dec d)) (fun d => f (dec d)) hi hj hn (by rw [List.length_map]; exact hz) (fun d hd => by
    obtain ⟨i, hi, rfl⟩ := List.mem_map.mp hd
    exact h i hi)
  rw [this, List.filter_map, List.map_map]
  rfl

/-! ### tuples of naturals as data -/
theorem iD_inj {a b : Nat} : iD a = iD b ↔ a = b := by
  constructor
  · intro h
    injection h with h
    omega
  · rintro rfl; rfl
theorem eqv_iD (a b : Nat) : PyData.eqv (iD a) (iD b) = decide (a = b) := by
  rw [eqv_int]
  exact decide_eq_decide.mpr (by omega)
theorem eqvAll_iD : ∀ xs ys : List Nat, PyData.eqvAll (xs.map iD) (ys.map iD) = decide (xs = ys)
  | [], [] => by simp [PyData.eqvAll]
  | [], _ :: _ => by simp [PyData.eqvAll]
  | _ :: _, [] => by simp [PyData.eqvAll]
  | x :: xs, y :: ys => by
    rw [List.map_cons, List.map_cons, PyData.eqvAll, eqv_iD, eqvAll_iD xs ys]
    by_cases h : x = y
    · by_cases h2 : xs = ys
      · simp [h, h2]
      · simp [h, h2]
    · simp [h]
theorem eqv_tupN (xs ys : List Nat) : PyData.eqv (tupN xs) (tupN ys) = decide (xs = ys) := by
  unfold tupN
  rw [PyData.eqv, eqvAll_iD]
theorem depthAll_iD : ∀ xs : List Nat, PyData.depthAll (xs.map iD) = 0
  | [] => by simp [PyData.depthAll]
  | x :: xs => by rw [List.map_cons, PyData.depthAll, depthAll_iD xs]; simp [PyData.depth]
theorem layAll_iD : ∀ xs : List Nat, PyData.canLayAll0 (xs.map iD) = true
  | [] => by simp [PyData.canLayAll0]
  | x :: xs => by rw [List.map_cons, PyData.canLayAll0, layAll_iD xs]; simp [PyData.canLay0]
theorem depth_tupN (xs : List Nat) : (tupN xs).depth = 1 := by unfold tupN; rw [PyData.depth, depthAll_iD]
theorem lay_tupN (xs : List Nat) : (tupN xs).canLay0 = true := by unfold tupN; rw [PyData.canLay0, layAll_iD]
theorem shaped_of {d : D} (h1 : d.canLay0 = true) (h2 : d.depth ≤ 64) : SeqAt.shaped d = true := by
  show (d.canLay0 && decide (d.depth ≤ 64)) = true
  rw [h1, decide_eq_true h2]
  rfl
@[simp] theorem shaped_tupN (xs : List Nat) : SeqAt.shaped (tupN xs) = true := shaped_of (lay_tupN xs) (by rw [depth_tupN]; decide)
theorem depthAll_tupN : ∀ xs : List (List Nat), PyData.depthAll (xs.map tupN) ≤ 1
  | [] => by simp [PyData.depthAll]
  | x :: xs => by
    rw [List.map_cons, PyData.depthAll, depth_tupN]
    have := depthAll_tupN xs
    omega
theorem layAll_tupN : ∀ xs : List (List Nat), PyData.canLayAll0 (xs.map tupN) = true
  | [] => by simp [PyData.canLayAll0]
  | x :: xs => by rw [List.map_cons, PyData.canLayAll0, lay_tupN, layAll_tupN xs]; rfl
theorem shaped_listI (xs : List Nat) : SeqAt.shaped (.list (xs.map iD)) = true := shaped_of (by rw [PyData.canLay0, layAll_iD]) (by rw [PyData.depth, depthAll_iD]; decide)
theorem shaped_listT (xs : List (List Nat)) : SeqAt.shaped (.list (xs.map tupN)) = true := shaped_of (by rw [PyData.canLay0, layAll_tupN]) (by rw [PyData.depth]; have := depthAll_tupN xs; omega)
theorem shaped_tupleT (xs : List (List Nat)) : SeqAt.shaped (.tuple (xs.map tupN)) = true := shaped_of (by rw [PyData.canLay0, layAll_tupN]) (by rw [PyData.depth]; have := depthAll_tupN xs; omega)
theorem alikeAll_iD : ∀ xs ys : List Nat, PySem.W.alikeAll (xs.map iD) (ys.map iD) = true
  | [], ys => by simp [PySem.W.alikeAll]
  | _ :: _, [] => by simp [PySem.W.alikeAll]
  | x :: xs, y :: ys => by rw [List.map_cons, List.map_cons, PySem.W.alikeAll, alikeAll_iD xs ys]; simp [PySem.W.alike]
theorem alike_tupN (xs ys : List Nat) : PySem.W.alike (tupN xs) (tupN ys) = true := by unfold tupN; rw [PySem.W.alike, alikeAll_iD]
theorem okSort_tupN (xs : List (List Nat)) : okSort (xs.map tupN) = true := by
  unfold okSort
  rw [Bool.and_eq_true, List.all_eq_true, List.all_eq_true]
  constructor
  · intro d hd
    obtain ⟨x, _, rfl⟩ := List.mem_map.mp hd
    rw [List.all_eq_true]
    intro e he
    obtain ⟨y, _, rfl⟩ := List.mem_map.mp he
    exact alike_tupN x y
  · intro d hd
    obtain ⟨x, _, rfl⟩ := List.mem_map.mp hd
    rw [depth_tupN]
    rfl
theorem okSort_iD (xs : List Nat) : okSort (xs.map iD) = true := by
  unfold okSort
  rw [Bool.and_eq_true, List.all_eq_true, List.all_eq_true]
  constructor
  · intro d hd
    obtain ⟨x, _, rfl⟩ := List.mem_map.mp hd
    rw [List.all_eq_true]
    intro e he
    obtain ⟨y, _, rfl⟩ := List.mem_map.mp he
    simp [PySem.W.alike]
  · intro d hd
    obtain ⟨x, _, rfl⟩ := List.mem_map.mp hd
    simp [notNone, PyData.depth]
/-! ### the order of texts of naturals -/
def ltL : List Nat → List Nat → Bool
  | [], [] => false
  | [], _ :: _ => true
  | _ :: _, [] => false
  | x :: xs, y :: ys => if x = y then ltL xs ys else decide (x < y)
theorem toksLt : ∀ xs ys : List Nat, PyProof.Rows.lexLt PyProof.Rows.itemOrd (PySem.W.keyToksAll (xs.map iD)) (PySem.W.keyToksAll (ys.map iD)) = ltL xs ys
  | [], [] => by rw [← PySem.W.firstLt_toks _ _ (alikeAll_iD [] [])]; rfl
  | [], y :: ys => by rw [← PySem.W.firstLt_toks _ _ (alikeAll_iD [] (y :: ys))]; simp [ltL, SeqAt.firstLt]
  | x :: xs, [] => by rw [← PySem.W.firstLt_toks _ _ (alikeAll_iD (x :: xs) [])]; simp [ltL, SeqAt.firstLt]
  | x :: xs, y :: ys => by
    rw [List.map_cons, List.map_cons]
    unfold ltL
    by_cases h : x = y
    · rw [if_pos h, PySem.W.dataLt_all_yes (by simp [PySem.W.alike]) (by rw [eqv_iD, decide_eq_true h]), toksLt xs ys]
    · rw [if_neg h, PySem.W.dataLt_all_no (by simp [PySem.W.alike]) (by rw [eqv_iD, decide_eq_false h]), PySem.W.dataLt_int]
      exact decide_eq_decide.mpr (by omega)
theorem lt_tupN (xs ys : List Nat) : PySem.W.dataLt (tupN xs) (tupN ys) = ltL xs ys := by
  unfold tupN
  rw [PySem.W.dataLt_tuple, toksLt]
theorem ltL_irr : ∀ xs : List Nat, ltL xs xs = false
  | [] => rfl
  | x :: xs => by unfold ltL; rw [if_pos rfl]; exact ltL_irr xs
theorem ltL_trans : ∀ {xs ys zs : List Nat}, ltL xs ys = true → ltL ys zs = true → ltL xs zs = true
  | [], [], _, h, _ => by cases h
  | [], _ :: _, [], _, h => by cases h
  | [], _ :: _, _ :: _, _, _ => rfl
  | _ :: _, [], _, h, _ => by cases h
  | _ :: _, _ :: _, [], _, h => by cases h
  | x :: xs, y :: ys, z :: zs, h1, h2 => by
    unfold ltL at h1 h2 ⊢
    by_cases a : x = y
    · subst a
      rw [if_pos rfl] at h1
      by_cases b : x = z
      · rw [if_pos b] at h2 ⊢
        exact ltL_trans h1 h2
      · rw [if_neg b] at h2 ⊢
        exact h2
    · rw [if_neg a] at h1
      have h1 := of_decide_eq_true h1
      by_cases b : y = z
      · subst b
        rw [if_neg a]
        exact decide_eq_true h1
      · rw [if_neg b] at h2
        have h2 := of_decide_eq_true h2
        rw [if_neg (by omega)]
        exact decide_eq_true (by omega)
theorem ltL_total : ∀ {xs ys : List Nat}, ltL xs ys = false → ltL ys xs = false → xs = ys
  | [], [], _, _ => rfl
  | [], _ :: _, h, _ => by cases h
  | _ :: _, [], _, h => by cases h
  | x :: xs, y :: ys, h1, h2 => by
    unfold ltL at h1 h2
    by_cases a : x = y
    · subst a
      rw [if_pos rfl] at h1 h2
      rw [ltL_total h1 h2]
    · rw [if_neg a] at h1
      rw [if_neg (Ne.symm a)] at h2
      have h1 := of_decide_eq_false h1
      have h2 := of_decide_eq_false h2
      omega
def leL (xs ys : List Nat) : Bool := !ltL ys xs
theorem leD_tupN (xs ys : List Nat) : leD (tupN xs) (tupN ys) = leL xs ys := by unfold leD leL; rw [lt_tupN]
theorem leL_trans (a b c : List Nat) (h1 : leL a b = true) (h2 : leL b c = true) : leL a c = true := by
  unfold leL at *
  rw [Bool.not_eq_true'] at *
  cases q : ltL c a with
  | false => rfl
  | true =>
    by_cases e : a = b
    · subst e; rw [q] at h2; cases h2
    · cases w : ltL a b with
      | true => rw [ltL_trans q w] at h2; cases h2
      | false => exact absurd (ltL_total w h1) e
theorem leL_total (a b : List Nat) : (leL a b || leL b a) = true := by
  unfold leL
  cases q : ltL b a with
  | false => rfl
  | true =>
    cases w : ltL a b with
    | false => rfl
    | true => have := ltL_trans q w; rw [ltL_irr] at this; cases this
theorem leL_anti {a b : List Nat} (h1 : leL a b = true) (h2 : leL b a = true) : a = b := by
  unfold leL at *
  rw [Bool.not_eq_true'] at *
  exact ltL_total h2 h1
/-- the sorted list -/
def sortL (xs : List (List Nat)) : List (List Nat) := xs.mergeSort leL
theorem sortD_tupN (xs : List (List Nat)) : sortD (xs.map tupN) = (sortL xs).map tupN := by
  unfold sortD sortL
  rw [List.map_mergeSort (r := leL) (s := leD) fun a _ b _ => (leD_tupN a b).symm]
theorem sortL_perm (xs : List (List Nat)) : (sortL xs).Perm xs := List.mergeSort_perm xs leL
theorem sortL_pair (xs : List (List Nat)) : (sortL xs).Pairwise (fun a b => leL a b = true) := List.pairwise_mergeSort (le := leL) leL_trans leL_total xs
theorem sorted_unique : ∀ {xs ys : List (List Nat)}, xs.Perm ys → xs.Pairwise (fun a b => leL a b = true) → ys.Pairwise (fun a b => leL a b = true) → xs = ys
  | [], ys, p, _, _ => by rw [List.nil_perm.mp p]
  | x :: xs, ys, p, h1, h2 => by
    cases ys with
    | nil => exact absurd p.length_eq (by simp)
    | cons y ys =>
      have e : x = y := by
        have m1 : x ∈ y :: ys := p.mem_iff.mp (List.mem_cons_self ..)
        have m2 : y ∈ x :: xs := p.mem_iff.mpr (List.mem_cons_self ..)
        rcases List.mem_cons.mp m1 with e | m1
        · exact e
        · rcases List.mem_cons.mp m2 with e | m2
          · exact e.symm
          · exact leL_anti ((List.pairwise_cons.mp h1).1 y m2) ((List.pairwise_cons.mp h2).1 x m1)
      subst e
      rw [sorted_unique ((List.perm_cons x).mp p) (List.pairwise_cons.mp h1).2 (List.pairwise_cons.mp h2).2]
theorem sortL_filter (p : List Nat → Bool) (xs : List (List Nat)) : (sortL xs).filter p = sortL (xs.filter p) :=
  sorted_unique (((sortL_perm xs).filter p).trans (sortL_perm _).symm) ((sortL_pair xs).filter p) (sortL_pair _)
theorem sortL_of_perm {xs ys : List (List Nat)} (h : xs.Perm ys) : sortL xs = sortL ys := sorted_unique ((sortL_perm xs).trans (h.trans (sortL_perm ys).symm)) (sortL_pair xs) (sortL_pair ys)
theorem fSorted_tupN (xs : List (List Nat)) : fSorted [.list (xs.map tupN)] = .ok ((sortL xs).map tupN) := by
  show (if okSort (xs.map tupN) = true then Rs.ok (sortD (xs.map tupN)) else .stk) = _
  rw [if_pos (okSort_tupN xs), sortD_tupN]
end Mir
end

section
set_option Elab.async false
set_option linter.all false
set_option maxRecDepth 100000
set_option maxHeartbeats 4000000
/-! MirR: what repr shows of tuples of naturals: it may be shown, it is a text of signs. -/
namespace Mir
open PySem PySem.Spec PyProof.Rows L2
theorem strOk_of (s : String) : PyData.strOk (Str.ofString s) = true := by
  rw [Str.ofString_eq_toList]
  unfold PyData.strOk
  rw [List.all_toArray, List.all_eq_true]
  intro x hx
  obtain ⟨c, _, rfl⟩ := List.mem_map.mp hx
  have h := c.valid
  have : c.toNat < 0x110000 := by
    rcases h with h | h
    · exact Nat.lt_trans h (by decide)
    · exact h.2
  exact decide_eq_true this
theorem strOk_app (a b : Str) (ha : PyData.strOk a = true) (hb : PyData.strOk b = true) : PyData.strOk (a ++ b) = true := by
  show PyData.strOk ⟨a.cps ++ b.cps⟩ = true
  unfold PyData.strOk at *
  rw [Array.all_append, ha, hb]
  rfl
theorem strOk_join (sep : Str) (hs : PyData.strOk sep = true) : ∀ ts : List Str, (∀ t ∈ ts, PyData.strOk t = true) → PyData.strOk (Str.join sep ts) = true
  | [], _ => (by decide +kernel : PyData.strOk Str.empty = true)
  | [x], h => h x (List.mem_cons_self ..)
  | x :: y :: r, h => strOk_app _ _ (strOk_app _ _ (h x (List.mem_cons_self ..)) hs) (strOk_join sep hs (y :: r) fun t ht => h t (List.mem_cons_of_mem _ ht))
theorem strOk_tuple (ts : List Str) (h : ∀ t ∈ ts, PyData.strOk t = true) : PyData.strOk (tupleText ts) = true :=
  strOk_app _ _ (strOk_app _ _ (strOk_of _) (strOk_join _ (strOk_of _) ts h)) (strOk_of _)
theorem tupleText_len (ts : List Str) : (tupleText ts).length ≤ piled ts + 3 := by
  unfold tupleText
  rw [strLen_append, strLen_append]
  have e1 : ((("(" : String) : Str)).length = 1 := rfl
  have e3 : (((if ts.length == 1 then ",)" else ")" : String) : Str)).length ≤ 2 := by split <;> decide
  rw [e1]
  cases ts with
  | nil => have : (Str.join ", " ([] : List Str)).length = 0 := rfl; omega
  | cons t r =>
    have := join_length_add (t :: r) (by simp)
    omega
theorem piled_le (ts : List Str) (k : Nat) (h : ∀ t ∈ ts, t.length ≤ k) : piled ts ≤ ts.length * (k + 2) := by
  induction ts with
  | nil => exact Nat.zero_le _
  | cons t ts ih =>
    rw [piled_cons, List.length_cons, Nat.succ_mul]
    have := h t (List.mem_cons_self ..)
    have := ih fun x hx => h x (List.mem_cons_of_mem _ hx)
    omega
theorem shownAll_eq : ∀ ds : List D, PyData.shownAll ds = ds.map PyData.shown
  | [] => by simp [PyData.shownAll]
  | d :: ds => by rw [PyData.shownAll, shownAll_eq ds]; rfl
def dg (h : Nat) : Str := Str.ofString (toString (h : Int))
theorem shown_iD (h : Nat) : (iD h).shown = Str.ofString (toString (h : Int)) := by simp only [PyData.shown]
theorem shown_tupN (xs : List Nat) : (tupN xs).shown = tupleText (xs.map dg) := by
  unfold tupN
  rw [PyData.shown, shownAll_eq, List.map_map]
  rfl
theorem shown_FD (F : List (List Nat)) : (FD F).shown = tupleText (F.map fun a => (tupN a).shown) := by
  unfold FD
  rw [PyData.shown, shownAll_eq, List.map_map]
  rfl
theorem ok_tupN (xs : List Nat) : PyData.strOk (tupN xs).shown = true := by
  rw [shown_tupN]
  refine strOk_tuple _ fun t ht => ?_
  obtain ⟨h, _, rfl⟩ := List.mem_map.mp ht
  exact strOk_of _
theorem ok_FD (F : List (List Nat)) : PyData.strOk (FD F).shown = true := by
  rw [shown_FD]
  refine strOk_tuple _ fun t ht => ?_
  obtain ⟨h, _, rfl⟩ := List.mem_map.mp ht
  exact ok_tupN _
theorem digits : ∀ h : Nat, h < 64 → (dg h).length ≤ 2 := by decide +kernel
theorem len_tupN (xs : List Nat) (h : ∀ x ∈ xs, x < 64) : (tupN xs).shown.length ≤ xs.length * 4 + 3 := by
  rw [shown_tupN]
  refine Nat.le_trans (tupleText_len _) ?_
  have := piled_le (xs.map dg) 2 fun t ht => by
    obtain ⟨x, hx, rfl⟩ := List.mem_map.mp ht
    exact digits x (h x hx)
  rw [List.length_map] at this
  omega
theorem len_FD (F : List (List Nat)) (k : Nat) (h : ∀ a ∈ F, a.length ≤ k ∧ ∀ x ∈ a, x < 64) : (FD F).shown.length ≤ F.length * (k * 4 + 5) + 3 := by
  rw [shown_FD]
  refine Nat.le_trans (tupleText_len _) ?_
  have := piled_le (F.map fun a => (tupN a).shown) (k * 4 + 3) fun t ht => by
    obtain ⟨a, ha, rfl⟩ := List.mem_map.mp ht
    have h1 := len_tupN a (h a ha).2
    have h2 := (h a ha).1
    omega
  rw [List.length_map, show k * 4 + 3 + 2 = k * 4 + 5 by omega] at this
  omega
theorem showAll_iD (xs : List Nat) (h : ∀ x ∈ xs, x < 64) : PyData.showableAll (xs.map iD) = true := by
  induction xs with
  | nil => simp [PyData.showableAll]
  | cons x xs ih =>
    rw [List.map_cons, PyData.showableAll, ih fun y hy => h y (List.mem_cons_of_mem _ hy)]
    have hx := h x (List.mem_cons_self ..)
    have : x.log2 < 1920 := Nat.lt_of_lt_of_le (log2_small (i := (x : Int)) (n := 6) (by omega) (by decide)) (by decide)
    simp [PyData.showable, this]
theorem show_tupN (xs : List Nat) (h : ∀ x ∈ xs, x < 64) : (tupN xs).showable = true := by unfold tupN; rw [PyData.showable, showAll_iD xs h]
theorem showAll_tupN (F : List (List Nat)) (h : ∀ a ∈ F, ∀ x ∈ a, x < 64) : PyData.showableAll (F.map tupN) = true := by
  induction F with
  | nil => simp [PyData.showableAll]
  | cons a F ih => rw [List.map_cons, PyData.showableAll, ih fun y hy => h y (List.mem_cons_of_mem _ hy), show_tupN a (h a (List.mem_cons_self ..))]; rfl
theorem lay_FD (F : List (List Nat)) : (FD F).canLay0 = true := by unfold FD; rw [PyData.canLay0, layAll_tupN]
theorem depth_FD (F : List (List Nat)) : (FD F).depth ≤ 2 := by unfold FD; rw [PyData.depth]; have := depthAll_tupN F; omega
theorem fRepr_ok {d : D} (h1 : d.showable = true) (h2 : d.canLay0 = true) (h3 : d.depth ≤ 60) (h4 : d.shown.length ≤ 1000000) : fRepr [d] = .ok (.str d.shown) := by
  show (if okRepr d = true then Rs.ok (PyData.str d.shown) else .stk) = _
  have : okRepr d = true := by
    unfold okRepr
    rw [h1, PyData.hasDict_of_canLay d h2, decide_eq_true h3, decide_eq_true h4]
    rfl
  rw [if_pos this]
theorem repr_tupN (xs : List Nat) (h : ∀ x ∈ xs, x < 64) (hl : xs.length ≤ 1000) : fRepr [tupN xs] = .ok (.str (tupN xs).shown) :=
  fRepr_ok (show_tupN xs h) (lay_tupN xs) (by rw [depth_tupN]; omega) (by have := len_tupN xs h; omega)
theorem repr_FD (F : List (List Nat)) (h : ∀ a ∈ F, a.length ≤ 64 ∧ ∀ x ∈ a, x < 64) (hl : F.length ≤ 1000) : fRepr [FD F] = .ok (.str (FD F).shown) := by
  refine fRepr_ok (by unfold FD; rw [PyData.showable, showAll_tupN F fun a ha => (h a ha).2]) (lay_FD F) (by have := depth_FD F; omega) ?_
  have := len_FD F 64 h
  have h2 : F.length * (64 * 4 + 5) ≤ 1000 * (64 * 4 + 5) := Nat.mul_le_mul_right _ hl
  omega
theorem repr_bool (b : Bool) : fRepr [.bool b] = .ok (.str (PyData.bool b).shown) := by cases b <;> rfl
theorem shaped_str {x : Str} (h : PyData.strOk x = true) : SeqAt.shaped (.str x) = true := shaped_of (by rw [PyData.canLay0, h]) (by simp [PyData.depth])
theorem fEq_str {x y : Str} (hx : PyData.strOk x = true) (hy : PyData.strOk y = true) : fEq (.str x) (.str y) = .ok (.bool (decide (x = y))) := by
  have hc : okEq (.str x) (.str y) = true := by unfold okEq; rw [shaped_str hx, shaped_str hy]; rfl
  have he : PyData.eqv (.str x) (.str y) = decide (x = y) := by
    simp only [PyData.eqv]
    by_cases q : x = y
    · simp [q]
    · simp [q]
  unfold fEq
  rw [hc, he]
  rfl
theorem fNe_str {x y : Str} (hx : PyData.strOk x = true) (hy : PyData.strOk y = true) : fNe (.str x) (.str y) = .ok (.bool (!decide (x = y))) := by
  have hc : okEq (.str x) (.str y) = true := by unfold okEq; rw [shaped_str hx, shaped_str hy]; rfl
  have he : PyData.eqv (.str x) (.str y) = decide (x = y) := by
    simp only [PyData.eqv]
    by_cases q : x = y
    · simp [q]
    · simp [q]
  unfold fNe
  rw [hc, he]
  rfl
theorem strOk_bool (b : Bool) : PyData.strOk (PyData.bool b).shown = true := by cases b <;> decide +kernel
theorem bool_shown (a b : Bool) : decide ((PyData.bool a).shown = (PyData.bool b).shown) = (a == b) := by cases a <;> cases b <;> decide +kernel
end Mir
end

section
set_option Elab.async false
set_option linter.all false
set_option maxRecDepth 100000
set_option maxHeartbeats 4000000
/-! MirU: loops over ranges and over items, with what they look for. -/
namespace Mir
open PySem PySem.Spec PyProof.Rows L2
theorem mSeq_nx {a b : Sm} {en en1 : En} (h : a en = .ok (.nx, en1)) : mSeq a b en = b en1 := by rw [mSeq_ap, h, bind_ok]
theorem aSeq_nx {a : Sm} {b : Am} {en en1 : En} (h : a en = .ok (.nx, en1)) : aSeq a b en = b en1 := by
  show ((a en).calm.bind fun p => match p.1 with
    | .nx => b p.2
    | _ => .stk) = _
  rw [h]
  rfl
theorem mTry_ok {cs : List (Str × Bool)} {hm : List (Str × D) → Rs D} {b : Sm} {en : En} {p : Fl × En} (h : b en = .ok p) : mTry cs hm b en = .ok p := by unfold mTry; rw [h]
theorem mTry_err {cs : List (Str × Bool)} {hm : List (Str × D) → Rs D} {b : Sm} {en : En} {c : Str} {fs : List (Str × D)} {d : D} (h : b en = .err c fs) (hc : (c, true) ∈ cs) (hd : hm fs = .ok d) : mTry cs hm b en = .ok (.rt d, en.map fun _ => .un) := by
  unfold mTry
  rw [h]
  dsimp only
  rw [if_pos hc, hd]
  rfl
theorem mIf_no {t : Mir.Tm} {a b : Sm} {en : En} (h : t en = .ok (false, en)) : mSeq (mIf t a mNext) b en = b en := by
  rw [mSeq_ap, mIf_ap, h, bind_ok]
  rfl
theorem mIf_yes {t : Mir.Tm} {m : Em} {b : Sm} {en : En} {p : D × En} (h : t en = .ok (true, en)) (ha : m en = .ok p) : mSeq (mIf t (mRet m) mNext) b en = .ok (.rt p.1, p.2) := by
  rw [mSeq_ap, mIf_ap, h, bind_ok]
  show ((mRet m en).bind fun p => match p.1 with
    | .nx => b p.2
    | f => .ok (f, p.2)) = _
  rw [mRet_ap, ha]
  rfl
/-- a loop over items, with an invariant -/
theorem for_items {A : Type} {gm : Gm} {b : Sm} {enc : A → D} (P : Nat → En → Prop) : ∀ (xs : List A) {k : Nat} {en : En}, P k en →
    (∀ i (h : i < xs.length) en, P (k + i) en → ∃ en1 fl en2, gm (enc xs[i]) en = .ok en1 ∧ b en1 = .ok (fl, en2) ∧ (fl = .nx ∨ fl = .ct) ∧ P (k + i + 1) en2) →
    ∃ en', forGo gm b (xs.map enc) en = .ok (.nx, en') ∧ P (k + xs.length) en'
  | [], k, en, h0, _ => ⟨en, rfl, h0⟩
  | x :: xs, k, en, h0, hs => by
    obtain ⟨en1, fl, en2, h1, h2, h3, h4⟩ := hs 0 (by rw [List.length_cons]; omega) en h0
    obtain ⟨en', h5, h6⟩ := for_items (enc := enc) P xs (k := k + 1) (en := en2) h4 fun i hi e hp => by
      have := hs (i + 1) (by rw [List.length_cons]; omega) e (by rw [show k + (i + 1) = k + 1 + i by omega]; exact hp)
      rw [show k + (i + 1) + 1 = k + 1 + i + 1 by omega] at this
      exact this
    refine ⟨en', ?_, by rw [List.length_cons, show k + (xs.length + 1) = k + 1 + xs.length by omega]; exact h6⟩
    rw [List.map_cons]
    unfold forGo
    have h1' : gm (enc x) en = .ok en1 := h1
    rw [h1', calm_ok, bind_ok, h2, bind_ok]
    rcases h3 with rfl | rfl <;> exact h5
/-- .. over the numbers below n -/
theorem for_rng {j n : Nat} {b : Sm} {en : En} (P : Nat → En → Prop) (h0 : P 0 en)
    (hs : ∀ i en, i < n → P i en → ∃ fl en2, b (en.set j (.dat (iD i))) = .ok (fl, en2) ∧ (fl = .nx ∨ fl = .ct) ∧ P (i + 1) en2) :
    ∃ en', forGo (gmName j) b ((List.range n).map fun i : Nat => PyData.int (i : Nat)) en = .ok (.nx, en') ∧ P n en' := by
  obtain ⟨en', h1, h2⟩ := for_items (gm := gmName j) (b := b) (enc := fun i : Nat => PyData.int (i : Nat)) P (List.range n) (k := 0) (en := en) h0 (fun i hi e hp => by
    have hi' : i < n := by simpa using hi
    rw [Nat.zero_add] at hp ⊢
    obtain ⟨fl, en2, a1, a2, a3⟩ := hs i e hi' hp
    refine ⟨e.set j (.dat (iD i)), fl, en2, ?_, a1, a2, a3⟩
    rw [List.getElem_range]
    rfl)
  rw [Nat.zero_add, List.length_range] at h2
  exact ⟨en', h1, h2⟩
/-- what a search comes to -/
def flOf : Option D → Fl
  | some d => .rt d
  | none => .nx
/-- a loop that looks for the first answer -/
theorem for_find {A : Type} {gm : Gm} {b : Sm} {enc : A → D} {r : A → Option D} (I : En → Prop) : ∀ (xs : List A) {en : En}, I en →
    (∀ x ∈ xs, ∀ en, I en → ∃ en1 en2, gm (enc x) en = .ok en1 ∧ b en1 = .ok (flOf (r x), en2) ∧ I en2) →
    ∃ en', forGo gm b (xs.map enc) en = .ok (flOf (xs.findSome? r), en') ∧ I en'
  | [], en, h0, _ => ⟨en, rfl, h0⟩
  | x :: xs, en, h0, hs => by
    obtain ⟨en1, en2, h1, h2, h3⟩ := hs x List.mem_cons_self en h0
    rw [List.map_cons, List.findSome?_cons]
    unfold forGo
    rw [h1, calm_ok, bind_ok, h2, bind_ok]
    cases q : r x with
    | some d => exact ⟨en2, rfl, h3⟩
    | none =>
      obtain ⟨en', h5, h6⟩ := for_find (enc := enc) I xs h3 fun y hy => hs y (List.mem_cons_of_mem _ hy)
      exact ⟨en', h5, h6⟩
/-- .. over the numbers below n -/
theorem find_rng {j n : Nat} {b : Sm} {en : En} {r : Nat → Option D} (I : En → Prop) (h0 : I en)
    (hs : ∀ i en, i < n → I en → ∃ en2, b (en.set j (.dat (iD i))) = .ok (flOf (r i), en2) ∧ I en2) :
    ∃ en', forGo (gmName j) b ((List.range n).map fun i : Nat => PyData.int (i : Nat)) en = .ok (flOf ((List.range n).findSome? r), en') ∧ I en' :=
  for_find (gm := gmName j) (b := b) (enc := fun i : Nat => PyData.int (i : Nat)) I (List.range n) h0 fun i hi e he => by
    obtain ⟨en2, a1, a2⟩ := hs i e (List.mem_range.mp hi) he
    exact ⟨e.set j (.dat (iD i)), en2, rfl, a1, a2⟩
/-- range of two numbers -/
def rngN (a b : Nat) : List Nat := (List.range (b - a)).map (a + ·)
theorem mem_rngN {a b x : Nat} : x ∈ rngN a b ↔ a ≤ x ∧ x < b := by
  unfold rngN
  rw [List.mem_map]
  constructor
  · rintro ⟨y, hy, rfl⟩
    have := List.mem_range.mp hy
    omega
  · rintro ⟨h1, h2⟩
    exact ⟨x - a, List.mem_range.mpr (by omega), by omega⟩
theorem rng2_N (a b : Nat) (ha : a ≤ 1000) (hb : b ≤ 1000) : rng2 [iD a, iD b] = .ok ((rngN a b).map iD) := by
  have e : rng2 [iD a, iD b] = if ((a : Int) ≤ 100000 ∧ -100000 ≤ (a : Int)) ∧ (b : Int) ≤ 100000 ∧ -100000 ≤ (b : Int) then .ok (intsD (a : Int) ((b : Int) - (a : Int)).toNat) else .stk := rfl
  rw [e, if_pos (by omega)]
  unfold intsD rngN
  rw [List.map_map]
  have : ((b : Int) - (a : Int)).toNat = b - a := by omega
  rw [this]
  rfl
theorem find_rng2 {j a b : Nat} {bd : Sm} {en : En} {r : Nat → Option D} (I : En → Prop) (h0 : I en)
    (hs : ∀ i en, a ≤ i → i < b → I en → ∃ en2, bd (en.set j (.dat (iD i))) = .ok (flOf (r i), en2) ∧ I en2) :
    ∃ en', forGo (gmName j) bd ((rngN a b).map iD) en = .ok (flOf ((rngN a b).findSome? r), en') ∧ I en' :=
  for_find (gm := gmName j) (b := bd) (enc := iD) I (rngN a b) h0 fun i hi e he => by
    obtain ⟨h1, h2⟩ := mem_rngN.mp hi
    obtain ⟨en2, a1, a2⟩ := hs i e h1 h2 he
    exact ⟨e.set j (.dat (iD i)), en2, rfl, a1, a2⟩
theorem for_rng2 {j a b : Nat} {bd : Sm} {en : En} (P : Nat → En → Prop) (h0 : P 0 en)
    (hs : ∀ i en, a + i < b → P i en → ∃ fl en2, bd (en.set j (.dat (iD (a + i)))) = .ok (fl, en2) ∧ (fl = .nx ∨ fl = .ct) ∧ P (i + 1) en2) :
    ∃ en', forGo (gmName j) bd ((rngN a b).map iD) en = .ok (.nx, en') ∧ P (b - a) en' := by
  obtain ⟨en', h1, h2⟩ := for_items (gm := gmName j) (b := bd) (enc := iD) P (rngN a b) (k := 0) (en := en) h0 (fun i hi e hp => by
    have hi' : i < b - a := by unfold rngN at hi; simpa using hi
    rw [Nat.zero_add] at hp ⊢
    obtain ⟨fl, en2, a1, a2, a3⟩ := hs i e (by omega) hp
    have ex : (rngN a b)[i] = a + i := by simp [rngN]
    exact ⟨e.set j (.dat (iD (a + i))), fl, en2, by rw [ex]; rfl, a1, a2, a3⟩)
  have : (rngN a b).length = b - a := by unfold rngN; rw [List.length_map, List.length_range]
  rw [Nat.zero_add, this] at h2
  exact ⟨en', h1, h2⟩
/-! ### lists and tuples of naturals, looked at -/
theorem atI_N (xs : List Nat) (i : Nat) (h : i < xs.length) : atI (xs.map iD) (i : Int) = some (iD xs[i]) := by
  unfold atI ixN
  rw [if_pos (by omega), if_pos (by rw [List.length_map]; omega)]
  show (xs.map iD)[((i : Int)).toNat]? = _
  rw [Int.toNat_natCast, List.getElem?_map, List.getElem?_eq_getElem h]
  rfl
theorem fIx_tupN (xs : List Nat) (i : Nat) (h : i < xs.length) : fIx (tupN xs) (iD i) = .ok (iD xs[i]) := by
  show (match atI (xs.map iD) (i : Int) with
    | some z => Rs.ok z
    | none => .stk) = _
  rw [atI_N xs i h]
theorem fIx_listN (xs : List Nat) (i : Nat) (h : i < xs.length) : fIx (.list (xs.map iD)) (iD i) = .ok (iD xs[i]) := by
  show (match atI (xs.map iD) (i : Int) with
    | some z => Rs.ok z
    | none => .stk) = _
  rw [atI_N xs i h]
theorem atI_TN (F : List (List Nat)) (i : Nat) (h : i < F.length) : atI (F.map tupN) (i : Int) = some (tupN F[i]) := by
  unfold atI ixN
  rw [if_pos (by omega), if_pos (by rw [List.length_map]; omega)]
  show (F.map tupN)[((i : Int)).toNat]? = _
  rw [Int.toNat_natCast, List.getElem?_map, List.getElem?_eq_getElem h]
  rfl
theorem fIx_listTN (F : List (List Nat)) (i : Nat) (h : i < F.length) : fIx (.list (F.map tupN)) (iD i) = .ok (tupN F[i]) := by
  show (match atI (F.map tupN) (i : Int) with
    | some z => Rs.ok z
    | none => .stk) = _
  rw [atI_TN F i h]
theorem fLen_tupN (xs : List Nat) : fLen [tupN xs] = .ok (iD xs.length) := by show Rs.ok (PyData.int (((xs.map iD).length : Nat) : Int)) = _; rw [List.length_map]
theorem fLen_listN (xs : List Nat) : fLen [.list (xs.map iD)] = .ok (iD xs.length) := by show Rs.ok (PyData.int (((xs.map iD).length : Nat) : Int)) = _; rw [List.length_map]
theorem fLen_listTN (F : List (List Nat)) : fLen [.list (F.map tupN)] = .ok (iD F.length) := by show Rs.ok (PyData.int (((F.map tupN).length : Nat) : Int)) = _; rw [List.length_map]
theorem fLen_FD (F : List (List Nat)) : fLen [FD F] = .ok (iD F.length) := by show Rs.ok (PyData.int (((F.map tupN).length : Nat) : Int)) = _; rw [List.length_map]
theorem fAdd_N (a b : Nat) : fAdd (iD a) (iD b) = .ok (iD (a + b)) := rfl
theorem fSub_N {a b : Nat} (h : b ≤ a) : fSub (iD a) (iD b) = .ok (iD (a - b)) := by
  show Rs.ok (PyData.int ((a : Int) - (b : Int))) = _
  have : (a : Int) - (b : Int) = ((a - b : Nat) : Int) := by omega
  rw [this]
theorem okMul_N {a b : Nat} (ha : a < 2 ^ 62) (hb : b < 2 ^ 62) : okMul (a : Int) (b : Int) = true := by
  unfold okMul
  rw [Bool.and_eq_true]
  exact ⟨decide_eq_true (Nat.lt_of_lt_of_le (log2_small (n := 62) (by show (a : Int).natAbs < _; omega) (by decide)) (by decide)), decide_eq_true (Nat.lt_of_lt_of_le (log2_small (n := 62) (by show (b : Int).natAbs < _; omega) (by decide)) (by decide))⟩
theorem fMul_N {a b : Nat} (ha : a < 2 ^ 62) (hb : b < 2 ^ 62) : fMul (iD a) (iD b) = .ok (iD (a * b)) := by
  show (if okMul (a : Int) (b : Int) = true then Rs.ok (PyData.int ((a : Int) * (b : Int))) else .stk) = _
  rw [if_pos (okMul_N ha hb)]
  have : (a : Int) * (b : Int) = ((a * b : Nat) : Int) := by omega
  rw [this]
theorem fMod_N {a b : Nat} (hb : 0 < b) : fMod (iD a) (iD b) = .ok (iD (a % b)) := by
  show (if okMod (a : Int) (b : Int) = true then Rs.ok (PyData.int ((a : Int) % (b : Int))) else .stk) = _
  rw [if_pos (show okMod (a : Int) (b : Int) = true from decide_eq_true (by omega))]
  rfl
theorem fDiv_N {a b : Nat} (hb : 0 < b) (hb2 : b < 2 ^ 62) : fDiv (iD a) (iD b) = .ok (iD (a / b)) := by
  have h : okDiv (a : Int) (b : Int) = true := by
    unfold okDiv
    rw [Bool.and_eq_true]
    exact ⟨decide_eq_true (by omega), decide_eq_true (Nat.lt_of_lt_of_le (log2_small (n := 62) (by show (b : Int).natAbs < _; omega) (by decide)) (by decide))⟩
  show (if okDiv (a : Int) (b : Int) = true then Rs.ok (PyData.int ((a : Int) / (b : Int))) else .stk) = _
  rw [if_pos h]
  rfl
theorem fEq_N (a b : Nat) : fEq (iD a) (iD b) = .ok (.bool (decide (a = b))) := by
  rw [fEq_int]
  congr 2
  exact decide_eq_decide.mpr (by omega)
theorem fNe_N (a b : Nat) : fNe (iD a) (iD b) = .ok (.bool (!decide (a = b))) := by
  rw [fNe_int]
  congr 2
  have : decide ((a : Int) = (b : Int)) = decide (a = b) := decide_eq_decide.mpr (by omega)
  first
    | rw [this]
    | (rw [← this]; simp)
theorem fLt_N (a b : Nat) : fLt (iD a) (iD b) = .ok (.bool (decide (a < b))) := by
  rw [fLt_int]
  congr 2
  exact decide_eq_decide.mpr (by omega)
theorem fLe_N (a b : Nat) : fLe (iD a) (iD b) = .ok (.bool (decide (a ≤ b))) := by
  rw [fLe_int]
  congr 2
  exact decide_eq_decide.mpr (by omega)
theorem fGt_N (a b : Nat) : fGt (iD a) (iD b) = .ok (.bool (decide (b < a))) := by
  rw [fGt_int]
  congr 2
  exact decide_eq_decide.mpr (by omega)
theorem fGe_N (a b : Nat) : fGe (iD a) (iD b) = .ok (.bool (decide (b ≤ a))) := by
  rw [fGe_int]
  congr 2
  exact decide_eq_decide.mpr (by omega)
theorem fXor_bit {a b : Nat} (ha : a < 2) (hb : b < 2) : fXor (iD a) (iD b) = .ok (iD ((a + b) % 2)) := by
  have h1 : a = 0 ∨ a = 1 := by omega
  have h2 : b = 0 ∨ b = 1 := by omega
  rcases h1 with rfl | rfl <;> rcases h2 with rfl | rfl <;> rfl
end Mir
end

section
set_option Elab.async false
set_option linter.all false
set_option maxRecDepth 100000
set_option maxHeartbeats 4000000
/-! MirV: comprehensions over tuples; sums; in a tuple. -/
namespace Mir
open PySem PySem.Spec PyProof.Rows L2
theorem fAdd_list (a b : List D) (h : a.length + b.length ≤ 100000) : fAdd (.list a) (.list b) = .ok (.list (a ++ b)) := by
  show (if a.length + b.length ≤ big then Rs.ok (PyData.list (a ++ b)) else .stk) = _
  rw [if_pos (show a.length + b.length ≤ big from h)]
theorem fAdd_tup (a : List Nat) (k : Nat) (h : a.length ≤ 1000) : fAdd (tupN a) (.tuple [iD k]) = .ok (tupN (a ++ [k])) := by
  show (if (a.map iD).length + [iD k].length ≤ big then Rs.ok (PyData.tuple (a.map iD ++ [iD k])) else .stk) = _
  rw [if_pos (by rw [List.length_map]; show a.length + 1 ≤ 100000; omega)]
  unfold tupN
  rw [List.map_append]
  rfl
/-- a comprehension over tuples of naturals -/
theorem lLc_tups {j : Nat} {a : Em} {t : Mir.Tm} {m : Em} {en : En} {F : List (List Nat)} {d0 : D} (b : List Nat → Bool) (f : List Nat → D) (ha : a en = .ok (d0, en)) (h0 : itemsOf d0 = .ok (F.map tupN)) (hj : j < en.length) (hn : noOwn en [j] = true) (hz : F.length ≤ 100000)
    (h : ∀ i ∈ F, t (en.set j (.dat (tupN i))) = .ok (b i, en.set j (.dat (tupN i))) ∧ (b i = true → m (en.set j (.dat (tupN i))) = .ok (f i, en.set j (.dat (tupN i))))) :
    lLc (imSeq a) [j] (gmName j) t m en = .ok ((F.filter b).map f, en) := by
  have hi : imSeq a en = .ok (F.map tupN, en) := by rw [imSeq_ap, ha, bind_ok, h0, bind_ok]
  let un : D → List Nat := fun d => match d with | .tuple ds => ds.map fun z => (match z with | .int i => i.toNat | _ => 0) | _ => []
  have hu : ∀ i, un (tupN i) = i := fun i => by
    show (i.map iD).map _ = i
    rw [List.map_map]
    conv => rhs; rw [← List.map_id i]
    rfl
  have := lLc_pure (j := j) (t := t) (m := m) (fun d => b (un d)) (fun d => f (un d)) hi hj hn (by rw [List.length_map]; exact hz) (fun d hd => by
    obtain ⟨i, hi, rfl⟩ := List.mem_map.mp hd
    simp only [hu]
    exact h i hi)
  rw [this, List.filter_map, List.map_map]
  congr 2
  have e1 : ((fun d => b (un d)) ∘ tupN) = b := funext fun i => by show b (un (tupN i)) = b i; rw [hu]
  have e2 : ((fun d => f (un d)) ∘ tupN) = f := funext fun i => by show f (un (tupN i)) = f i; rw [hu]
  rw [e1, e2]
theorem lLc_ints {j : Nat} {im : Im} {t : Mir.Tm} {m : Em} {en : En} {ms : List Nat} (b : Nat → Bool) (f : Nat → D) (hi : im en = .ok (ms.map iD, en)) (hj : j < en.length) (hn : noOwn en [j] = true) (hz : ms.length ≤ 100000)
    (h : ∀ i ∈ ms, t (en.set j (.dat (iD i))) = .ok (b i, en.set j (.dat (iD i))) ∧ (b i = true → m (en.set j (.dat (iD i))) = .ok (f i, en.set j (.dat (iD i))))) :
    lLc im [j] (gmName j) t m en = .ok ((ms.filter b).map f, en) := by
  let dec : D → Nat := fun d => match d with | .int i => i.toNat | _ => 0
  have := lLc_pure (j := j) (t := t) (m := m) (fun d => b (dec d)) (fun d => f (dec d)) hi hj hn (by rw [List.length_map]; exact hz) (fun d hd => by
    obtain ⟨i, hi, rfl⟩ := List.mem_map.mp hd
    exact h i hi)
  rw [this, List.filter_map, List.map_map]
  rfl
theorem any_iD (ts : List Nat) (m : Nat) : ((ts.map iD).any fun z => PyData.eqv z (iD m)) = decide (m ∈ ts) := by
  induction ts with
  | nil => simp
  | cons t ts ih =>
    rw [List.map_cons, List.any_cons, ih, eqv_iD]
    by_cases q : t = m
    · simp [q]
    · have : m ≠ t := fun z => q z.symm
      simp [q, this]
theorem in_tup (h : Nat) (b : List Nat) : fIn (iD h) (tupN b) = .ok (.bool (decide (h ∈ b))) := by
  show yn (okEq (iD h) (tupN b)) ((b.map iD).any fun z => PyData.eqv z (iD h)) = _
  have hc : okEq (iD h) (tupN b) = true := by unfold okEq; rw [shaped_int, shaped_tupN]; rfl
  rw [hc, any_iD]
  rfl
theorem notIn_tup (h : Nat) (b : List Nat) : fNotIn (iD h) (tupN b) = .ok (.bool (!decide (h ∈ b))) := by
  show yn (okEq (iD h) (tupN b)) (!(b.map iD).any fun z => PyData.eqv z (iD h)) = _
  have hc : okEq (iD h) (tupN b) = true := by unfold okEq; rw [shaped_int, shaped_tupN]; rfl
  rw [hc, any_iD]
  rfl
/-- a's houses are b's -/
theorem fSum_N (xs : List Nat) : fSum [.list (xs.map iD)] = .ok (iD xs.sum) := by
  have e1 : xs.map iD = (xs.map fun x : Nat => (x : Int)).map PyData.int := by rw [List.map_map]; rfl
  rw [e1]
  unfold fSum
  simp only [intsOf_map]
  congr 2
  induction xs with
  | nil => rfl
  | cons a l ih =>
    rw [List.map_cons, List.sum_cons, List.sum_cons, ih (by rw [List.map_map]; rfl)]
    omega
end Mir
end

section
set_option Elab.async false
set_option linter.all false
set_option maxRecDepth 100000
set_option maxHeartbeats 4000000
/-! DigA: places and choices: mixed digits. -/
namespace Dg
def prodL : List Nat → Nat
  | [] => 1
  | a :: r => a * prodL r
def spans : List Nat → List Nat
  | [] => []
  | _ :: r => prodL r :: spans r
def sp (s : List Nat) (h : Nat) : Nat := (spans s).getD h 0
def sz (s : List Nat) (h : Nat) : Nat := s.getD h 0
def dg (s : List Nat) (h p : Nat) : Nat := p / sp s h % sz s h
def pl : List Nat → (Nat → Nat) → Nat
  | [], _ => 0
  | _ :: r, x => x 0 * prodL r + pl r fun h => x (h + 1)
def Ok (s : List Nat) (x : Nat → Nat) : Prop := ∀ h, h < s.length → x h < sz s h
def Pos (s : List Nat) : Prop := ∀ a ∈ s, 0 < a
theorem spans_len : ∀ s : List Nat, (spans s).length = s.length
  | [] => rfl
  | _ :: r => by rw [spans, List.length_cons, List.length_cons, spans_len r]
theorem sp_zero (a : Nat) (r : List Nat) : sp (a :: r) 0 = prodL r := rfl
theorem sp_succ (a : Nat) (r : List Nat) (h : Nat) : sp (a :: r) (h + 1) = sp r h := rfl
theorem sz_zero (a : Nat) (r : List Nat) : sz (a :: r) 0 = a := rfl
theorem sz_succ (a : Nat) (r : List Nat) (h : Nat) : sz (a :: r) (h + 1) = sz r h := rfl
theorem prod_pos : ∀ {s : List Nat}, Pos s → 0 < prodL s
  | [], _ => Nat.one_pos
  | a :: r, h => Nat.mul_pos (h a List.mem_cons_self) (prod_pos fun b hb => h b (List.mem_cons_of_mem _ hb))
theorem Pos.tail {a : Nat} {r : List Nat} (h : Pos (a :: r)) : Pos r := fun b hb => h b (List.mem_cons_of_mem _ hb)
theorem sz_pos : ∀ {s : List Nat} {h : Nat}, Pos s → h < s.length → 0 < sz s h
  | [], h, _, hh => absurd hh (Nat.not_lt_zero _)
  | a :: r, 0, p, _ => p a List.mem_cons_self
  | a :: r, h + 1, p, hh => sz_pos (s := r) (h := h) p.tail (by rw [List.length_cons] at hh; omega)
theorem sp_pos : ∀ {s : List Nat} {h : Nat}, Pos s → h < s.length → 0 < sp s h
  | [], h, _, hh => absurd hh (Nat.not_lt_zero _)
  | a :: r, 0, p, _ => prod_pos p.tail
  | a :: r, h + 1, p, hh => sp_pos (s := r) (h := h) p.tail (by rw [List.length_cons] at hh; omega)
theorem prod_div : ∀ {s : List Nat} {h : Nat}, h < s.length → ∃ m, prodL s = sp s h * sz s h * m
  | [], h, hh => absurd hh (Nat.not_lt_zero _)
  | a :: r, 0, _ => ⟨1, by rw [sp_zero, sz_zero, prodL, Nat.mul_one, Nat.mul_comm]⟩
  | a :: r, h + 1, hh => by
    obtain ⟨m, e⟩ := prod_div (s := r) (h := h) (by rw [List.length_cons] at hh; omega)
    refine ⟨m * a, ?_⟩
    rw [sp_succ, sz_succ, prodL, e, Nat.mul_comm a, Nat.mul_assoc (sp r h * sz r h)]
theorem sp_step : ∀ {s : List Nat} {h : Nat}, h + 1 < s.length → sp s h = sp s (h + 1) * sz s (h + 1)
  | [], h, hh => absurd hh (Nat.not_lt_zero _)
  | [a], h, hh => by rw [List.length_singleton] at hh; omega
  | a :: b :: r, 0, _ => by rw [sp_zero, sp_succ, sp_zero, sz_succ, sz_zero, prodL, Nat.mul_comm]
  | a :: b :: r, h + 1, hh => by
    rw [sp_succ, sp_succ, sz_succ]
    exact sp_step (s := b :: r) (h := h) (by rw [List.length_cons] at hh; omega)
theorem sp_last : ∀ {s : List Nat}, s ≠ [] → sp s (s.length - 1) = 1
  | [], h => absurd rfl h
  | [a], _ => rfl
  | a :: b :: r, _ => by
    have := sp_last (s := b :: r) (by simp)
    rw [show (a :: b :: r).length - 1 = ((b :: r).length - 1) + 1 by simp, sp_succ]
    exact this
theorem sp_le : ∀ {s : List Nat} {h : Nat}, Pos s → h < s.length → sp s h ≤ prodL s := fun {s h} p hh => by
  obtain ⟨m, e⟩ := prod_div hh
  have hp := prod_pos p
  have hz := sz_pos p hh
  have hm : 0 < m := by
    rcases Nat.eq_zero_or_pos m with q | q
    · rw [q, Nat.mul_zero] at e; omega
    · exact q
  rw [e, Nat.mul_assoc]
  exact Nat.le_mul_of_pos_right _ (Nat.mul_pos hz hm)
theorem sz_le {s : List Nat} {h : Nat} (p : Pos s) (hh : h < s.length) : sz s h ≤ prodL s := by
  obtain ⟨m, e⟩ := prod_div hh
  have hp := prod_pos p
  have hm : 0 < m := by
    rcases Nat.eq_zero_or_pos m with q | q
    · rw [q, Nat.mul_zero] at e; omega
    · exact q
  have hs := sp_pos p hh
  rw [e]
  calc sz s h ≤ sp s h * sz s h := Nat.le_mul_of_pos_left _ hs
    _ ≤ _ := Nat.le_mul_of_pos_right _ hm
theorem Ok.tail {a : Nat} {r : List Nat} {x : Nat → Nat} (h : Ok (a :: r) x) : Ok r fun i => x (i + 1) := fun i hi => h (i + 1) (by rw [List.length_cons]; omega)
theorem pl_lt : ∀ {s : List Nat} {x : Nat → Nat}, Ok s x → pl s x < prodL s
  | [], _, _ => Nat.one_pos
  | a :: r, x, h => by
    have h0 : x 0 < a := h 0 (by rw [List.length_cons]; omega)
    have ih := pl_lt h.tail
    rw [pl, prodL]
    calc x 0 * prodL r + pl r (fun i => x (i + 1)) < x 0 * prodL r + prodL r := by omega
      _ = (x 0 + 1) * prodL r := by rw [Nat.add_mul, Nat.one_mul]
      _ ≤ a * prodL r := Nat.mul_le_mul_right _ h0
theorem dg_pl : ∀ {s : List Nat} {x : Nat → Nat} {h : Nat}, Pos s → Ok s x → h < s.length → dg s h (pl s x) = x h
  | [], _, h, _, _, hh => absurd hh (Nat.not_lt_zero _)
  | a :: r, x, 0, p, h, _ => by
    have h0 : x 0 < a := h 0 (by rw [List.length_cons]; omega)
    have ih := pl_lt h.tail
    have hp := prod_pos p.tail
    unfold dg
    rw [sp_zero, sz_zero, pl, Nat.add_comm, Nat.add_mul_div_right _ _ hp, Nat.div_eq_of_lt ih, Nat.zero_add, Nat.mod_eq_of_lt h0]
  | a :: r, x, h + 1, p, ok, hh => by
    have hh' : h < r.length := by rw [List.length_cons] at hh; omega
    have ih := dg_pl (s := r) (x := fun i => x (i + 1)) (h := h) p.tail ok.tail hh'
    obtain ⟨m, e⟩ := prod_div hh'
    have hs := sp_pos p.tail hh'
    unfold dg at ih ⊢
    rw [sp_succ, sz_succ, pl, e]
    have e2 : x 0 * (sp r h * sz r h * m) + pl r (fun i => x (i + 1)) = pl r (fun i => x (i + 1)) + sp r h * (sz r h * (m * x 0)) := by
      rw [Nat.add_comm, Nat.mul_assoc, Nat.mul_left_comm, Nat.mul_comm (x 0), Nat.mul_assoc]
    rw [e2, Nat.add_mul_div_left _ _ hs, Nat.add_mul_mod_self_left]
    exact ih
theorem dg_ok {s : List Nat} {p : Nat} (ps : Pos s) : Ok s fun h => dg s h p := fun h hh => Nat.mod_lt _ (sz_pos ps hh)
theorem pl_congr : ∀ {s : List Nat} {x y : Nat → Nat}, (∀ h, h < s.length → x h = y h) → pl s x = pl s y
  | [], _, _, _ => rfl
  | a :: r, x, y, h => by
    rw [pl, pl, h 0 (by rw [List.length_cons]; omega), pl_congr fun i hi => h (i + 1) (by rw [List.length_cons]; omega)]
theorem dg_mod {s : List Nat} {h p : Nat} (ps : Pos s) (hh : h < s.length) : dg s h (p % prodL s) = dg s h p := by
  obtain ⟨m, e⟩ := prod_div hh
  have hs := sp_pos ps hh
  have e1 : p = p % prodL s + sp s h * (sz s h * (m * (p / prodL s))) := by
    conv => lhs; rw [← Nat.mod_add_div p (prodL s)]
    congr 1
    conv => lhs; rw [e]
    rw [Nat.mul_assoc, Nat.mul_assoc, ← e]
  unfold dg
  conv => rhs; rw [e1, Nat.add_mul_div_left _ _ hs, Nat.add_mul_mod_self_left]
theorem pl_dg : ∀ {s : List Nat} {p : Nat}, Pos s → p < prodL s → pl s (fun h => dg s h p) = p
  | [], p, _, h => by
    have h' : p < 1 := h
    show 0 = p
    omega
  | a :: r, p, ps, h => by
    have hp := prod_pos ps.tail
    have ih := pl_dg (s := r) (p := p % prodL r) ps.tail (Nat.mod_lt _ hp)
    have e : pl r (fun i => dg (a :: r) (i + 1) p) = pl r (fun i => dg r i (p % prodL r)) := pl_congr fun i hi => (dg_mod (s := r) ps.tail hi).symm
    have e0 : dg (a :: r) 0 p = p / prodL r := by
      unfold dg
      rw [sp_zero, sz_zero]
      exact Nat.mod_eq_of_lt ((Nat.div_lt_iff_lt_mul hp).mpr h)
    rw [pl, e, ih, e0]
    show p / prodL r * prodL r + p % prodL r = p
    rw [Nat.mul_comm]
    exact Nat.div_add_mod p (prodL r)
def upd (x : Nat → Nat) (i a : Nat) : Nat → Nat := fun h => if h = i then a else x h
theorem upd_at (x : Nat → Nat) (i a : Nat) : upd x i a i = a := if_pos rfl
theorem upd_ne {x : Nat → Nat} {i a h : Nat} (q : h ≠ i) : upd x i a h = x h := if_neg q
theorem Ok.upd {s : List Nat} {x : Nat → Nat} {i a : Nat} (h : Ok s x) (ha : a < sz s i) : Ok s (upd x i a) := fun j hj => by
  by_cases q : j = i
  · subst q; rw [upd_at]; exact ha
  · rw [upd_ne q]; exact h j hj
theorem pl_upd : ∀ {s : List Nat} {x : Nat → Nat} {i a : Nat}, i < s.length → pl s (upd x i a) + x i * sp s i = pl s x + a * sp s i
  | [], _, i, _, h => absurd h (Nat.not_lt_zero _)
  | b :: r, x, 0, a, _ => by
    have e : pl r (fun h => upd x 0 a (h + 1)) = pl r fun h => x (h + 1) := pl_congr fun h _ => upd_ne (by omega)
    rw [pl, pl, e, upd_at, sp_zero]
    omega
  | b :: r, x, i + 1, a, h => by
    have ih := pl_upd (s := r) (x := fun h => x (h + 1)) (i := i) (a := a) (by rw [List.length_cons] at h; omega)
    have e : (fun h => upd x (i + 1) a (h + 1)) = upd (fun h => x (h + 1)) i a := by
      funext h
      unfold upd
      by_cases q : h = i
      · rw [if_pos (by omega), if_pos q]
      · rw [if_neg (by omega), if_neg q]
    have e0 : upd x (i + 1) a 0 = x 0 := upd_ne (by omega)
    rw [pl, pl, e, e0, sp_succ]
    omega
/-- digits tell places apart -/
theorem pl_inj {s : List Nat} {p q : Nat} (ps : Pos s) (hp : p < prodL s) (hq : q < prodL s) (h : ∀ i, i < s.length → dg s i p = dg s i q) : p = q := by
  rw [← pl_dg ps hp, ← pl_dg ps hq]
  exact pl_congr h
end Dg
end

section
set_option Elab.async false
set_option linter.all false
set_option maxRecDepth 100000
set_option maxHeartbeats 4000000
/-! DigB: knit houses, seams. -/
namespace Dg
def rect (s : List Nat) (T : Nat → Nat) (x : Nat → Nat) (i j a b : Nat) : Nat := T (pl s x) + T (pl s (upd x i a)) + T (pl s (upd x j b)) + T (pl s (upd (upd x i a) j b))
def Knit (s : List Nat) (T : Nat → Nat) (i j : Nat) : Prop := ∃ x a b, Ok s x ∧ a < sz s i ∧ b < sz s j ∧ rect s T x i j a b % 2 = 1
theorem upd_upd (x : Nat → Nat) (i a b : Nat) : upd (upd x i a) i b = upd x i b := by
  funext h
  unfold upd
  by_cases q : h = i <;> simp [q]
theorem upd_comm {x : Nat → Nat} {i j a b : Nat} (q : i ≠ j) : upd (upd x i a) j b = upd (upd x j b) i a := by
  funext h
  unfold upd
  by_cases q1 : h = i <;> by_cases q2 : h = j <;> simp [q1, q2] <;> omega
theorem upd_self (x : Nat → Nat) (i : Nat) : upd x i (x i) = x := by
  funext h
  unfold upd
  by_cases q : h = i <;> simp [q]
theorem upd_to {x : Nat → Nat} {i a : Nat} (h : x i = a) : upd x i a = x := by rw [← h]; exact upd_self x i
def gr (s : List Nat) (T : Nat → Nat) (z : Nat → Nat) (i j u v : Nat) : Nat := T (pl s (upd (upd z i u) j v))
theorem Knit.symm {s : List Nat} {T : Nat → Nat} {i j : Nat} (q : i ≠ j) (h : Knit s T i j) : Knit s T j i := by
  obtain ⟨x, a, b, h1, h2, h3, h4⟩ := h
  refine ⟨x, b, a, h1, h3, h2, ?_⟩
  unfold rect at h4 ⊢
  rw [upd_comm (Ne.symm q)]
  omega
/-- an odd four that stands at noughts -/
theorem knit_zero {s : List Nat} {T : Nat → Nat} {i j : Nat} (q : i ≠ j) (hi : i < s.length) (hj : j < s.length) (h : Knit s T i j) : ∃ x a b, Ok s x ∧ x i = 0 ∧ x j = 0 ∧ 0 < a ∧ a < sz s i ∧ 0 < b ∧ b < sz s j ∧ rect s T x i j a b % 2 = 1 := by
  obtain ⟨x, a, b, h1, h2, h3, h4⟩ := h
  have xi : x i < sz s i := h1 i hi
  have xj : x j < sz s j := h1 j hj
  let z := upd (upd x i 0) j 0
  have zi : z i = 0 := by
    show upd (upd x i 0) j 0 i = 0
    rw [upd_ne q, upd_at]
  have zj : z j = 0 := upd_at _ _ _
  have okz : Ok s z := (h1.upd (by omega)).upd (by omega)
  have hz : ∀ u v, upd (upd z i u) j v = upd (upd x i u) j v := fun u v => by
    show upd (upd (upd (upd x i 0) j 0) i u) j v = _
    rw [upd_comm (x := upd x i 0) (Ne.symm q), upd_upd, upd_upd]
  have e0 : upd (upd x i (x i)) j (x j) = x := by rw [upd_self, upd_self]
  have e1 : upd (upd x i a) j (x j) = upd x i a := upd_to (upd_ne (Ne.symm q))
  have e2 : upd (upd x i (x i)) j b = upd x j b := by rw [upd_self]
  have hr : (gr s T z i j (x i) (x j) + gr s T z i j a (x j) + gr s T z i j (x i) b + gr s T z i j a b) % 2 = 1 := by
    unfold gr
    rw [hz, hz, hz, hz, e0, e1, e2]
    exact h4
  have key : ∀ u v, u < sz s i → v < sz s j → (gr s T z i j 0 0 + gr s T z i j u 0 + gr s T z i j 0 v + gr s T z i j u v) % 2 = 1 → ∃ x a b, Ok s x ∧ x i = 0 ∧ x j = 0 ∧ 0 < a ∧ a < sz s i ∧ 0 < b ∧ b < sz s j ∧ rect s T x i j a b % 2 = 1 := fun u v hu hv ho => by
    have u0 : 0 < u := by
      rcases Nat.eq_zero_or_pos u with r | r
      · subst r; omega
      · exact r
    have v0 : 0 < v := by
      rcases Nat.eq_zero_or_pos v with r | r
      · subst r; omega
      · exact r
    refine ⟨z, u, v, okz, zi, zj, u0, hu, v0, hv, ?_⟩
    have a0 : upd z i 0 = z := upd_to zi
    have a1 : upd (upd z i 0) j 0 = z := by rw [a0]; exact upd_to zj
    have a2 : upd (upd z i u) j 0 = upd z i u := upd_to (by rw [upd_ne (Ne.symm q)]; exact zj)
    have a3 : upd (upd z i 0) j v = upd z j v := by rw [a0]
    unfold gr at ho
    rw [a1, a2, a3] at ho
    exact ho
  clear_value z
  by_cases r1 : (gr s T z i j 0 0 + gr s T z i j (x i) 0 + gr s T z i j 0 (x j) + gr s T z i j (x i) (x j)) % 2 = 1
  · exact key _ _ xi xj r1
  by_cases r2 : (gr s T z i j 0 0 + gr s T z i j a 0 + gr s T z i j 0 (x j) + gr s T z i j a (x j)) % 2 = 1
  · exact key _ _ h2 xj r2
  by_cases r3 : (gr s T z i j 0 0 + gr s T z i j (x i) 0 + gr s T z i j 0 b + gr s T z i j (x i) b) % 2 = 1
  · exact key _ _ xi h3 r3
  by_cases r4 : (gr s T z i j 0 0 + gr s T z i j a 0 + gr s T z i j 0 b + gr s T z i j a b) % 2 = 1
  · exact key _ _ h2 h3 r4
  · exfalso; omega
/-- the places of a four -/
theorem pl_up {s : List Nat} {x : Nat → Nat} {i a : Nat} (hi : i < s.length) (ha : x i ≤ a) : pl s (upd x i a) = pl s x + (a - x i) * sp s i := by
  have := pl_upd (s := s) (x := x) (i := i) (a := a) hi
  have e : a * sp s i = (a - x i) * sp s i + x i * sp s i := by rw [← Nat.add_mul, Nat.sub_add_cancel ha]
  omega
theorem rect_up {s : List Nat} {T : Nat → Nat} {x : Nat → Nat} {i j a b : Nat} (q : i ≠ j) (hi : i < s.length) (hj : j < s.length) (ha : x i ≤ a) (hb : x j ≤ b) :
    rect s T x i j a b = T (pl s x) + T (pl s x + (a - x i) * sp s i) + T (pl s x + (b - x j) * sp s j) + T (pl s x + (a - x i) * sp s i + (b - x j) * sp s j) := by
  unfold rect
  have e : upd x i a j = x j := upd_ne (Ne.symm q)
  rw [pl_up hi ha, pl_up hj hb, pl_up (x := upd x i a) hj (by rw [e]; exact hb), e, pl_up hi ha]
/-! ### seams -/
def restr (L : Nat → Bool) (x : Nat → Nat) : Nat → Nat := fun h => if L h = true then x h else 0
def SeamP (s : List Nat) (T : Nat → Nat) (L : Nat → Bool) : Prop := ∀ x, Ok s x → (T (pl s x) + T (pl s (restr L x)) + T (pl s (restr (fun h => !L h) x)) + T 0) % 2 = 0
theorem pl_zero : ∀ s : List Nat, pl s (fun _ => 0) = 0
  | [] => rfl
  | _ :: r => by rw [pl, pl_zero r, Nat.zero_mul]
def mix (L : Nat → Bool) (x : Nat → Nat) (u v : Nat) : Nat → Nat := fun h => if L h = true then (if h < u then x h else 0) else if h < v then x h else 0
theorem mix_ok {s : List Nat} {L : Nat → Bool} {x : Nat → Nat} (ps : Pos s) (h : Ok s x) (u v : Nat) : Ok s (mix L x u v) := fun i hi => by
  have := h i hi
  have := sz_pos ps hi
  unfold mix
  split
  · split <;> omega
  · split <;> omega
def gm (s : List Nat) (T : Nat → Nat) (L : Nat → Bool) (x : Nat → Nat) (u v : Nat) : Nat := T (pl s (mix L x u v))
theorem mix_in {L : Nat → Bool} {x : Nat → Nat} {u v : Nat} (l : L u = true) : mix L x (u + 1) v = upd (mix L x u v) u (x u) := by
  funext h
  unfold mix upd
  by_cases z : h = u
  · subst z; simp [l]
  · have e : (h < u + 1) ↔ (h < u) := by omega
    simp [z, e]
theorem mix_out {L : Nat → Bool} {x : Nat → Nat} {u v : Nat} (l : L u = false) : mix L x (u + 1) v = mix L x u v := by
  funext h
  unfold mix
  by_cases z : h = u
  · subst z; simp [l]
  · have e : (h < u + 1) ↔ (h < u) := by omega
    simp [e]
theorem mix_in2 {L : Nat → Bool} {x : Nat → Nat} {u v : Nat} (l : L v = false) : mix L x u (v + 1) = upd (mix L x u v) v (x v) := by
  funext h
  unfold mix upd
  by_cases z : h = v
  · subst z; simp [l]
  · have e : (h < v + 1) ↔ (h < v) := by omega
    simp [z, e]
theorem mix_out2 {L : Nat → Bool} {x : Nat → Nat} {u v : Nat} (l : L v = true) : mix L x u (v + 1) = mix L x u v := by
  funext h
  unfold mix
  by_cases z : h = v
  · subst z; simp [l]
  · have e : (h < v + 1) ↔ (h < v) := by omega
    simp [e]
theorem seam_of {s : List Nat} {T : Nat → Nat} {L : Nat → Bool} (ps : Pos s) (hk : ∀ i j, i < s.length → j < s.length → L i = true → L j = false → ¬ Knit s T i j) : SeamP s T L := by
  intro x hx
  have one : ∀ u v, u < s.length → v < s.length → (gm s T L x (u + 1) (v + 1) + gm s T L x u (v + 1) + gm s T L x (u + 1) v + gm s T L x u v) % 2 = 0 := by
    intro u v hu hv
    unfold gm
    cases lu : L u with
    | true =>
      cases lv : L v with
      | true =>
        rw [mix_out2 lv, mix_out2 lv]
        omega
      | false =>
        have no := hk u v hu hv lu lv
        have : ¬ rect s T (mix L x u v) u v (x u) (x v) % 2 = 1 := fun h => no ⟨mix L x u v, x u, x v, mix_ok ps hx u v, hx u hu, hx v hv, h⟩
        unfold rect at this
        rw [mix_in2 (u := u + 1) lv, mix_in (v := v) lu, mix_in2 (u := u) lv]
        omega
    | false =>
      rw [mix_out lu, mix_out lu]
      omega
  have row : ∀ v u, v ≤ s.length → u < s.length → (gm s T L x (u + 1) v + gm s T L x u v + gm s T L x (u + 1) 0 + gm s T L x u 0) % 2 = 0 := by
    intro v
    induction v with
    | zero => intro u _ _; omega
    | succ v ih =>
      intro u hv hu
      have a1 := ih u (by omega) hu
      have a2 := one u v hu (by omega)
      omega
  have all : ∀ u, u ≤ s.length → (gm s T L x u s.length + gm s T L x 0 s.length + gm s T L x u 0 + gm s T L x 0 0) % 2 = 0 := by
    intro u
    induction u with
    | zero => intro _; omega
    | succ u ih =>
      intro hu
      have a1 := ih (by omega)
      have a2 := row s.length u (Nat.le_refl _) (by omega)
      omega
  have fin := all s.length (Nat.le_refl _)
  have g1 : pl s (mix L x s.length s.length) = pl s x := pl_congr fun h hh => by
    unfold mix
    simp [hh]
  have g2 : pl s (mix L x 0 s.length) = pl s (restr (fun h => !L h) x) := pl_congr fun h hh => by
    unfold mix restr
    cases l : L h <;> simp [hh, l]
  have g3 : pl s (mix L x s.length 0) = pl s (restr L x) := pl_congr fun h hh => by
    unfold mix restr
    cases l : L h <;> simp [hh, l]
  have g4 : pl s (mix L x 0 0) = 0 := by
    have e : pl s (mix L x 0 0) = pl s (fun _ => 0) := pl_congr fun h hh => by
      unfold mix
      cases L h <;> simp
    rw [e, pl_zero]
  unfold gm at fin
  rw [g1, g2, g3, g4] at fin
  omega
theorem restr_upd_in {L : Nat → Bool} {x : Nat → Nat} {i a : Nat} (h : L i = true) : restr L (upd x i a) = upd (restr L x) i a := by
  funext k
  unfold restr upd
  by_cases q : k = i
  · subst q; simp [h]
  · simp [q]
theorem restr_upd_out {L : Nat → Bool} {x : Nat → Nat} {i a : Nat} (h : L i = false) : restr L (upd x i a) = restr L x := by
  funext k
  unfold restr upd
  by_cases q : k = i
  · subst q; simp [h]
  · simp [q]
theorem seam_no {s : List Nat} {T : Nat → Nat} {L : Nat → Bool} (hs : SeamP s T L) {i j : Nat} (hi : L i = true) (hj : L j = false) : ¬ Knit s T i j := by
  rintro ⟨x, a, b, h1, h2, h3, h4⟩
  have nj : (fun h => !L h) j = true := by show (!L j) = true; rw [hj]; rfl
  have ni : (fun h => !L h) i = false := by show (!L i) = false; rw [hi]; rfl
  have a1 := hs x h1
  have a2 := hs _ (h1.upd h2)
  have a3 := hs _ (h1.upd h3)
  have a4 := hs _ ((h1.upd h2).upd h3)
  rw [restr_upd_in hi, restr_upd_out ni] at a2
  rw [restr_upd_out hj, restr_upd_in nj] at a3
  rw [restr_upd_out hj, restr_upd_in hi, restr_upd_in nj, restr_upd_out ni] at a4
  unfold rect at h4
  omega
end Dg
end

section
set_option Elab.async false
set_option linter.all false
set_option maxRecDepth 100000
set_option maxHeartbeats 4000000
/-! DigC: marks joined along pairs; clumps. -/
namespace Dg
def at0 (l : List Nat) (h : Nat) : Nat := l.getD h 0
theorem at0_map {l : List Nat} {f : Nat → Nat} {h : Nat} (hh : h < l.length) : at0 (l.map f) h = f (at0 l h) := by
  unfold at0
  rw [List.getD_eq_getElem?_getD, List.getD_eq_getElem?_getD, List.getElem?_map, List.getElem?_eq_getElem hh]
  rfl
theorem at0_get {l : List Nat} {h : Nat} (hh : h < l.length) : at0 l h = l[h] := by
  unfold at0
  rw [List.getD_eq_getElem?_getD, List.getElem?_eq_getElem hh]
  rfl
def joinL (lab : List Nat) (p : Nat × Nat) : List Nat := lab.map fun m => if m = max (at0 lab p.1) (at0 lab p.2) then min (at0 lab p.1) (at0 lab p.2) else m
def labels (n : Nat) (prs : List (Nat × Nat)) : List Nat := prs.foldl joinL (List.range n)
structure LabOk (n : Nat) (lab : List Nat) (done : List (Nat × Nat)) : Prop where
  len : lab.length = n
  le : ∀ h, h < n → at0 lab h ≤ h
  idem : ∀ h, h < n → at0 lab (at0 lab h) = at0 lab h
  rng : ∀ p ∈ done, p.1 < n ∧ p.2 < n
  same : ∀ p ∈ done, at0 lab p.1 = at0 lab p.2
  side : ∀ L : Nat → Bool, (∀ p ∈ done, L p.1 = L p.2) → ∀ h k, h < n → k < n → at0 lab h = at0 lab k → L h = L k
theorem at0_range {n h : Nat} (hh : h < n) : at0 (List.range n) h = h := by
  rw [at0_get (by rw [List.length_range]; exact hh), List.getElem_range]
theorem lab_start (n : Nat) : LabOk n (List.range n) [] where
  len := List.length_range
  le := fun h hh => by rw [at0_range hh]; exact Nat.le_refl _
  idem := fun h hh => by rw [at0_range hh, at0_range hh]
  rng := fun p hp => nomatch hp
  same := fun p hp => nomatch hp
  side := fun L _ h k hh hk e => by rw [at0_range hh, at0_range hk] at e; rw [e]
theorem lab_step {n : Nat} {lab : List Nat} {done : List (Nat × Nat)} (K : LabOk n lab done) {p : Nat × Nat} (h1 : p.1 < n) (h2 : p.2 < n) : LabOk n (joinL lab p) (done ++ [p]) := by
  obtain ⟨i, j⟩ := p
  have h1' : i < n := h1
  have h2' : j < n := h2
  have hl := K.len
  have li := K.le i h1'
  have lj := K.le j h2'
  have ii := K.idem i h1'
  have ij := K.idem j h2'
  have ev : ∀ h, h < n → at0 (joinL lab (i, j)) h = if at0 lab h = max (at0 lab i) (at0 lab j) then min (at0 lab i) (at0 lab j) else at0 lab h := fun h hh => at0_map (by rw [hl]; exact hh)
  generalize ha : at0 lab i = a at li ii ev
  generalize hb : at0 lab j = b at lj ij ev
  have la : at0 lab a = a := ii
  have lb : at0 lab b = b := ij
  refine ⟨by unfold joinL; rw [List.length_map, hl], fun h hh => ?_, fun h hh => ?_, fun q hq => ?_, fun q hq => ?_, fun L hL h k hh hk e => ?_⟩
  · have := K.le h hh
    rw [ev h hh]
    split <;> omega
  · have l0 := K.le h hh
    have d0 := K.idem h hh
    rw [ev h hh]
    by_cases q : at0 lab h = max a b
    · rw [if_pos q]
      have hm : min a b < n := by omega
      rw [ev _ hm]
      have lm : at0 lab (min a b) = min a b := by
        rcases Nat.le_total a b with z | z
        · rw [Nat.min_eq_left z]; exact la
        · rw [Nat.min_eq_right z]; exact lb
      rw [lm]
      split <;> rfl
    · rw [if_neg q, ev _ (by omega), d0, if_neg q]
  · rcases List.mem_append.mp hq with hq | hq
    · exact K.rng q hq
    · rw [List.mem_singleton] at hq
      subst hq
      exact ⟨h1, h2⟩
  · rcases List.mem_append.mp hq with hq | hq
    · obtain ⟨r1, r2⟩ := K.rng q hq
      rw [ev _ r1, ev _ r2, K.same q hq]
    · rw [List.mem_singleton] at hq
      subst hq
      rw [ev i h1', ev j h2', ha, hb]
      rcases Nat.le_total a b with z | z
      · rw [Nat.max_eq_right z, Nat.min_eq_left z, if_pos rfl]
        split <;> rfl
      · rw [Nat.max_eq_left z, Nat.min_eq_right z, if_pos rfl]
        split <;> rfl
  · have hd : ∀ p ∈ done, L p.1 = L p.2 := fun p hp => hL p (List.mem_append.mpr (.inl hp))
    have hij : L i = L j := hL (i, j) (List.mem_append.mpr (.inr (List.mem_singleton.mpr rfl)))
    have sd := K.side L hd
    rw [ev h hh, ev k hk] at e
    have toI : ∀ x, x < n → at0 lab x = a → L x = L i := fun x hx e => sd x i hx h1' (e.trans ha.symm)
    have toJ : ∀ x, x < n → at0 lab x = b → L x = L i := fun x hx e => (sd x j hx h2' (e.trans hb.symm)).trans hij.symm
    have one : ∀ x, x < n → (at0 lab x = max a b ∨ at0 lab x = min a b) → L x = L i := fun x hx o => by
      rcases Nat.le_total a b with z | z
      · rw [Nat.max_eq_right z, Nat.min_eq_left z] at o
        rcases o with o | o
        · exact toJ x hx o
        · exact toI x hx o
      · rw [Nat.max_eq_left z, Nat.min_eq_right z] at o
        rcases o with o | o
        · exact toI x hx o
        · exact toJ x hx o
    by_cases q1 : at0 lab h = max a b
    · rw [if_pos q1] at e
      by_cases q2 : at0 lab k = max a b
      · rw [one h hh (.inl q1), one k hk (.inl q2)]
      · rw [if_neg q2] at e
        rw [one h hh (.inl q1), one k hk (.inr e.symm)]
    · rw [if_neg q1] at e
      by_cases q2 : at0 lab k = max a b
      · rw [if_pos q2] at e
        rw [one h hh (.inr e), one k hk (.inl q2)]
      · rw [if_neg q2] at e
        exact sd h k hh hk e
theorem lab_fold {n : Nat} : ∀ (prs : List (Nat × Nat)) {lab : List Nat} {done : List (Nat × Nat)}, LabOk n lab done → (∀ p ∈ prs, p.1 < n ∧ p.2 < n) → LabOk n (prs.foldl joinL lab) (done ++ prs)
  | [], lab, done, K, _ => by rw [List.append_nil]; exact K
  | p :: prs, lab, done, K, h => by
    obtain ⟨h1, h2⟩ := h p List.mem_cons_self
    have := lab_fold prs (lab_step K h1 h2) fun q hq => h q (List.mem_cons_of_mem _ hq)
    rw [List.append_assoc] at this
    exact this
theorem labels_ok {n : Nat} {prs : List (Nat × Nat)} (h : ∀ p ∈ prs, p.1 < n ∧ p.2 < n) : LabOk n (labels n prs) prs := by
  have := lab_fold prs (lab_start n) h
  rw [List.nil_append] at this
  exact this
def clump (n : Nat) (lab : List Nat) (m : Nat) : List Nat := (List.range n).filter fun h => decide (at0 lab h = m)
def clumps (n : Nat) (lab : List Nat) : List (List Nat) := ((List.range n).filter fun m => decide (m ∈ lab)).map (clump n lab)
theorem mem_clump {n : Nat} {lab : List Nat} {m h : Nat} : h ∈ clump n lab m ↔ h < n ∧ at0 lab h = m := by
  unfold clump
  rw [List.mem_filter, List.mem_range, decide_eq_true_eq]
theorem mem_lab {n : Nat} {lab : List Nat} (hl : lab.length = n) {m : Nat} : m ∈ lab ↔ ∃ h, h < n ∧ at0 lab h = m := by
  rw [List.mem_iff_getElem]
  constructor
  · rintro ⟨h, hh, e⟩
    exact ⟨h, by omega, by rw [at0_get hh]; exact e⟩
  · rintro ⟨h, hh, e⟩
    exact ⟨h, by omega, by rw [← at0_get (by omega)]; exact e⟩
/-- how many clumps have houses on both sides -/
def inL (lot c : List Nat) : Nat := (c.filter fun h => decide (h ∈ lot)).length
def cut (lot c : List Nat) : Bool := decide (0 < inL lot c) && decide (inL lot c < c.length)
theorem cut_no {lot c : List Nat} : cut lot c = false ↔ ∀ h ∈ c, ∀ k ∈ c, decide (h ∈ lot) = decide (k ∈ lot) := by
  unfold cut inL
  constructor
  · intro e h hh k hk
    rw [Bool.and_eq_false_iff, decide_eq_false_iff_not, decide_eq_false_iff_not] at e
    rcases e with e | e
    · have e0 : (c.filter fun h => decide (h ∈ lot)) = [] := List.eq_nil_of_length_eq_zero (by omega)
      rw [List.filter_eq_nil_iff] at e0
      have a := e0 h hh
      have b := e0 k hk
      rw [Bool.not_eq_true] at a b
      rw [a, b]
    · have hle := List.length_filter_le (fun h => decide (h ∈ lot)) c
      have e0 : (c.filter fun h => decide (h ∈ lot)).length = c.length := by omega
      have e1 := List.length_filter_eq_length_iff.mp e0
      rw [e1 h hh, e1 k hk]
  · intro f
    rw [Bool.and_eq_false_iff, decide_eq_false_iff_not, decide_eq_false_iff_not]
    by_cases q : ∃ h ∈ c, decide (h ∈ lot) = true
    · obtain ⟨h, hh, hq⟩ := q
      right
      have : (c.filter fun h => decide (h ∈ lot)).length = c.length := List.length_filter_eq_length_iff.mpr fun k hk => by rw [f k hk h hh]; exact hq
      omega
    · left
      have : (c.filter fun h => decide (h ∈ lot)) = [] := List.filter_eq_nil_iff.mpr fun h hh hq => q ⟨h, hh, hq⟩
      rw [this]
      exact Nat.not_lt_zero _
theorem cut_iff {n : Nat} {prs : List (Nat × Nat)} (hp : ∀ p ∈ prs, p.1 < n ∧ p.2 < n) {lot : List Nat} : (∀ c ∈ clumps n (labels n prs), cut lot c = false) ↔ ∀ p ∈ prs, decide (p.1 ∈ lot) = decide (p.2 ∈ lot) := by
  have K := labels_ok hp
  constructor
  · intro f p hpm
    obtain ⟨h1, h2⟩ := hp p hpm
    have hm : clump n (labels n prs) (at0 (labels n prs) p.1) ∈ clumps n (labels n prs) := by
      unfold clumps
      rw [List.mem_map]
      refine ⟨_, List.mem_filter.mpr ⟨List.mem_range.mpr ?_, decide_eq_true ((mem_lab K.len).mpr ⟨p.1, h1, rfl⟩)⟩, rfl⟩
      have := K.le p.1 h1
      omega
    exact cut_no.mp (f _ hm) p.1 (mem_clump.mpr ⟨h1, rfl⟩) p.2 (mem_clump.mpr ⟨h2, (K.same p hpm).symm⟩)
  · intro f c hc
    unfold clumps at hc
    obtain ⟨m, _, rfl⟩ := List.mem_map.mp hc
    refine cut_no.mpr fun h hh k hk => ?_
    obtain ⟨a1, a2⟩ := mem_clump.mp hh
    obtain ⟨b1, b2⟩ := mem_clump.mp hk
    exact K.side (fun h => decide (h ∈ lot)) f h k a1 b1 (a2.trans b2.symm)
/-- a clump begins with its mark -/
theorem clump_head {n : Nat} {lab : List Nat} {done : List (Nat × Nat)} (K : LabOk n lab done) {m : Nat} (hm : m ∈ lab) : ∃ r, clump n lab m = m :: r := by
  obtain ⟨h, hh, e⟩ := (mem_lab K.len).mp hm
  have l1 := K.le h hh
  have mm : at0 lab m = m := by rw [← e]; exact K.idem h hh
  have mn : m < n := by omega
  have hmem : m ∈ clump n lab m := mem_clump.mpr ⟨mn, mm⟩
  have hp : (clump n lab m).Pairwise (· < ·) := List.pairwise_lt_range.filter _
  cases q : clump n lab m with
  | nil => rw [q] at hmem; cases hmem
  | cons a r =>
    rw [q] at hmem hp
    have ha : a ∈ clump n lab m := by rw [q]; exact List.mem_cons_self
    obtain ⟨a1, a2⟩ := mem_clump.mp ha
    have := K.le a a1
    rcases List.mem_cons.mp hmem with z | z
    · exact ⟨r, by rw [z]⟩
    · have := (List.pairwise_cons.mp hp).1 m z
      omega
end Dg
end

section
set_option Elab.async false
set_option linter.all false
set_option maxRecDepth 100000
set_option maxHeartbeats 4000000
/-! DigD: corner places, places by choices, rows of settings, sums on lots. -/
namespace Dg
def digs (s : List Nat) (p : Nat) : List Nat := (List.range s.length).map fun h => dg s h p
theorem digs_len (s : List Nat) (p : Nat) : (digs s p).length = s.length := by unfold digs; rw [List.length_map, List.length_range]
theorem digs_get {s : List Nat} {p h : Nat} (hh : h < (digs s p).length) : (digs s p)[h] = dg s h p := by simp [digs]
/-! ### corner places -/
def cstep (s : List Nat) (ps : List Nat) (h : Nat) : List Nat := ps.flatMap fun p => (List.range (sz s h)).map fun c => p + c * sp s h
def cornerF (s ps lot : List Nat) : List Nat := lot.foldl (cstep s) ps
def corner (s lot : List Nat) : List Nat := cornerF s [0] lot
theorem mem_cstep {s ps : List Nat} {h p : Nat} : p ∈ cstep s ps h ↔ ∃ q ∈ ps, ∃ c, c < sz s h ∧ p = q + c * sp s h := by
  unfold cstep
  rw [List.mem_flatMap]
  constructor
  · rintro ⟨q, hq, hp⟩
    obtain ⟨c, hc, rfl⟩ := List.mem_map.mp hp
    exact ⟨q, hq, c, List.mem_range.mp hc, rfl⟩
  · rintro ⟨q, hq, c, hc, rfl⟩
    exact ⟨q, hq, List.mem_map.mpr ⟨c, List.mem_range.mpr hc, rfl⟩⟩
theorem mem_cornerF {s : List Nat} (ps : Pos s) : ∀ (lot qs : List Nat) {p : Nat}, lot.Nodup → (∀ h ∈ lot, h < s.length) → (p ∈ cornerF s qs lot ↔ ∃ q ∈ qs, ∃ x, Ok s x ∧ (∀ h, h ∉ lot → x h = 0) ∧ p = q + pl s x)
  | [], qs, p, _, _ => by
    show p ∈ qs ↔ _
    constructor
    · intro h
      exact ⟨p, h, fun _ => 0, fun h hh => sz_pos ps hh, fun _ _ => rfl, by rw [pl_zero]; rfl⟩
    · rintro ⟨q, hq, x, _, hx, rfl⟩
      have : pl s x = 0 := by
        rw [← pl_zero s]
        exact pl_congr fun h _ => hx h List.not_mem_nil
      rw [this]
      exact hq
  | h :: lot, qs, p, nd, hl => by
    have hh := hl h List.mem_cons_self
    have hn : h ∉ lot := (List.nodup_cons.mp nd).1
    show p ∈ cornerF s (cstep s qs h) lot ↔ _
    rw [mem_cornerF ps lot _ (List.nodup_cons.mp nd).2 fun k hk => hl k (List.mem_cons_of_mem _ hk)]
    constructor
    · rintro ⟨q', hq', x, ok, hx, rfl⟩
      obtain ⟨q, hq, c, hc, rfl⟩ := mem_cstep.mp hq'
      refine ⟨q, hq, upd x h c, ok.upd hc, fun k hk => ?_, ?_⟩
      · rw [upd_ne (fun z => hk (by rw [z]; exact List.mem_cons_self))]
        exact hx k fun z => hk (List.mem_cons_of_mem _ z)
      · have x0 := hx h hn
        rw [pl_up hh (by rw [x0]; exact Nat.zero_le _), x0, Nat.sub_zero]
        omega
    · rintro ⟨q, hq, x, ok, hx, rfl⟩
      refine ⟨q + x h * sp s h, mem_cstep.mpr ⟨q, hq, x h, ok h hh, rfl⟩, upd x h 0, ok.upd (sz_pos ps hh), fun k hk => ?_, ?_⟩
      · by_cases z : k = h
        · subst z; rw [upd_at]
        · rw [upd_ne z]
          exact hx k fun w => by
            rcases List.mem_cons.mp w with r | r
            · exact z r
            · exact hk r
      · have := pl_upd (s := s) (x := x) (i := h) (a := 0) hh
        rw [Nat.zero_mul] at this
        omega
theorem mem_corner {s lot : List Nat} (ps : Pos s) (nd : lot.Nodup) (hl : ∀ h ∈ lot, h < s.length) {p : Nat} : p ∈ corner s lot ↔ ∃ x, Ok s x ∧ (∀ h, h ∉ lot → x h = 0) ∧ p = pl s x := by
  unfold corner
  rw [mem_cornerF ps lot [0] nd hl]
  constructor
  · rintro ⟨q, hq, x, h1, h2, rfl⟩
    rw [List.mem_singleton] at hq
    subst hq
    exact ⟨x, h1, h2, by rw [Nat.zero_add]⟩
  · rintro ⟨x, h1, h2, rfl⟩
    exact ⟨0, List.mem_singleton.mpr rfl, x, h1, h2, by rw [Nat.zero_add]⟩
/-- .. by digits -/
theorem mem_corner' {s lot : List Nat} (ps : Pos s) (nd : lot.Nodup) (hl : ∀ h ∈ lot, h < s.length) {p : Nat} : p ∈ corner s lot ↔ p < prodL s ∧ ∀ h, h < s.length → h ∉ lot → dg s h p = 0 := by
  rw [mem_corner ps nd hl]
  constructor
  · rintro ⟨x, h1, h2, rfl⟩
    exact ⟨pl_lt h1, fun h hh hn => by rw [dg_pl ps h1 hh]; exact h2 h hn⟩
  · rintro ⟨h1, h2⟩
    refine ⟨fun h => if h < s.length then dg s h p else 0, fun h hh => ?_, fun h hn => ?_, ?_⟩
    · show (if h < s.length then dg s h p else 0) < _
      rw [if_pos hh]
      exact dg_ok ps h hh
    · show (if h < s.length then dg s h p else 0) = 0
      split
      · rename_i hh
        exact h2 h hh hn
      · rfl
    · rw [← pl_dg ps h1]
      exact pl_congr fun h hh => by
        show _ = if h < s.length then dg s h (pl s fun h => dg s h p) else 0
        rw [if_pos hh, pl_dg ps h1]
def prodOn (s lot : List Nat) : Nat := prodL (lot.map (sz s))
theorem cstep_len (s ps : List Nat) (h : Nat) : (cstep s ps h).length = ps.length * sz s h := by
  unfold cstep
  induction ps with
  | nil => simp
  | cons p ps ih =>
    rw [List.flatMap_cons, List.length_append, ih, List.length_map, List.length_range, List.length_cons, Nat.succ_mul]
    omega
theorem cornerF_len (s : List Nat) : ∀ (lot ps : List Nat), (cornerF s ps lot).length = ps.length * prodOn s lot
  | [], ps => by show ps.length = ps.length * 1; omega
  | h :: lot, ps => by
    show (cornerF s (cstep s ps h) lot).length = ps.length * (sz s h * prodOn s lot)
    rw [cornerF_len s lot, cstep_len, Nat.mul_assoc]
theorem prod_sub {l m : List Nat} (h : l.Sublist m) (ps : Pos m) : prodL l ≤ prodL m := by
  induction h with
  | slnil => exact Nat.le_refl _
  | cons a h ih => exact Nat.le_trans (ih ps.tail) (Nat.le_mul_of_pos_left _ (ps a List.mem_cons_self))
  | cons_cons a h ih => exact Nat.mul_le_mul_left _ (ih ps.tail)
theorem map_sz (s : List Nat) : (List.range s.length).map (sz s) = s := by
  apply List.ext_getElem
  · rw [List.length_map, List.length_range]
  · intro i a b
    rw [List.getElem_map, List.getElem_range]
    unfold sz
    rw [List.getD_eq_getElem?_getD, List.getElem?_eq_getElem b]
    rfl
/-- lots: houses ascending -/
def Lot (n : Nat) (l : List Nat) : Prop := l.Sublist (List.range n)
theorem Lot.nd {n : Nat} {l : List Nat} (h : Lot n l) : l.Nodup := h.nodup List.nodup_range
theorem Lot.lt {n : Nat} {l : List Nat} (h : Lot n l) : ∀ x ∈ l, x < n := fun x hx => List.mem_range.mp (h.subset hx)
theorem Lot.asc {n : Nat} {l : List Nat} (h : Lot n l) : l.Pairwise (· < ·) := List.pairwise_lt_range.sublist h
theorem Lot.len {n : Nat} {l : List Nat} (h : Lot n l) : l.length ≤ n := by have := h.length_le; rw [List.length_range] at this; exact this
theorem Lot.prod {s l : List Nat} (h : Lot s.length l) (ps : Pos s) : prodOn s l ≤ prodL s := by
  have h2 : (l.map (sz s)).Sublist s := by
    have := h.map (sz s)
    rw [map_sz] at this
    exact this
  exact prod_sub h2 ps
theorem lot_filter (n : Nat) (p : Nat → Bool) : Lot n ((List.range n).filter p) := List.filter_sublist
theorem Lot.take {n : Nat} {l : List Nat} (h : Lot n l) (i : Nat) : Lot n (l.take i) := (List.take_sublist i l).trans h
theorem Lot.eq {n : Nat} {l : List Nat} (h : Lot n l) : l = (List.range n).filter fun x => decide (x ∈ l) := by
  refine List.Perm.eq_of_pairwise (le := fun a b => a ≤ b) ?_ ?_ ?_ ?_
  · intro a b _ _ h1 h2; omega
  · exact h.asc.imp fun q => by omega
  · exact (List.pairwise_lt_range.filter _).imp fun q => by omega
  · refine (List.perm_ext_iff_of_nodup h.nd (List.nodup_range.filter _)).mpr fun x => ?_
    rw [List.mem_filter, List.mem_range, decide_eq_true_eq]
    exact ⟨fun q => ⟨h.lt x q, q⟩, fun q => q.2⟩
/-! ### sums on lots -/
theorem pl_sum : ∀ (s : List Nat) (x : Nat → Nat), pl s x = ((List.range s.length).map fun h => x h * sp s h).sum
  | [], _ => rfl
  | a :: r, x => by
    rw [pl, pl_sum r, List.length_cons, List.range_succ_eq_map, List.map_cons, List.sum_cons, List.map_map]
    rfl
theorem sum_filter (p : Nat → Bool) (f : Nat → Nat) : ∀ l : List Nat, ((l.filter p).map f).sum = (l.map fun h => if p h = true then f h else 0).sum
  | [] => rfl
  | a :: l => by
    cases q : p a with
    | true => rw [List.filter_cons_of_pos q, List.map_cons, List.sum_cons, sum_filter p f l, List.map_cons, List.sum_cons, q, if_pos rfl]
    | false => rw [List.filter_cons_of_neg (by rw [q]; exact Bool.false_ne_true), sum_filter p f l, List.map_cons, List.sum_cons, q, if_neg Bool.false_ne_true, Nat.zero_add]
def onL (s lot : List Nat) (x : Nat → Nat) : Nat := (lot.map fun h => x h * sp s h).sum
theorem onL_pl {s lot : List Nat} (h : Lot s.length lot) (x : Nat → Nat) : onL s lot x = pl s (restr (fun h => decide (h ∈ lot)) x) := by
  unfold onL
  rw [pl_sum]
  conv => lhs; rw [h.eq]
  rw [sum_filter]
  congr 1
  apply List.map_congr_left
  intro k _
  unfold restr
  by_cases q : decide (k ∈ lot) = true
  · rw [if_pos q, if_pos q]
  · rw [if_neg q, if_neg q, Nat.zero_mul]
/-! ### by choices, the first house first -/
def horn (s : List Nat) (x : Nat → Nat) : Nat → Nat
  | 0 => 0
  | i + 1 => horn s x i * sz s i + x i
theorem horn_pl (s : List Nat) (x : Nat → Nat) : ∀ i, i ≤ s.length → pl s x = horn s x i * prodL (s.drop i) + pl (s.drop i) fun h => x (i + h)
  | 0, _ => by
    have e : (fun h => x (0 + h)) = x := by funext h; rw [Nat.zero_add]
    show pl s x = 0 * prodL s + pl s fun h => x (0 + h)
    rw [e, Nat.zero_mul, Nat.zero_add]
  | i + 1, h => by
    have ih := horn_pl s x i (by omega)
    have e : s.drop i = sz s i :: s.drop (i + 1) := by
      rw [List.drop_eq_getElem_cons (by omega)]
      congr 1
      unfold sz
      rw [List.getD_eq_getElem?_getD, List.getElem?_eq_getElem (by omega)]
      rfl
    rw [e] at ih
    rw [ih, prodL, pl, horn, Nat.add_mul, Nat.add_zero, Nat.mul_assoc, Nat.add_assoc]
    have : (fun h => x (i + (h + 1))) = fun h => x (i + 1 + h) := by
      funext h
      congr 1
      omega
    rw [this]
    rfl
theorem horn_all (s : List Nat) (x : Nat → Nat) : horn s x s.length = pl s x := by
  have := horn_pl s x s.length (Nat.le_refl _)
  rw [List.drop_length] at this
  have e : pl s x = horn s x s.length * 1 + 0 := this
  omega
theorem horn_lt {s : List Nat} {x : Nat → Nat} (ok : Ok s x) (i : Nat) (hi : i ≤ s.length) (ps : Pos s) : horn s x i ≤ prodL s := by
  have h1 := pl_lt ok
  rw [horn_pl s x i hi] at h1
  have hp : 0 < prodL (s.drop i) := prod_pos fun a ha => ps a (List.mem_of_mem_drop ha)
  have : horn s x i ≤ horn s x i * prodL (s.drop i) := Nat.le_mul_of_pos_right _ hp
  omega
/-! ### rows of settings -/
def rstep (rows : List (List Nat)) (m : Nat) : List (List Nat) := rows.flatMap fun x => (List.range m).map fun c => x ++ [c]
def rowsF (s : List Nat) : List (List Nat) := s.foldl rstep [[]]
theorem prod_snoc : ∀ (l : List Nat) (m : Nat), prodL (l ++ [m]) = prodL l * m
  | [], m => by simp [prodL]
  | a :: l, m => by rw [List.cons_append, prodL, prodL, prod_snoc l m, Nat.mul_assoc]
theorem sp_snoc : ∀ (l : List Nat) (m h : Nat), h < l.length → sp (l ++ [m]) h = sp l h * m
  | [], _, h, hh => absurd hh (Nat.not_lt_zero _)
  | a :: l, m, 0, _ => prod_snoc l m
  | a :: l, m, h + 1, hh => sp_snoc l m h (by rw [List.length_cons] at hh; omega)
theorem sp_snoc_last : ∀ (l : List Nat) (m : Nat), sp (l ++ [m]) l.length = 1
  | [], _ => rfl
  | _ :: l, m => sp_snoc_last l m
theorem sz_snoc : ∀ (l : List Nat) (m h : Nat), h < l.length → sz (l ++ [m]) h = sz l h
  | [], _, h, hh => absurd hh (Nat.not_lt_zero _)
  | a :: l, m, 0, _ => rfl
  | a :: l, m, h + 1, hh => sz_snoc l m h (by rw [List.length_cons] at hh; omega)
theorem sz_snoc_last : ∀ (l : List Nat) (m : Nat), sz (l ++ [m]) l.length = m
  | [], _ => rfl
  | _ :: l, m => sz_snoc_last l m
theorem digs_snoc {l : List Nat} {m : Nat} (hm : 0 < m) (q c : Nat) (hc : c < m) : digs (l ++ [m]) (q * m + c) = digs l q ++ [c] := by
  apply List.ext_getElem
  · rw [digs_len, List.length_append, List.length_append, digs_len]
    rfl
  · intro h a b
    rw [digs_get]
    rw [digs_len, List.length_append, List.length_singleton] at a
    by_cases r : h < l.length
    · rw [List.getElem_append_left (by rw [digs_len]; exact r), digs_get]
      unfold dg
      rw [sp_snoc l m h r, sz_snoc l m h r, Nat.mul_comm (sp l h), ← Nat.div_div_eq_div_mul, Nat.mul_comm q, Nat.mul_add_div hm, Nat.div_eq_of_lt hc, Nat.add_zero]
    · have e : h = l.length := by omega
      subst e
      rw [List.getElem_append_right (by rw [digs_len]; exact Nat.le_refl _)]
      unfold dg
      rw [sp_snoc_last, sz_snoc_last, Nat.div_one, Nat.mul_comm, Nat.mul_add_mod, Nat.mod_eq_of_lt hc]
      simp
theorem range_mul (m : Nat) : ∀ P : Nat, List.range (P * m) = (List.range P).flatMap fun q => (List.range m).map fun c => q * m + c
  | 0 => by simp
  | P + 1 => by
    rw [Nat.add_mul, Nat.one_mul, List.range_add, List.range_succ, List.flatMap_append, ← range_mul m P, List.flatMap_singleton]
theorem rows_go : ∀ (r l : List Nat), Pos r → r.foldl rstep ((List.range (prodL l)).map (digs l)) = (List.range (prodL (l ++ r))).map (digs (l ++ r))
  | [], l, _ => by rw [List.append_nil]; rfl
  | m :: r, l, ps => by
    have hm : 0 < m := ps m List.mem_cons_self
    have e : rstep ((List.range (prodL l)).map (digs l)) m = (List.range (prodL (l ++ [m]))).map (digs (l ++ [m])) := by
      unfold rstep
      rw [prod_snoc, range_mul, List.map_flatMap, List.flatMap_map]
      congr 1
      funext q
      rw [List.map_map]
      apply List.map_congr_left
      intro c hc
      exact (digs_snoc hm q c (List.mem_range.mp hc)).symm
    rw [List.foldl_cons, e, rows_go r (l ++ [m]) ps.tail, List.append_assoc]
    rfl
theorem rows_all {s : List Nat} (ps : Pos s) : rowsF s = (List.range (prodL s)).map (digs s) := rows_go s [] ps
theorem rstep_len (rows : List (List Nat)) (m : Nat) : (rstep rows m).length = rows.length * m := by
  unfold rstep
  induction rows with
  | nil => simp
  | cons p ps ih =>
    rw [List.flatMap_cons, List.length_append, ih, List.length_map, List.length_range, List.length_cons, Nat.succ_mul]
    omega
end Dg
end

section
set_option Elab.async false
set_option linter.all false
set_option maxRecDepth 100000
set_option maxHeartbeats 4000000
/-! K07M: the mirrors (printed by gen.py). -/
namespace K07
open PySem PySem.Spec PyProof.Rows L2 Mir
/-- slots: 0 _law_script, 1 _law_many, 2 _law_seed, 3 _law_row_here, 4 _law_cell, 5 _law_k, 6 _law_big, 7 _law_mixed -/
def m__law_row : Sm :=
  (mSeq (mIf (tmB (e2 fEq (eN fLen (aCons (eVar 0) aNil)) (eC (.int 0))))
  (mRet (eL (lLc (imRng rng1 (aCons (eVar 1) aNil)) [5] (gmName 5) tmYes (e2 fAdd (eVar 5) (eC (.int 1))))))
  mNext)
  (mSeq (mAsg (gmName 2) (eC (.int 2477)))
  (mSeq (mAsgO 3 (lLst aNil))
  (mSeq (mFor (imSeq (eVar 0)) (gmName 4)
  (mSeq (mAsg (gmName 2) (e2 fMod (eN fInt (aCons (e2 fAdd (e2 fMul (eVar 2) (eC (.int 50021))) (eVar 4)) aNil)) (eC (.int 2147483629))))
  (mSeq (mAsg (gmName 6) (eN fAbs (aCons (eVar 4) aNil)))
  (mIf (tmB (e2 fGe (eVar 6) (eC (.int 1000000000000000000))))
  (mFor (imRng rng1 (aCons (eC (.int 60)) aNil)) (gmName 5)
  (mIf (tmB (e2 fGt (eVar 6) (eC (.int 0))))
  (mSeq (mApp 3 (e2 fMod (eN fInt (aCons (eVar 6) aNil)) (eC (.int 5040))))
  (mAsg (gmName 6) (e2 fDiv (eVar 6) (eC (.int 5040)))))
  mNext))
  mNext))))
  (mSeq (mFor (imRng rng1 (aCons (eVar 1) aNil)) (gmName 5)
  (mSeq (mAsg (gmName 2) (e2 fMod (eN fInt (aCons (e2 fAdd (e2 fAdd (e2 fMul (eVar 2) (eC (.int 39373))) (eC (.int 77))) (eVar 5)) aNil)) (eC (.int 2147483629))))
  (mSeq (mAsg (gmName 7) (e2 fMod (eN fInt (aCons (e2 fAdd (e2 fAdd (e2 fMul (eVar 2) (eVar 2)) (e2 fDiv (eVar 2) (eC (.int 6421)))) (eC (.int 5))) aNil)) (eC (.int 2147483587))))
  (mApp 3 (e2 fMod (eN fInt (aCons (e2 fDiv (eVar 7) (eC (.int 83))) aNil)) (eC (.int 5040)))))))
  (mRet (eVar 3)))))))
def M__law_row : List D → Rs D := fnM 8 2 m__law_row
/-- slots: 0 _law_row_here, 1 _law_n, 2 _law_cap, 3 _law_s, 4 _law_product, 5 _law_k, 6 _law_c, 7 _law_turn -/
def m__law_sizes : Sm :=
  (mSeq (mAsg (gmName 1) (e2 fAdd (eC (.int 1)) (e2 fMod (eN fInt (aCons (e2 fIx (eVar 0) (eC (.int 0))) aNil)) (eC (.int 6)))))
  (mSeq (mAsg (gmName 2) (eC (.int 16)))
  (mSeq (mIf (tmB (e2 fEq (e2 fMod (eN fInt (aCons (e2 fIx (eVar 0) (eC (.int 1))) aNil)) (eC (.int 8))) (eC (.int 2))))
  (mAsg (gmName 2) (eC (.int 64)))
  mNext)
  (mSeq (mIf (tmB (e2 fEq (e2 fMod (eN fInt (aCons (e2 fIx (eVar 0) (eC (.int 1))) aNil)) (eC (.int 8))) (eC (.int 5))))
  (mAsg (gmName 2) (eC (.int 32)))
  mNext)
  (mSeq (mAsgO 3 (lLst aNil))
  (mSeq (mAsg (gmName 4) (eC (.int 1)))
  (mSeq (mFor (imRng rng1 (aCons (eVar 1) aNil)) (gmName 5)
  (mSeq (mAsg (gmName 6) (e2 fIx (eL (lLst (aCons (eC (.int 2)) (aCons (eC (.int 3)) (aCons (eC (.int 2)) (aCons (eC (.int 1)) (aCons (eC (.int 2)) (aCons (eC (.int 4)) aNil)))))))) (e2 fMod (eN fInt (aCons (e2 fIx (eVar 0) (e2 fAdd (eC (.int 2)) (eVar 5))) aNil)) (eC (.int 6)))))
  (mSeq (mFor (imRng rng1 (aCons (eC (.int 3)) aNil)) (gmName 7)
  (mIf (tmB (e2 fGt (e2 fMul (eVar 4) (eVar 6)) (eVar 2)))
  (mAsg (gmName 6) (e2 fSub (eVar 6) (eC (.int 1))))
  mNext))
  (mSeq (mAsg (gmName 4) (e2 fMul (eVar 4) (eVar 6)))
  (mApp 3 (eVar 6))))))
  (mSeq (mIf (tmB (e2 fEq (e2 fMod (eN fInt (aCons (e2 fIx (eVar 0) (eC (.int 8))) aNil)) (eC (.int 2))) (eC (.int 1))))
  (mAsgO 3 (lRev (eVar 3)))
  mNext)
  (mRet (eN fTuple (aCons (eVar 3) aNil)))))))))))
def M__law_sizes : List D → Rs D := fnM 8 1 m__law_sizes
/-- slots: 0 _law_s, 1 _law_rows, 2 _law_many, 3 _law_more, 4 _law_x, 5 _law_c -/
def m__law_settings : Sm :=
  (mSeq (mAsg (gmName 1) (eL (lLst (aCons (eTup aNil) aNil))))
  (mSeq (mFor (imSeq (eVar 0)) (gmName 2)
  (mSeq (mAsgO 3 (lLst aNil))
  (mSeq (mFor (imSeq (eVar 1)) (gmName 4)
  (mFor (imRng rng1 (aCons (eVar 2) aNil)) (gmName 5)
  (mApp 3 (e2 fAdd (eVar 4) (eTup (aCons (eVar 5) aNil))))))
  (mAsg (gmName 1) (eL (lN fList (aCons (eVar 3) aNil)))))))
  (mRet (eVar 1))))
def M__law_settings : List D → Rs D := fnM 6 1 m__law_settings
/-- slots: 0 _law_s, 1 _law_steps_here, 2 _law_k, 3 _law_h -/
def m__law_steps : Sm :=
  (mSeq (mAsgO 1 (lRep (lLst (aCons (eC (.int 1)) aNil)) (eN fLen (aCons (eVar 0) aNil))))
  (mSeq (mFor (imRng rng2 (aCons (eC (.int 1)) (aCons (eN fLen (aCons (eVar 0) aNil)) aNil))) (gmName 2)
  (mSeq (mAsg (gmName 3) (e2 fSub (e2 fSub (eN fLen (aCons (eVar 0) aNil)) (eC (.int 1))) (eVar 2)))
  (mSetO 1 (eVar 3) (e2 fMul (eBIx 1 (e2 fAdd (eVar 3) (eC (.int 1)))) (e2 fIx (eVar 0) (e2 fAdd (eVar 3) (eC (.int 1))))))))
  (mRet (eVar 1))))
def M__law_steps : List D → Rs D := fnM 4 1 m__law_steps
/-- slots: 0 _law_s, 1 _law_steps_here, 2 _law_l, 3 _law_x, 4 _law_h -/
def m__law_on : Sm :=
  (mRet (eN fSum (aCons (eL (lLc (imSeq (eVar 2)) [4] (gmName 4) tmYes (e2 fMul (e2 fIx (eVar 3) (eVar 4)) (e2 fIx (eVar 1) (eVar 4))))) aNil)))
def M__law_on : List D → Rs D := fnM 5 4 m__law_on
/-- slots: 0 _law_row_here, 1 _law_s, 2 _law_start, 3 _law_rows, 4 _law_steps_here, 5 _law_t, 6 _law_turn, 7 _law_l, 8 _law_k, 9 _law_h -/
def m__law_summed : Am :=
  (aSeq (mAsg (gmName 3) (eCall M__law_settings (aCons (eVar 1) aNil)))
  (aSeq (mAsg (gmName 4) (eCall M__law_steps (aCons (eVar 1) aNil)))
  (aSeq (mAsgO 5 (lRep (lLst (aCons (e2 fMod (eN fInt (aCons (e2 fIx (eVar 0) (eVar 2)) aNil)) (eC (.int 2))) aNil)) (eN fLen (aCons (eVar 3) aNil))))
  (aSeq (mFor (imRng rng1 (aCons (eC (.int 3)) aNil)) (gmName 6)
  (mSeq (mAsg (gmName 7) (eL (lLc (imRng rng1 (aCons (eN fLen (aCons (eVar 1) aNil)) aNil)) [9] (gmName 9) (tmB (e2 fEq (e2 fMod (e2 fDiv (e2 fIx (eVar 0) (e2 fAdd (e2 fAdd (eVar 2) (eC (.int 1))) (eVar 9))) (eC (.int 2))) (eC (.int 3))) (eVar 6))) (eVar 9))))
  (mFor (imRng rng1 (aCons (eN fLen (aCons (eVar 3) aNil)) aNil)) (gmName 8)
  (mSetO 5 (eVar 8) (e2 fMod (eN fInt (aCons (e2 fAdd (eBIx 5 (eVar 8)) (e2 fDiv (e2 fIx (eVar 0) (e2 fAdd (e2 fAdd (e2 fAdd (eVar 2) (eC (.int 10))) (eVar 6)) (eCall M__law_on (aCons (eVar 1) (aCons (eVar 4) (aCons (eVar 7) (aCons (e2 fIx (eVar 3) (eVar 8)) aNil))))))) (eC (.int 7)))) aNil)) (eC (.int 2)))))))
  (aOwn 5)))))
def M__law_summed : List D → Rs (List D) := fnO 10 3 m__law_summed
/-- slots: 0 _law_row_here, 1 _law_s, 2 _law_start, 3 _law_rows, 4 _law_t, 5 _law_turn, 6 _law_pick, 7 _law_l, 8 _law_k, 9 _law_h, 10 _law_hit -/
def m__law_by_terms : Am :=
  (aSeq (mAsg (gmName 3) (eCall M__law_settings (aCons (eVar 1) aNil)))
  (aSeq (mAsgO 4 (lRep (lLst (aCons (e2 fMod (eN fInt (aCons (e2 fIx (eVar 0) (eVar 2)) aNil)) (eC (.int 2))) aNil)) (eN fLen (aCons (eVar 3) aNil))))
  (aSeq (mFor (imRng rng1 (aCons (eC (.int 4)) aNil)) (gmName 5)
  (mSeq (mAsg (gmName 6) (e2 fIx (eVar 0) (e2 fAdd (e2 fAdd (eVar 2) (eC (.int 1))) (eVar 5))))
  (mSeq (mAsg (gmName 7) (eL (lLc (imRng rng1 (aCons (eN fLen (aCons (eVar 1) aNil)) aNil)) [9] (gmName 9) (tmB (e2 fEq (e2 fMod (e2 fDiv (e2 fIx (eVar 0) (e2 fAdd (e2 fAdd (e2 fAdd (eVar 2) (eC (.int 5))) (e2 fMul (eC (.int 6)) (eVar 5))) (eVar 9))) (eC (.int 2))) (eC (.int 3))) (eC (.int 1)))) (eVar 9))))
  (mSeq (mAsg (gmName 7) (eSl (eVar 7) oNone (oSome (e2 fAdd (eC (.int 1)) (e2 fMod (eN fInt (aCons (eVar 6) aNil)) (eC (.int 3)))))))
  (mIf (tmB (e2 fGt (e2 fMod (e2 fDiv (eVar 6) (eC (.int 3))) (eC (.int 4))) (eC (.int 0))))
  (mFor (imRng rng1 (aCons (eN fLen (aCons (eVar 3) aNil)) aNil)) (gmName 8)
  (mSeq (mAsg (gmName 10) (eN fSum (aCons (eL (lLc (imSeq (eVar 7)) [9] (gmName 9) (tmB (e2 fEq (e2 fIx (e2 fIx (eVar 3) (eVar 8)) (eVar 9)) (e2 fAdd (eC (.int 1)) (e2 fMod (eN fInt (aCons (e2 fDiv (e2 fIx (eVar 0) (e2 fAdd (e2 fAdd (e2 fAdd (eVar 2) (eC (.int 5))) (e2 fMul (eC (.int 6)) (eVar 5))) (eVar 9))) (eC (.int 6))) aNil)) (eC (.int 3)))))) (eC (.int 1)))) aNil)))
  (mIf (tmB (e2 fEq (eVar 10) (eN fLen (aCons (eVar 7) aNil))))
  (mSetO 4 (eVar 8) (e2 fSub (eC (.int 1)) (eBIx 4 (eVar 8))))
  mNext)))
  mNext)))))
  (aOwn 4))))
def M__law_by_terms : List D → Rs (List D) := fnO 11 3 m__law_by_terms
/-- slots: 0 _law_row_here, 1 _law_s, 2 _law_start, 3 _law_many, 4 _law_mode, 5 _law_t, 6 _law_k -/
def m__law_table : Sm :=
  (mSeq (mAsg (gmName 3) (eN fLen (aCons (eCall M__law_settings (aCons (eVar 1) aNil)) aNil)))
  (mSeq (mAsg (gmName 4) (e2 fMod (eN fInt (aCons (e2 fIx (eVar 0) (e2 fAdd (eVar 2) (eC (.int 29)))) aNil)) (eC (.int 8))))
  (mSeq (mIf (tmB (e2 fLt (eVar 4) (eC (.int 3))))
  (mAsgO 5 (lCall M__law_summed (aCons (eVar 0) (aCons (eVar 1) (aCons (eVar 2) aNil)))))
  (mIf (tmB (e2 fLt (eVar 4) (eC (.int 6))))
  (mAsgO 5 (lCall M__law_by_terms (aCons (eVar 0) (aCons (eVar 1) (aCons (eVar 2) aNil)))))
  (mIf (tmB (e2 fEq (eVar 4) (eC (.int 6))))
  (mAsgO 5 (lLc (imRng rng1 (aCons (eVar 3) aNil)) [6] (gmName 6) tmYes (e2 fMod (eN fInt (aCons (e2 fDiv (e2 fIx (eVar 0) (e2 fAdd (e2 fAdd (eVar 2) (eC (.int 10))) (eVar 6))) (eC (.int 7))) aNil)) (eC (.int 2)))))
  (mAsgO 5 (lRep (lLst (aCons (e2 fMod (eN fInt (aCons (e2 fIx (eVar 0) (eVar 2)) aNil)) (eC (.int 2))) aNil)) (eVar 3))))))
  (mSeq (mIf (tmB (e2 fIn (eVar 4) (eTup (aCons (eC (.int 2)) (aCons (eC (.int 7)) aNil)))))
  (mSeq (mAsg (gmName 6) (e2 fMod (eN fInt (aCons (e2 fIx (eVar 0) (e2 fAdd (eVar 2) (eC (.int 28)))) aNil)) (eVar 3)))
  (mSetO 5 (eVar 6) (e2 fSub (eC (.int 1)) (eBIx 5 (eVar 6)))))
  mNext)
  (mRet (eN fTuple (aCons (eVar 5) aNil)))))))
def M__law_table : List D → Rs D := fnM 7 3 m__law_table
/-- slots: 0 _law_s, 1 _law_t, 2 _law_steps_here, 3 _law_rows, 4 _law_idle_here, 5 _law_h, 6 _law_k -/
def m__law_idle : Sm :=
  (mSeq (mAsg (gmName 2) (eCall M__law_steps (aCons (eVar 0) aNil)))
  (mSeq (mAsg (gmName 3) (eCall M__law_settings (aCons (eVar 0) aNil)))
  (mSeq (mAsgO 4 (lLst aNil))
  (mSeq (mFor (imRng rng1 (aCons (eN fLen (aCons (eVar 0) aNil)) aNil)) (gmName 5)
  (mIf (tmB (e2 fEq (eN fSum (aCons (eL (lLc (imRng rng1 (aCons (eN fLen (aCons (eVar 3) aNil)) aNil)) [6] (gmName 6) (tmB (e2 fNe (e2 fIx (eVar 1) (eVar 6)) (e2 fIx (eVar 1) (e2 fSub (eVar 6) (e2 fMul (e2 fIx (e2 fIx (eVar 3) (eVar 6)) (eVar 5)) (e2 fIx (eVar 2) (eVar 5))))))) (eC (.int 1)))) aNil)) (eC (.int 0))))
  (mApp 4 (eVar 5))
  mNext))
  (mRet (eN fTuple (aCons (eVar 4) aNil)))))))
def M__law_idle : List D → Rs D := fnM 7 2 m__law_idle
/-- slots: 0 good, 1 word -/
def m_a_want : Sm :=
  (mIf (tmNot (tmTru (eVar 0)))
  (mRaise "NotUsable" "word" "at" (aCons (eVar 1) (aCons (e1 fNeg (eC (.int 1))) aNil)))
  mNext)
def M_a_want : List D → Rs D := fnM 2 2 m_a_want
/-- slots: 0 thing -/
def m_integer_fits : Sm :=
  (mRet (eAnd (eIsi .int (eVar 0)) (eNot (eIsi .bool (eVar 0)))))
def M_integer_fits : List D → Rs D := fnM 1 1 m_integer_fits
/-- slots: 0 thing -/
def m_many_fits : Sm :=
  (mRet (eAnd (eCall M_integer_fits (aCons (eVar 0) aNil)) (e2 fGe (eVar 0) (eC (.int 1)))))
def M_many_fits : List D → Rs D := fnM 1 1 m_many_fits
/-- slots: 0 thing, 1 size -/
def m_sizes_fit : Sm :=
  (mRet (eAnd (eIsi .tup (eVar 0)) (eAnd (e2 fGt (eN fLen (aCons (eVar 0) aNil)) (eC (.int 0))) (eN fAll (aCons (eL (lLc (imSeq (eVar 0)) [1] (gmName 1) tmYes (eCall M_many_fits (aCons (eVar 1) aNil)))) aNil)))))
def M_sizes_fit : List D → Rs D := fnM 2 1 m_sizes_fit
/-- slots: 0 thing -/
def m_is_sizes : Sm :=
  (mRet (eCall M_sizes_fit (aCons (eVar 0) aNil)))
def M_is_sizes : List D → Rs D := fnM 1 1 m_is_sizes
/-- slots: 0 sizes, 1 many, 2 size -/
def m_many_settings : Sm :=
  (mSeq (mAsg (gmName 1) (eC (.int 1)))
  (mSeq (mFor (imSeq (eVar 0)) (gmName 2)
  (mAsg (gmName 1) (e2 fMul (eVar 1) (eVar 2))))
  (mRet (eVar 1))))
def M_many_settings : List D → Rs D := fnM 3 1 m_many_settings
/-- slots: 0 thing -/
def m_number_fits : Sm :=
  (mRet (eAnd (eCall M_integer_fits (aCons (eVar 0) aNil)) (e2 fGe (eVar 0) (eC (.int 0)))))
def M_number_fits : List D → Rs D := fnM 1 1 m_number_fits
/-- slots: 0 thing -/
def m_is_bit : Sm :=
  (mRet (eAnd (eCall M_number_fits (aCons (eVar 0) aNil)) (e2 fLe (eVar 0) (eC (.int 1)))))
def M_is_bit : List D → Rs D := fnM 1 1 m_is_bit
/-- slots: 0 sizes, 1 thing, 2 bit -/
def m_is_table : Sm :=
  (mSeq (mDrop (eCall M_a_want (aCons (eCall M_is_sizes (aCons (eVar 0) aNil)) (aCons (eC (.str "sizes")) aNil))))
  (mSeq (mIf (tmOr (tmNot (tmTru (eIsi .tup (eVar 1)))) (tmB (e2 fNe (eN fLen (aCons (eVar 1) aNil)) (eCall M_many_settings (aCons (eVar 0) aNil)))))
  (mRet (eC (.bool false)))
  mNext)
  (mSeq (mFor (imSeq (eVar 1)) (gmName 2)
  (mIf (tmNot (tmTru (eCall M_is_bit (aCons (eVar 2) aNil))))
  (mRet (eC (.bool false)))
  mNext))
  (mRet (eC (.bool true))))))
def M_is_table : List D → Rs D := fnM 3 2 m_is_table
/-- slots: 0 sizes, 1 spans, 2 house, 3 _ -/
def m_spans_of : Sm :=
  (mSeq (mAsgO 1 (lLc (imSeq (eVar 0)) [3] (gmName 3) tmYes (eC (.int 1))))
  (mSeq (mFor (imRng rng3 (aCons (e2 fSub (eN fLen (aCons (eVar 0) aNil)) (eC (.int 2))) (aCons (e1 fNeg (eC (.int 1))) (aCons (e1 fNeg (eC (.int 1))) aNil)))) (gmName 2)
  (mSetO 1 (eVar 2) (e2 fMul (eBIx 1 (e2 fAdd (eVar 2) (eC (.int 1)))) (e2 fIx (eVar 0) (e2 fAdd (eVar 2) (eC (.int 1)))))))
  (mRet (eVar 1))))
def M_spans_of : List D → Rs D := fnM 4 1 m_spans_of
/-- slots: 0 sizes, 1 lot, 2 spans, 3 places, 4 house, 5 place, 6 choice -/
def m_corner_places : Sm :=
  (mSeq (mAsg (gmName 2) (eCall M_spans_of (aCons (eVar 0) aNil)))
  (mSeq (mAsg (gmName 3) (eL (lLst (aCons (eC (.int 0)) aNil))))
  (mSeq (mFor (imSeq (eVar 1)) (gmName 4)
  (mAsg (gmName 3) (eL (lLc2 (imSeq (eVar 3)) [5, 6] [6] (gmName 5) tmYes (imRng rng1 (aCons (e2 fIx (eVar 0) (eVar 4)) aNil)) (gmName 6) tmYes (e2 fAdd (eVar 5) (e2 fMul (eVar 6) (e2 fIx (eVar 2) (eVar 4))))))))
  (mRet (eVar 3)))))
def M_corner_places : List D → Rs D := fnM 7 2 m_corner_places
/-- slots: 0 sizes, 1 table, 2 one, 3 other, 4 spans, 5 rest, 6 place, 7 first, 8 house, 9 near, 10 second, 11 far -/
def m_odd_spot : Sm :=
  (mSeq (mAsg (gmName 4) (eCall M_spans_of (aCons (eVar 0) aNil)))
  (mSeq (mAsg (gmName 5) (eL (lLc (imRng rng1 (aCons (eN fLen (aCons (eVar 0) aNil)) aNil)) [8] (gmName 8) (tmAnd (tmB (e2 fNe (eVar 8) (eVar 2))) (tmB (e2 fNe (eVar 8) (eVar 3)))) (eVar 8))))
  (mSeq (mFor (imSeq (eCall M_corner_places (aCons (eVar 0) (aCons (eVar 5) aNil)))) (gmName 6)
  (mFor (imRng rng2 (aCons (eC (.int 1)) (aCons (e2 fIx (eVar 0) (eVar 2)) aNil))) (gmName 7)
  (mSeq (mAsg (gmName 9) (e2 fAdd (eVar 6) (e2 fMul (eVar 7) (e2 fIx (eVar 4) (eVar 2)))))
  (mFor (imRng rng2 (aCons (eC (.int 1)) (aCons (e2 fIx (eVar 0) (eVar 3)) aNil))) (gmName 10)
  (mSeq (mAsg (gmName 11) (e2 fMul (eVar 10) (e2 fIx (eVar 4) (eVar 3))))
  (mIf (tmB (e2 fEq (e2 fXor (e2 fXor (e2 fXor (e2 fIx (eVar 1) (eVar 6)) (e2 fIx (eVar 1) (eVar 9))) (e2 fIx (eVar 1) (e2 fAdd (eVar 6) (eVar 11)))) (e2 fIx (eVar 1) (e2 fAdd (eVar 9) (eVar 11)))) (eC (.int 1))))
  (mRet (eTup (aCons (eVar 6) (aCons (eVar 7) (aCons (eVar 10) aNil)))))
  mNext))))))
  (mRet (eC .none)))))
def M_odd_spot : List D → Rs D := fnM 12 4 m_odd_spot
/-- slots: 0 sizes, 1 table, 2 pairs, 3 one, 4 other -/
def m_knit_pairs : Sm :=
  (mSeq (mDrop (eCall M_a_want (aCons (eCall M_is_sizes (aCons (eVar 0) aNil)) (aCons (eC (.str "sizes")) aNil))))
  (mSeq (mDrop (eCall M_a_want (aCons (eCall M_is_table (aCons (eVar 0) (aCons (eVar 1) aNil))) (aCons (eC (.str "table")) aNil))))
  (mSeq (mAsgO 2 (lLst aNil))
  (mSeq (mFor (imRng rng1 (aCons (eN fLen (aCons (eVar 0) aNil)) aNil)) (gmName 3)
  (mFor (imRng rng2 (aCons (e2 fAdd (eVar 3) (eC (.int 1))) (aCons (eN fLen (aCons (eVar 0) aNil)) aNil))) (gmName 4)
  (mIf (tmB (e2 fIsNot (eCall M_odd_spot (aCons (eVar 0) (aCons (eVar 1) (aCons (eVar 3) (aCons (eVar 4) aNil))))) (eC .none)))
  (mApp 2 (eTup (aCons (eVar 3) (aCons (eVar 4) aNil))))
  mNext)))
  (mRet (eN fTuple (aCons (eVar 2) aNil)))))))
def M_knit_pairs : List D → Rs D := fnM 5 2 m_knit_pairs
/-- slots: 0 sizes, 1 table, 2 marks, 3 pairs, 4 house, 5 clumps, 6 mark, 7 one, 8 other, 9 low, 10 high -/
def m_clumps_of : Sm :=
  (mSeq (mAsgO 2 (lLst aNil))
  (mSeq (mAsg (gmName 3) (eCall M_knit_pairs (aCons (eVar 0) (aCons (eVar 1) aNil))))
  (mSeq (mFor (imRng rng1 (aCons (eN fLen (aCons (eVar 0) aNil)) aNil)) (gmName 4)
  (mApp 2 (eVar 4)))
  (mSeq (mFor (imSeq (eVar 3)) (gmTup [7, 8])
  (mSeq (mAsg (gmName 9) (eN fMin2 (aCons (eBIx 2 (eVar 7)) (aCons (eBIx 2 (eVar 8)) aNil))))
  (mSeq (mAsg (gmName 10) (eN fMax2 (aCons (eBIx 2 (eVar 7)) (aCons (eBIx 2 (eVar 8)) aNil))))
  (mAsgO 2 (lLc (imSeq (eVar 2)) [6] (gmName 6) tmYes (eIf (tmB (e2 fEq (eVar 6) (eVar 10))) (eVar 9) (eVar 6)))))))
  (mSeq (mAsgO 5 (lLst aNil))
  (mSeq (mFor (imRng rng1 (aCons (eN fLen (aCons (eVar 0) aNil)) aNil)) (gmName 6)
  (mIf (tmB (eBIn (eVar 6) 2))
  (mApp 5 (eN fTuple (aCons (eL (lLc (imRng rng1 (aCons (eN fLen (aCons (eVar 0) aNil)) aNil)) [4] (gmName 4) (tmB (e2 fEq (eBIx 2 (eVar 4)) (eVar 6))) (eVar 4))) aNil)))
  mNext))
  (mRet (eN fTuple (aCons (eVar 5) aNil)))))))))
def M_clumps_of : List D → Rs D := fnM 11 2 m_clumps_of
/-- slots: 0 _law_n, 1 _law_pairs, 2 _law_label, 3 _law_classes_here, 4 _law_c, 5 _law_i, 6 _law_j, 7 _law_low, 8 _law_high, 9 _law_members, 10 _law_h -/
def m__law_classes : Sm :=
  (mSeq (mAsg (gmName 2) (eL (lLstR1 (eVar 0))))
  (mSeq (mFor (imSeq (eVar 1)) (gmTup [5, 6])
  (mSeq (mAsg (gmName 7) (eN fMin2 (aCons (e2 fIx (eVar 2) (eVar 5)) (aCons (e2 fIx (eVar 2) (eVar 6)) aNil))))
  (mSeq (mAsg (gmName 8) (eN fMax2 (aCons (e2 fIx (eVar 2) (eVar 5)) (aCons (e2 fIx (eVar 2) (eVar 6)) aNil))))
  (mAsg (gmName 2) (eL (lLc (imSeq (eVar 2)) [4] (gmName 4) tmYes (eIf (tmB (e2 fEq (eVar 4) (eVar 8))) (eVar 7) (eVar 4))))))))
  (mSeq (mAsgO 3 (lLst aNil))
  (mSeq (mFor (imRng rng1 (aCons (eVar 0) aNil)) (gmName 4)
  (mSeq (mAsg (gmName 9) (eN fTuple (aCons (eL (lLc (imRng rng1 (aCons (eVar 0) aNil)) [10] (gmName 10) (tmB (e2 fEq (e2 fIx (eVar 2) (eVar 10)) (eVar 4))) (eVar 10))) aNil)))
  (mIf (tmB (e2 fGt (eN fLen (aCons (eVar 9) aNil)) (eC (.int 0))))
  (mApp 3 (eVar 9))
  mNext)))
  (mRet (eN fTuple (aCons (eL (lN fSorted (aCons (eVar 3) aNil))) aNil)))))))
def M__law_classes : List D → Rs D := fnM 11 2 m__law_classes
/-- slots: 0 _law_n, 1 _law_lots_here, 2 _law_h, 3 _law_l -/
def m__law_lots : Sm :=
  (mSeq (mAsg (gmName 1) (eL (lLst (aCons (eTup aNil) aNil))))
  (mSeq (mFor (imRng rng1 (aCons (eVar 0) aNil)) (gmName 2)
  (mAsg (gmName 1) (e2 fAdd (eVar 1) (eL (lLc (imSeq (eVar 1)) [3] (gmName 3) tmYes (e2 fAdd (eVar 3) (eTup (aCons (eVar 2) aNil))))))))
  (mRet (eVar 1))))
def M__law_lots : List D → Rs D := fnM 4 1 m__law_lots
/-- slots: 0 _law_s, 1 _law_t, 2 _law_l, 3 _law_steps_here, 4 _law_rows, 5 _law_k, 6 _law_p -/
def m__law_seam : Sm :=
  (mSeq (mAsg (gmName 3) (eCall M__law_steps (aCons (eVar 0) aNil)))
  (mSeq (mAsg (gmName 4) (eCall M__law_settings (aCons (eVar 0) aNil)))
  (mSeq (mFor (imRng rng1 (aCons (eN fLen (aCons (eVar 4) aNil)) aNil)) (gmName 5)
  (mSeq (mAsg (gmName 6) (eCall M__law_on (aCons (eVar 0) (aCons (eVar 3) (aCons (eVar 2) (aCons (e2 fIx (eVar 4) (eVar 5)) aNil))))))
  (mIf (tmB (e2 fEq (e2 fMod (e2 fAdd (e2 fAdd (e2 fAdd (e2 fIx (eVar 1) (eVar 5)) (e2 fIx (eVar 1) (eVar 6))) (e2 fIx (eVar 1) (e2 fSub (eVar 5) (eVar 6)))) (e2 fIx (eVar 1) (eC (.int 0)))) (eC (.int 2))) (eC (.int 1))))
  (mRet (eC (.bool false)))
  mNext)))
  (mRet (eC (.bool true))))))
def M__law_seam : List D → Rs D := fnM 7 3 m__law_seam
/-- slots: 0 _law_a, 1 _law_b, 2 _law_k -/
def m__law_same (R : List D → Rs D) : Sm :=
  (mSeq (mIf (tmTru (eIsi .tup (eVar 1)))
  (mSeq (mIf (tmOr (tmNot (tmTru (eIsi .tup (eVar 0)))) (tmB (e2 fNe (eN fLen (aCons (eVar 0) aNil)) (eN fLen (aCons (eVar 1) aNil)))))
  (mRet (eC (.bool false)))
  mNext)
  (mSeq (mFor (imRng rng1 (aCons (eN fLen (aCons (eVar 1) aNil)) aNil)) (gmName 2)
  (mIf (tmNot (tmTru (eCall R (aCons (e2 fIx (eVar 0) (eVar 2)) (aCons (e2 fIx (eVar 1) (eVar 2)) aNil)))))
  (mRet (eC (.bool false)))
  mNext))
  (mRet (eC (.bool true)))))
  mNext)
  (mSeq (mIf (tmB (e2 fIs (eVar 1) (eC .none)))
  (mRet (e2 fIs (eVar 0) (eC .none)))
  mNext)
  (mSeq (mIf (tmTru (eIsi .bool (eVar 1)))
  (mRet (eAnd (eIsi .bool (eVar 0)) (e2 fEq (eVar 0) (eVar 1))))
  mNext)
  (mSeq (mIf (tmTru (eIsi .int (eVar 1)))
  (mRet (eAnd (eIsi .int (eVar 0)) (eAnd (eNot (eIsi .bool (eVar 0))) (e2 fEq (eVar 0) (eVar 1)))))
  mNext)
  (mRet (eAnd (eIsi .str (eVar 0)) (e2 fEq (eVar 0) (eVar 1))))))))
def MR__law_same : Nat → List D → Rs D
  | 0 => fun _ => .stk
  | j + 1 => fnM 3 2 (m__law_same (MR__law_same j))
def M__law_same : List D → Rs D := MR__law_same 6
/-- slots: 0 _law_t, 1 _law_p, 2 _law_up, 3 _law_across -/
def m__law_odd_sum : Sm :=
  (mRet (e2 fEq (e2 fMod (e2 fAdd (e2 fAdd (e2 fAdd (e2 fIx (eVar 0) (eVar 1)) (e2 fIx (eVar 0) (e2 fAdd (eVar 1) (eVar 2)))) (e2 fIx (eVar 0) (e2 fAdd (eVar 1) (eVar 3)))) (e2 fIx (eVar 0) (e2 fAdd (e2 fAdd (eVar 1) (eVar 2)) (eVar 3)))) (eC (.int 2))) (eC (.int 1))))
def M__law_odd_sum : List D → Rs D := fnM 4 4 m__law_odd_sum
/-- slots: 0 _law_s, 1 _law_t, 2 _law_i, 3 _law_j, 4 _law_steps_here, 5 _law_rows, 6 _law_k, 7 _law_x, 8 _law_a, 9 _law_b -/
def m__law_knit : Sm :=
  (mSeq (mAsg (gmName 4) (eCall M__law_steps (aCons (eVar 0) aNil)))
  (mSeq (mAsg (gmName 5) (eCall M__law_settings (aCons (eVar 0) aNil)))
  (mSeq (mFor (imRng rng1 (aCons (eN fLen (aCons (eVar 5) aNil)) aNil)) (gmName 6)
  (mSeq (mAsg (gmName 7) (e2 fIx (eVar 5) (eVar 6)))
  (mFor (imRng rng2 (aCons (e2 fAdd (e2 fIx (eVar 7) (eVar 2)) (eC (.int 1))) (aCons (e2 fIx (eVar 0) (eVar 2)) aNil))) (gmName 8)
  (mFor (imRng rng2 (aCons (e2 fAdd (e2 fIx (eVar 7) (eVar 3)) (eC (.int 1))) (aCons (e2 fIx (eVar 0) (eVar 3)) aNil))) (gmName 9)
  (mIf (tmTru (eCall M__law_odd_sum (aCons (eVar 1) (aCons (eVar 6) (aCons (e2 fMul (e2 fSub (eVar 8) (e2 fIx (eVar 7) (eVar 2))) (e2 fIx (eVar 4) (eVar 2))) (aCons (e2 fMul (e2 fSub (eVar 9) (e2 fIx (eVar 7) (eVar 3))) (e2 fIx (eVar 4) (eVar 3))) aNil))))))
  (mRet (eC (.bool true)))
  mNext)))))
  (mRet (eC (.bool false))))))
def M__law_knit : List D → Rs D := fnM 10 4 m__law_knit
/-- slots: 0 thing -/
def m_is_number : Sm :=
  (mRet (eCall M_number_fits (aCons (eVar 0) aNil)))
def M_is_number : List D → Rs D := fnM 1 1 m_is_number
/-- slots: 0 sizes, 1 table, 2 one, 3 other -/
def m__want_houses : Sm :=
  (mSeq (mDrop (eCall M_a_want (aCons (eCall M_is_sizes (aCons (eVar 0) aNil)) (aCons (eC (.str "sizes")) aNil))))
  (mSeq (mDrop (eCall M_a_want (aCons (eCall M_is_table (aCons (eVar 0) (aCons (eVar 1) aNil))) (aCons (eC (.str "table")) aNil))))
  (mSeq (mDrop (eCall M_a_want (aCons (eAnd (eCall M_is_number (aCons (eVar 2) aNil)) (e2 fLt (eVar 2) (eN fLen (aCons (eVar 0) aNil)))) (aCons (eC (.str "one")) aNil))))
  (mDrop (eCall M_a_want (aCons (eAnd (eCall M_is_number (aCons (eVar 3) aNil)) (eAnd (e2 fLt (eVar 3) (eN fLen (aCons (eVar 0) aNil))) (e2 fNe (eVar 3) (eVar 2)))) (aCons (eC (.str "other")) aNil)))))))
def M__want_houses : List D → Rs D := fnM 4 4 m__want_houses
/-- slots: 0 sizes, 1 place, 2 spans, 3 house -/
def m_setting_by : Sm :=
  (mSeq (mAsg (gmName 2) (eCall M_spans_of (aCons (eVar 0) aNil)))
  (mRet (eN fTuple (aCons (eL (lLc (imRng rng1 (aCons (eN fLen (aCons (eVar 0) aNil)) aNil)) [3] (gmName 3) tmYes (e2 fMod (e2 fDiv (eVar 1) (e2 fIx (eVar 2) (eVar 3))) (e2 fIx (eVar 0) (eVar 3))))) aNil))))
def M_setting_by : List D → Rs D := fnM 4 2 m_setting_by
/-- slots: 0 sizes, 1 table, 2 one, 3 other, 4 spot, 5 place, 6 first, 7 second -/
def m_odd_four : Sm :=
  (mSeq (mDrop (eCall M__want_houses (aCons (eVar 0) (aCons (eVar 1) (aCons (eVar 2) (aCons (eVar 3) aNil))))))
  (mSeq (mAsg (gmName 4) (eCall M_odd_spot (aCons (eVar 0) (aCons (eVar 1) (aCons (eVar 2) (aCons (eVar 3) aNil))))))
  (mSeq (mIf (tmB (e2 fIs (eVar 4) (eC .none)))
  (mRet (eC .none))
  mNext)
  (mSeq (mAsg (gmTup [5, 6, 7]) (eVar 4))
  (mRet (eTup (aCons (eCall M_setting_by (aCons (eVar 0) (aCons (eVar 5) aNil))) (aCons (eVar 2) (aCons (eVar 6) (aCons (eVar 3) (aCons (eVar 7) aNil)))))))))))
def M_odd_four : List D → Rs D := fnM 8 4 m_odd_four
/-- slots: 0 many, 1 thing -/
def m_house_fits : Sm :=
  (mRet (eAnd (eCall M_number_fits (aCons (eVar 1) aNil)) (e2 fLt (eVar 1) (eVar 0))))
def M_house_fits : List D → Rs D := fnM 2 2 m_house_fits
/-- slots: 0 many, 1 thing, 2 last, 3 house -/
def m_lot_fits : Sm :=
  (mSeq (mIf (tmNot (tmTru (eIsi .tup (eVar 1))))
  (mRet (eC (.bool false)))
  mNext)
  (mSeq (mAsg (gmName 2) (e1 fNeg (eC (.int 1))))
  (mSeq (mFor (imSeq (eVar 1)) (gmName 3)
  (mSeq (mIf (tmOr (tmNot (tmTru (eCall M_house_fits (aCons (eVar 0) (aCons (eVar 3) aNil))))) (tmB (e2 fLe (eVar 3) (eVar 2))))
  (mRet (eC (.bool false)))
  mNext)
  (mAsg (gmName 2) (eVar 3))))
  (mRet (eC (.bool true))))))
def M_lot_fits : List D → Rs D := fnM 4 2 m_lot_fits
/-- slots: 0 many, 1 thing -/
def m_is_lot : Sm :=
  (mSeq (mDrop (eCall M_a_want (aCons (eCall M_many_fits (aCons (eVar 0) aNil)) (aCons (eC (.str "many")) aNil))))
  (mRet (eCall M_lot_fits (aCons (eVar 0) (aCons (eVar 1) aNil)))))
def M_is_lot : List D → Rs D := fnM 2 2 m_is_lot
/-- slots: 0 sizes, 1 table, 2 lot, 3 one, 4 other -/
def m_is_seam : Sm :=
  (mSeq (mDrop (eCall M_a_want (aCons (eCall M_is_sizes (aCons (eVar 0) aNil)) (aCons (eC (.str "sizes")) aNil))))
  (mSeq (mDrop (eCall M_a_want (aCons (eCall M_is_table (aCons (eVar 0) (aCons (eVar 1) aNil))) (aCons (eC (.str "table")) aNil))))
  (mSeq (mDrop (eCall M_a_want (aCons (eCall M_is_lot (aCons (eN fLen (aCons (eVar 0) aNil)) (aCons (eVar 2) aNil))) (aCons (eC (.str "lot")) aNil))))
  (mSeq (mFor (imSeq (eCall M_knit_pairs (aCons (eVar 0) (aCons (eVar 1) aNil)))) (gmTup [3, 4])
  (mIf (tmB (e2 fNe (e2 fIn (eVar 3) (eVar 2)) (e2 fIn (eVar 4) (eVar 2))))
  (mRet (eC (.bool false)))
  mNext))
  (mRet (eC (.bool true)))))))
def M_is_seam : List D → Rs D := fnM 5 3 m_is_seam
/-- slots: 0 sizes, 1 table, 2 one, 3 other -/
def m_are_knit : Sm :=
  (mSeq (mDrop (eCall M__want_houses (aCons (eVar 0) (aCons (eVar 1) (aCons (eVar 2) (aCons (eVar 3) aNil))))))
  (mRet (e2 fIsNot (eCall M_odd_spot (aCons (eVar 0) (aCons (eVar 1) (aCons (eVar 2) (aCons (eVar 3) aNil))))) (eC .none))))
def M_are_knit : List D → Rs D := fnM 4 4 m_are_knit
/-- slots: 0 setting, 1 house, 2 choice -/
def m__changed : Sm :=
  (mRet (e2 fAdd (e2 fAdd (eSl (eVar 0) oNone (oSome (eVar 1))) (eTup (aCons (eVar 2) aNil))) (eSl (eVar 0) (oSome (e2 fAdd (eVar 1) (eC (.int 1)))) oNone)))
def M__changed : List D → Rs D := fnM 3 3 m__changed
/-- slots: 0 sizes, 1 setting, 2 house, 3 choice -/
def m__is_change : Sm :=
  (mSeq (mIf (tmOr (tmNot (tmTru (eCall M_is_number (aCons (eVar 2) aNil)))) (tmOr (tmB (e2 fGe (eVar 2) (eN fLen (aCons (eVar 0) aNil)))) (tmNot (tmTru (eCall M_is_number (aCons (eVar 3) aNil))))))
  (mRet (eC (.bool false)))
  mNext)
  (mRet (eAnd (e2 fLt (eVar 3) (e2 fIx (eVar 0) (eVar 2))) (e2 fNe (eVar 3) (e2 fIx (eVar 1) (eVar 2))))))
def M__is_change : List D → Rs D := fnM 4 4 m__is_change
/-- slots: 0 sizes, 1 thing, 2 choice, 3 size -/
def m_setting_fits : Sm :=
  (mSeq (mIf (tmOr (tmNot (tmTru (eIsi .tup (eVar 1)))) (tmB (e2 fNe (eN fLen (aCons (eVar 1) aNil)) (eN fLen (aCons (eVar 0) aNil)))))
  (mRet (eC (.bool false)))
  mNext)
  (mRet (eN fAll (aCons (eL (lLc (imRng zipM (aCons (eVar 1) (aCons (eVar 0) aNil))) [2, 3] (gmTup [2, 3]) tmYes (eAnd (eCall M_number_fits (aCons (eVar 2) aNil)) (e2 fLt (eVar 2) (eVar 3))))) aNil))))
def M_setting_fits : List D → Rs D := fnM 4 2 m_setting_fits
/-- slots: 0 sizes, 1 thing -/
def m_is_setting : Sm :=
  (mSeq (mDrop (eCall M_a_want (aCons (eCall M_sizes_fit (aCons (eVar 0) aNil)) (aCons (eC (.str "sizes")) aNil))))
  (mRet (eCall M_setting_fits (aCons (eVar 0) (aCons (eVar 1) aNil)))))
def M_is_setting : List D → Rs D := fnM 2 2 m_is_setting
/-- slots: 0 sizes, 1 thing, 2 setting, 3 one, 4 first, 5 other, 6 second -/
def m_is_four : Sm :=
  (mSeq (mDrop (eCall M_a_want (aCons (eCall M_is_sizes (aCons (eVar 0) aNil)) (aCons (eC (.str "sizes")) aNil))))
  (mSeq (mIf (tmOr (tmNot (tmTru (eIsi .tup (eVar 1)))) (tmOr (tmB (e2 fNe (eN fLen (aCons (eVar 1) aNil)) (eC (.int 5)))) (tmNot (tmTru (eCall M_is_setting (aCons (eVar 0) (aCons (e2 fIx (eVar 1) (eC (.int 0))) aNil)))))))
  (mRet (eC (.bool false)))
  mNext)
  (mSeq (mAsg (gmTup [2, 3, 4, 5, 6]) (eVar 1))
  (mRet (eAnd (eCall M__is_change (aCons (eVar 0) (aCons (eVar 2) (aCons (eVar 3) (aCons (eVar 4) aNil))))) (eAnd (eCall M__is_change (aCons (eVar 0) (aCons (eVar 2) (aCons (eVar 5) (aCons (eVar 6) aNil))))) (e2 fNe (eVar 3) (eVar 5))))))))
def M_is_four : List D → Rs D := fnM 7 2 m_is_four
/-- slots: 0 sizes, 1 four, 2 near, 3 setting, 4 one, 5 first, 6 other, 7 second -/
def m_four_settings : Sm :=
  (mSeq (mDrop (eCall M_a_want (aCons (eCall M_is_sizes (aCons (eVar 0) aNil)) (aCons (eC (.str "sizes")) aNil))))
  (mSeq (mDrop (eCall M_a_want (aCons (eCall M_is_four (aCons (eVar 0) (aCons (eVar 1) aNil))) (aCons (eC (.str "four")) aNil))))
  (mSeq (mAsg (gmTup [3, 4, 5, 6, 7]) (eVar 1))
  (mSeq (mAsg (gmName 2) (eCall M__changed (aCons (eVar 3) (aCons (eVar 4) (aCons (eVar 5) aNil)))))
  (mRet (eTup (aCons (eVar 3) (aCons (eVar 2) (aCons (eCall M__changed (aCons (eVar 3) (aCons (eVar 6) (aCons (eVar 7) aNil)))) (aCons (eCall M__changed (aCons (eVar 2) (aCons (eVar 6) (aCons (eVar 7) aNil)))) aNil))))))))))
def M_four_settings : List D → Rs D := fnM 8 2 m_four_settings
/-- slots: 0 sizes, 1 setting, 2 place, 3 house -/
def m_place_by : Sm :=
  (mSeq (mAsg (gmName 2) (eC (.int 0)))
  (mSeq (mFor (imRng rng1 (aCons (eN fLen (aCons (eVar 0) aNil)) aNil)) (gmName 3)
  (mAsg (gmName 2) (e2 fAdd (e2 fMul (eVar 2) (e2 fIx (eVar 0) (eVar 3))) (e2 fIx (eVar 1) (eVar 3)))))
  (mRet (eVar 2))))
def M_place_by : List D → Rs D := fnM 4 2 m_place_by
/-- slots: 0 sizes, 1 table, 2 four, 3 total, 4 setting -/
def m_is_odd : Sm :=
  (mSeq (mDrop (eCall M_a_want (aCons (eCall M_is_sizes (aCons (eVar 0) aNil)) (aCons (eC (.str "sizes")) aNil))))
  (mSeq (mDrop (eCall M_a_want (aCons (eCall M_is_table (aCons (eVar 0) (aCons (eVar 1) aNil))) (aCons (eC (.str "table")) aNil))))
  (mSeq (mDrop (eCall M_a_want (aCons (eCall M_is_four (aCons (eVar 0) (aCons (eVar 2) aNil))) (aCons (eC (.str "four")) aNil))))
  (mSeq (mAsg (gmName 3) (eC (.int 0)))
  (mSeq (mFor (imSeq (eCall M_four_settings (aCons (eVar 0) (aCons (eVar 2) aNil)))) (gmName 4)
  (mAsg (gmName 3) (e2 fXor (eVar 3) (e2 fIx (eVar 1) (eCall M_place_by (aCons (eVar 0) (aCons (eVar 4) aNil)))))))
  (mRet (e2 fEq (eVar 3) (eC (.int 1)))))))))
def M_is_odd : List D → Rs D := fnM 5 3 m_is_odd
/-- slots: 0 _law_s, 1 _law_t, 2 _law_i, 3 _law_j, 4 _law_told, 5 _law_k, 6 _law_steps_here, 7 _law_p, 8 _law_up, 9 _law_across, 10 _law_c, 11 _law_h -/
def m__law_four_right : Sm :=
  (mSeq (mIf (tmOr (tmNot (tmTru (eIsi .tup (eVar 4)))) (tmOr (tmB (e2 fNe (eN fLen (aCons (eVar 4) aNil)) (eC (.int 5)))) (tmOr (tmNot (tmTru (eIsi .tup (e2 fIx (eVar 4) (eC (.int 0)))))) (tmB (e2 fNe (eN fLen (aCons (e2 fIx (eVar 4) (eC (.int 0))) aNil)) (eN fLen (aCons (eVar 0) aNil)))))))
  (mRet (eC (.bool false)))
  mNext)
  (mSeq (mIf (tmOr (tmNot (tmTru (eCall M__law_same (aCons (e2 fIx (eVar 4) (eC (.int 1))) (aCons (eVar 2) aNil))))) (tmNot (tmTru (eCall M__law_same (aCons (e2 fIx (eVar 4) (eC (.int 3))) (aCons (eVar 3) aNil))))))
  (mRet (eC (.bool false)))
  mNext)
  (mSeq (mFor (imRng rng1 (aCons (eN fLen (aCons (eVar 0) aNil)) aNil)) (gmName 5)
  (mSeq (mAsg (gmName 10) (e2 fIx (e2 fIx (eVar 4) (eC (.int 0))) (eVar 5)))
  (mIf (tmOr (tmNot (tmTru (eIsi .int (eVar 10)))) (tmOr (tmTru (eIsi .bool (eVar 10))) (tmOr (tmB (e2 fLt (eVar 10) (eC (.int 0)))) (tmB (e2 fGe (eVar 10) (e2 fIx (eVar 0) (eVar 5)))))))
  (mRet (eC (.bool false)))
  mNext)))
  (mSeq (mFor (imSeq (eTup (aCons (eTup (aCons (eVar 2) (aCons (e2 fIx (eVar 4) (eC (.int 2))) aNil))) (aCons (eTup (aCons (eVar 3) (aCons (e2 fIx (eVar 4) (eC (.int 4))) aNil))) aNil)))) (gmTup [11, 10])
  (mIf (tmOr (tmNot (tmTru (eIsi .int (eVar 10)))) (tmOr (tmTru (eIsi .bool (eVar 10))) (tmOr (tmB (e2 fLt (eVar 10) (eC (.int 0)))) (tmOr (tmB (e2 fGe (eVar 10) (e2 fIx (eVar 0) (eVar 11)))) (tmB (e2 fEq (eVar 10) (e2 fIx (e2 fIx (eVar 4) (eC (.int 0))) (eVar 11))))))))
  (mRet (eC (.bool false)))
  mNext))
  (mSeq (mAsg (gmName 6) (eCall M__law_steps (aCons (eVar 0) aNil)))
  (mSeq (mAsg (gmName 7) (eCall M__law_on (aCons (eVar 0) (aCons (eVar 6) (aCons (eL (lLstR1 (eN fLen (aCons (eVar 0) aNil)))) (aCons (e2 fIx (eVar 4) (eC (.int 0))) aNil))))))
  (mSeq (mAsg (gmName 8) (e2 fMul (e2 fSub (e2 fIx (eVar 4) (eC (.int 2))) (e2 fIx (e2 fIx (eVar 4) (eC (.int 0))) (eVar 2))) (e2 fIx (eVar 6) (eVar 2))))
  (mSeq (mAsg (gmName 9) (e2 fMul (e2 fSub (e2 fIx (eVar 4) (eC (.int 4))) (e2 fIx (e2 fIx (eVar 4) (eC (.int 0))) (eVar 3))) (e2 fIx (eVar 6) (eVar 3))))
  (mRet (eAnd (eCall M__law_odd_sum (aCons (eVar 1) (aCons (eVar 7) (aCons (eVar 8) (aCons (eVar 9) aNil))))) (eCall M__law_same (aCons (eCall M_is_odd (aCons (eVar 0) (aCons (eVar 1) (aCons (eVar 4) aNil)))) (aCons (eC (.bool true)) aNil)))))))))))))
def M__law_four_right : List D → Rs D := fnM 12 5 m__law_four_right
/-- slots: 0 _law_s, 1 _law_t, 2 _law_n, 3 _law_pairs, 4 _law_i, 5 _law_clumps, 6 _law_l, 7 _law_j, 8 _law_parted, 9 _law_clump, 10 _law_due, 11 _law_inside, 12 _law_knit_here, 13 _law_first, 14 _law_second, 15 _law_told, 16 _law_h -/
def m__law_pairs_right : Sm :=
  (mSeq (mAsg (gmName 2) (eN fLen (aCons (eVar 0) aNil)))
  (mSeq (mAsgO 3 (lLst aNil))
  (mSeq (mFor (imRng rng1 (aCons (eVar 2) aNil)) (gmName 4)
  (mFor (imRng rng1 (aCons (eVar 2) aNil)) (gmName 7)
  (mIf (tmB (e2 fLt (eVar 4) (eVar 7)))
  (mSeq (mAsg (gmName 12) (eCall M__law_knit (aCons (eVar 0) (aCons (eVar 1) (aCons (eVar 4) (aCons (eVar 7) aNil))))))
  (mSeq (mIf (tmTru (eVar 12))
  (mApp 3 (eTup (aCons (eVar 4) (aCons (eVar 7) aNil))))
  mNext)
  (mFor (imSeq (eTup (aCons (eTup (aCons (eVar 4) (aCons (eVar 7) aNil))) (aCons (eTup (aCons (eVar 7) (aCons (eVar 4) aNil))) aNil)))) (gmTup [13, 14])
  (mSeq (mIf (tmNot (tmTru (eCall M__law_same (aCons (eCall M_are_knit (aCons (eVar 0) (aCons (eVar 1) (aCons (eVar 13) (aCons (eVar 14) aNil))))) (aCons (eVar 12) aNil)))))
  (mRet (eC (.bool false)))
  mNext)
  (mSeq (mAsg (gmName 15) (eCall M_odd_four (aCons (eVar 0) (aCons (eVar 1) (aCons (eVar 13) (aCons (eVar 14) aNil))))))
  (mSeq (mIf (tmAnd (tmNot (tmTru (eVar 12))) (tmB (e2 fIsNot (eVar 15) (eC .none))))
  (mRet (eC (.bool false)))
  mNext)
  (mIf (tmAnd (tmTru (eVar 12)) (tmNot (tmTru (eCall M__law_four_right (aCons (eVar 0) (aCons (eVar 1) (aCons (eVar 13) (aCons (eVar 14) (aCons (eVar 15) aNil)))))))))
  (mRet (eC (.bool false)))
  mNext)))))))
  mNext)))
  (mSeq (mAsg (gmName 5) (eCall M__law_classes (aCons (eVar 2) (aCons (eVar 3) aNil))))
  (mSeq (mIf (tmOr (tmNot (tmTru (eCall M__law_same (aCons (eCall M_knit_pairs (aCons (eVar 0) (aCons (eVar 1) aNil))) (aCons (eN fTuple (aCons (eVar 3) aNil)) aNil))))) (tmNot (tmTru (eCall M__law_same (aCons (eCall M_clumps_of (aCons (eVar 0) (aCons (eVar 1) aNil))) (aCons (eVar 5) aNil))))))
  (mRet (eC (.bool false)))
  mNext)
  (mSeq (mFor (imSeq (eCall M__law_lots (aCons (eVar 2) aNil))) (gmName 6)
  (mSeq (mAsg (gmName 8) (eC (.int 0)))
  (mSeq (mFor (imSeq (eVar 5)) (gmName 9)
  (mSeq (mAsg (gmName 11) (eN fLen (aCons (eL (lLc (imSeq (eVar 9)) [16] (gmName 16) (tmB (e2 fIn (eVar 16) (eVar 6))) (eVar 16))) aNil)))
  (mIf (tmB (eChain fLt fLt (eC (.int 0)) (eVar 11) (eN fLen (aCons (eVar 9) aNil))))
  (mAsg (gmName 8) (e2 fAdd (eVar 8) (eC (.int 1))))
  mNext)))
  (mSeq (mAsg (gmName 10) (eCall M__law_seam (aCons (eVar 0) (aCons (eVar 1) (aCons (eVar 6) aNil)))))
  (mIf (tmOr (tmB (e2 fNe (eVar 10) (e2 fEq (eVar 8) (eC (.int 0))))) (tmNot (tmTru (eCall M__law_same (aCons (eCall M_is_seam (aCons (eVar 0) (aCons (eVar 1) (aCons (eVar 6) aNil)))) (aCons (eVar 10) aNil))))))
  (mRet (eC (.bool false)))
  mNext)))))
  (mRet (eC (.bool true)))))))))
def M__law_pairs_right : List D → Rs D := fnM 17 2 m__law_pairs_right
/-- slots: 0 sizes, 1 table, 2 house, 3 span, 4 place, 5 choice, 6 near -/
def m__is_idle : Sm :=
  (mSeq (mAsg (gmName 3) (e2 fIx (eCall M_spans_of (aCons (eVar 0) aNil)) (eVar 2)))
  (mSeq (mFor (imSeq (eCall M_corner_places (aCons (eVar 0) (aCons (eL (lLc (imRng rng1 (aCons (eN fLen (aCons (eVar 0) aNil)) aNil)) [6] (gmName 6) (tmB (e2 fNe (eVar 6) (eVar 2))) (eVar 6))) aNil)))) (gmName 4)
  (mFor (imRng rng2 (aCons (eC (.int 1)) (aCons (e2 fIx (eVar 0) (eVar 2)) aNil))) (gmName 5)
  (mIf (tmB (e2 fNe (e2 fIx (eVar 1) (e2 fAdd (eVar 4) (e2 fMul (eVar 5) (eVar 3)))) (e2 fIx (eVar 1) (eVar 4))))
  (mRet (eC (.bool false)))
  mNext)))
  (mRet (eC (.bool true)))))
def M__is_idle : List D → Rs D := fnM 7 3 m__is_idle
/-- slots: 0 sizes, 1 table, 2 house -/
def m_idle_houses : Sm :=
  (mSeq (mDrop (eCall M_a_want (aCons (eCall M_is_sizes (aCons (eVar 0) aNil)) (aCons (eC (.str "sizes")) aNil))))
  (mSeq (mDrop (eCall M_a_want (aCons (eCall M_is_table (aCons (eVar 0) (aCons (eVar 1) aNil))) (aCons (eC (.str "table")) aNil))))
  (mRet (eN fTuple (aCons (eL (lLc (imRng rng1 (aCons (eN fLen (aCons (eVar 0) aNil)) aNil)) [2] (gmName 2) (tmTru (eCall M__is_idle (aCons (eVar 0) (aCons (eVar 1) (aCons (eVar 2) aNil))))) (eVar 2))) aNil)))))
def M_idle_houses : List D → Rs D := fnM 3 2 m_idle_houses
/-- slots: 0 _law_script, 1 _law_row_here, 2 _law_s, 3 _law_t, 4 _law_due, 5 _law_clumps, 6 _law_more, 7 _law_pairs, 8 _law_i, 9 _law_j -/
def m_law : Sm :=
  (mSeq (mAsg (gmName 1) (eCall M__law_row (aCons (eVar 0) (aCons (eC (.int 190)) aNil))))
  (mSeq (mAsg (gmName 2) (eCall M__law_sizes (aCons (eVar 1) aNil)))
  (mSeq (mAsg (gmName 3) (eCall M__law_table (aCons (eVar 1) (aCons (eVar 2) (aCons (eC (.int 9)) aNil)))))
  (mSeq (mIf (tmNot (tmTru (eCall M__law_pairs_right (aCons (eVar 2) (aCons (eVar 3) aNil)))))
  (mRet (eC (.bool false)))
  mNext)
  (mSeq (mAsg (gmName 4) (eCall M__law_idle (aCons (eVar 2) (aCons (eVar 3) aNil))))
  (mSeq (mIf (tmNot (tmTru (eCall M__law_same (aCons (eCall M_idle_houses (aCons (eVar 2) (aCons (eVar 3) aNil))) (aCons (eVar 4) aNil)))))
  (mRet (eC (.bool false)))
  mNext)
  (mSeq (mAsg (gmName 5) (eCall M_clumps_of (aCons (eVar 2) (aCons (eVar 3) aNil))))
  (mSeq (mAsg (gmName 6) (eCall M__law_table (aCons (eVar 1) (aCons (eVar 2) (aCons (eC (.int 100)) aNil)))))
  (mSeq (mIf (tmNot (tmTru (eCall M__law_same (aCons (eCall M_idle_houses (aCons (eVar 2) (aCons (eVar 6) aNil))) (aCons (eCall M__law_idle (aCons (eVar 2) (aCons (eVar 6) aNil))) aNil)))))
  (mRet (eC (.bool false)))
  mNext)
  (mSeq (mAsgO 7 (lLst aNil))
  (mSeq (mFor (imRng rng1 (aCons (eN fLen (aCons (eVar 2) aNil)) aNil)) (gmName 8)
  (mFor (imRng rng2 (aCons (e2 fAdd (eVar 8) (eC (.int 1))) (aCons (eN fLen (aCons (eVar 2) aNil)) aNil))) (gmName 9)
  (mIf (tmTru (eCall M__law_knit (aCons (eVar 2) (aCons (eVar 6) (aCons (eVar 8) (aCons (eVar 9) aNil))))))
  (mApp 7 (eTup (aCons (eVar 8) (aCons (eVar 9) aNil))))
  mNext)))
  (mSeq (mIf (tmOr (tmNot (tmTru (eCall M__law_same (aCons (eCall M_clumps_of (aCons (eVar 2) (aCons (eVar 6) aNil))) (aCons (eCall M__law_classes (aCons (eN fLen (aCons (eVar 2) aNil)) (aCons (eVar 7) aNil))) aNil))))) (tmNot (tmTru (eCall M__law_same (aCons (eCall M_knit_pairs (aCons (eVar 2) (aCons (eVar 6) aNil))) (aCons (eN fTuple (aCons (eVar 7) aNil)) aNil))))))
  (mRet (eC (.bool false)))
  mNext)
  (mRet (eAnd (eCall M__law_same (aCons (eCall M_clumps_of (aCons (eVar 2) (aCons (eVar 3) aNil))) (aCons (eVar 5) aNil))) (eCall M__law_same (aCons (eCall M_idle_houses (aCons (eVar 2) (aCons (eVar 3) aNil))) (aCons (eVar 4) aNil)))))))))))))))))
def M_law : List D → Rs D := fnM 10 1 m_law
end K07
end

section
set_option Elab.async false
set_option linter.all false
set_option maxRecDepth 100000
set_option maxHeartbeats 4000000
/-! K07A: what sizes, tables, spans, places come to. -/
namespace K07
open PySem PySem.Spec PyProof.Rows L2 Mir Dg
structure Wd (s t : List Nat) : Prop where
  pos : Pos s
  ne : 1 ≤ s.length
  six : s.length ≤ 6
  prod : prodL s ≤ 64
  tl : t.length = prodL s
  bit : ∀ b ∈ t, b < 2
theorem want_true (w : Str) : M_a_want [.bool true, .str w] = .ok .none := rfl
theorem want_false (w : Str) : M_a_want [.bool false, .str w] = .err "NotUsable" [("at", .int (-1)), ("word", .str w)] := rfl
theorem integer_int (i : Int) : M_integer_fits [.int i] = .ok (.bool true) := rfl
theorem number_nat (n : Nat) : M_number_fits [iD n] = .ok (.bool true) := by
  have e : M_number_fits [iD n] = ((endOf (m_number_fits [.dat (iD n)])).bind fun p => .ok p.1) := rfl
  have q : fGe (iD n) (.int 0) = .ok (.bool true) := by rw [show (PyData.int 0) = iD 0 from rfl, fGe_N, decide_eq_true (Nat.zero_le _)]
  rw [e]
  unfold m_number_fits
  simp only [mSeq_ap, mAsg_ap, mIf_ap, mDrop_ap, mRet_ap, mNext_ap, mFor_ap, imRng_ap, imSeq_ap, tmB_ap, tmNot_ap, tmTru_ap, tmAnd_ap, tmOr_ap, tmYes_ap, e1_ap, e2_ap, eN_ap, lN_ap, eL_ap, lLst_ap, eCall_ap, aCons_ap, aNil_ap, eVar_ap, eC_ap, eAnd_ap, eOr_ap, eNot_ap, eIsi_ap, eIf_ap, List.set_cons_succ, List.set_cons_zero, List.getElem?_cons_zero, List.getElem?_cons_succ, bind_ok, calm_ok, gmName_ap, tru_bool, itemsOf_list, itemsOf_tuple, Bool.not_true, Bool.not_false, Bool.false_eq_true, if_false, if_true, endOf, integer_int, q]
theorem is_number_nat (n : Nat) : M_is_number [iD n] = .ok (.bool true) := by
  have e : M_is_number [iD n] = ((endOf (m_is_number [.dat (iD n)])).bind fun p => .ok p.1) := rfl
  rw [e]
  unfold m_is_number
  simp only [mSeq_ap, mAsg_ap, mIf_ap, mDrop_ap, mRet_ap, mNext_ap, mFor_ap, imRng_ap, imSeq_ap, tmB_ap, tmNot_ap, tmTru_ap, tmAnd_ap, tmOr_ap, tmYes_ap, e1_ap, e2_ap, eN_ap, lN_ap, eL_ap, lLst_ap, eCall_ap, aCons_ap, aNil_ap, eVar_ap, eC_ap, eAnd_ap, eOr_ap, eNot_ap, eIsi_ap, eIf_ap, List.set_cons_succ, List.set_cons_zero, List.getElem?_cons_zero, List.getElem?_cons_succ, bind_ok, calm_ok, gmName_ap, tru_bool, itemsOf_list, itemsOf_tuple, Bool.not_true, Bool.not_false, Bool.false_eq_true, if_false, if_true, endOf, number_nat]
theorem many_nat (n : Nat) (h : 1 ≤ n) : M_many_fits [iD n] = .ok (.bool true) := by
  have e : M_many_fits [iD n] = ((endOf (m_many_fits [.dat (iD n)])).bind fun p => .ok p.1) := rfl
  have q : fGe (iD n) (.int 1) = .ok (.bool true) := by rw [show (PyData.int 1) = iD 1 from rfl, fGe_N, decide_eq_true h]
  rw [e]
  unfold m_many_fits
  simp only [mSeq_ap, mAsg_ap, mIf_ap, mDrop_ap, mRet_ap, mNext_ap, mFor_ap, imRng_ap, imSeq_ap, tmB_ap, tmNot_ap, tmTru_ap, tmAnd_ap, tmOr_ap, tmYes_ap, e1_ap, e2_ap, eN_ap, lN_ap, eL_ap, lLst_ap, eCall_ap, aCons_ap, aNil_ap, eVar_ap, eC_ap, eAnd_ap, eOr_ap, eNot_ap, eIsi_ap, eIf_ap, List.set_cons_succ, List.set_cons_zero, List.getElem?_cons_zero, List.getElem?_cons_succ, bind_ok, calm_ok, gmName_ap, tru_bool, itemsOf_list, itemsOf_tuple, Bool.not_true, Bool.not_false, Bool.false_eq_true, if_false, if_true, endOf, integer_int, q]
theorem house_nat (n h : Nat) : M_house_fits [iD n, iD h] = .ok (.bool (decide (h < n))) := by
  have e : M_house_fits [iD n, iD h] = ((endOf (m_house_fits [.dat (iD n), .dat (iD h)])).bind fun p => .ok p.1) := rfl
  rw [e]
  unfold m_house_fits
  simp only [mSeq_ap, mAsg_ap, mIf_ap, mDrop_ap, mRet_ap, mNext_ap, mFor_ap, imRng_ap, imSeq_ap, tmB_ap, tmNot_ap, tmTru_ap, tmAnd_ap, tmOr_ap, tmYes_ap, e1_ap, e2_ap, eN_ap, lN_ap, eL_ap, lLst_ap, eCall_ap, aCons_ap, aNil_ap, eVar_ap, eC_ap, eAnd_ap, eOr_ap, eNot_ap, eIsi_ap, eIf_ap, List.set_cons_succ, List.set_cons_zero, List.getElem?_cons_zero, List.getElem?_cons_succ, bind_ok, calm_ok, gmName_ap, tru_bool, itemsOf_list, itemsOf_tuple, Bool.not_true, Bool.not_false, Bool.false_eq_true, if_false, if_true, endOf, number_nat, fLt_N]
theorem is_bit_nat {b : Nat} (h : b < 2) : M_is_bit [iD b] = .ok (.bool true) := by
  have e : M_is_bit [iD b] = ((endOf (m_is_bit [.dat (iD b)])).bind fun p => .ok p.1) := rfl
  have q : fLe (iD b) (.int 1) = .ok (.bool true) := by rw [show (PyData.int 1) = iD 1 from rfl, fLe_N, decide_eq_true (by omega)]
  rw [e]
  unfold m_is_bit
  simp only [mSeq_ap, mAsg_ap, mIf_ap, mDrop_ap, mRet_ap, mNext_ap, mFor_ap, imRng_ap, imSeq_ap, tmB_ap, tmNot_ap, tmTru_ap, tmAnd_ap, tmOr_ap, tmYes_ap, e1_ap, e2_ap, eN_ap, lN_ap, eL_ap, lLst_ap, eCall_ap, aCons_ap, aNil_ap, eVar_ap, eC_ap, eAnd_ap, eOr_ap, eNot_ap, eIsi_ap, eIf_ap, List.set_cons_succ, List.set_cons_zero, List.getElem?_cons_zero, List.getElem?_cons_succ, bind_ok, calm_ok, gmName_ap, tru_bool, itemsOf_list, itemsOf_tuple, Bool.not_true, Bool.not_false, Bool.false_eq_true, if_false, if_true, endOf, number_nat, q]
theorem fAll_true {A : Type} (l : List A) : fAll [.list ((l.filter fun _ => true).map fun _ => PyData.bool true)] = .ok (.bool true) := by
  have e : ((l.filter fun _ => true).map fun _ => PyData.bool true) = (l.map fun _ => true).map PyData.bool := by
    rw [List.filter_eq_self.mpr fun _ _ => rfl, List.map_map]
    rfl
  rw [e]
  simp only [fAll, boolsOf_map]
  congr 2
  simp
theorem sizes_fit_ok {s : List Nat} (ps : Pos s) (h1 : 1 ≤ s.length) (h2 : s.length ≤ 1000) : M_sizes_fit [tupN s] = .ok (.bool true) := by
  have e : M_sizes_fit [tupN s] = ((endOf (m_sizes_fit [.dat (tupN s), .un])).bind fun p => .ok p.1) := rfl
  rw [e]
  unfold m_sizes_fit
  have hc := lLc_marks (j := 1) (a := eVar 0) (t := tmYes) (m := eCall M_many_fits (aCons (eVar 1) aNil)) (en := [.dat (tupN s), .un]) (ms := s) (d0 := tupN s) (fun _ => true) (fun _ => .bool true) rfl rfl (by show 1 < 2; omega) rfl (by omega) (fun i hi => ⟨rfl, fun _ => by
    simp only [mSeq_ap, mAsg_ap, mIf_ap, mDrop_ap, mRet_ap, mNext_ap, mFor_ap, imRng_ap, imSeq_ap, tmB_ap, tmNot_ap, tmTru_ap, tmAnd_ap, tmOr_ap, tmYes_ap, e1_ap, e2_ap, eN_ap, lN_ap, eL_ap, lLst_ap, eCall_ap, aCons_ap, aNil_ap, eVar_ap, eC_ap, eAnd_ap, eOr_ap, eNot_ap, eIsi_ap, eIf_ap, List.set_cons_succ, List.set_cons_zero, List.getElem?_cons_zero, List.getElem?_cons_succ, bind_ok, calm_ok, gmName_ap, tru_bool, itemsOf_list, itemsOf_tuple, Bool.not_true, Bool.not_false, Bool.false_eq_true, if_false, if_true, endOf, many_nat i (ps i hi)]⟩)
  have q : fGt (iD s.length) (.int 0) = .ok (.bool true) := by rw [show (PyData.int 0) = iD 0 from rfl, fGt_N, decide_eq_true (by omega)]
  have ht : isi .tup (tupN s) = true := rfl
  simp only [mSeq_ap, mAsg_ap, mIf_ap, mDrop_ap, mRet_ap, mNext_ap, mFor_ap, imRng_ap, imSeq_ap, tmB_ap, tmNot_ap, tmTru_ap, tmAnd_ap, tmOr_ap, tmYes_ap, e1_ap, e2_ap, eN_ap, lN_ap, eL_ap, lLst_ap, eCall_ap, aCons_ap, aNil_ap, eVar_ap, eC_ap, eAnd_ap, eOr_ap, eNot_ap, eIsi_ap, eIf_ap, List.set_cons_succ, List.set_cons_zero, List.getElem?_cons_zero, List.getElem?_cons_succ, bind_ok, calm_ok, gmName_ap, tru_bool, itemsOf_list, itemsOf_tuple, Bool.not_true, Bool.not_false, Bool.false_eq_true, if_false, if_true, endOf, fLen_tupN, q, hc, fAll_true, ht]
theorem is_sizes_ok {s t : List Nat} (W : Wd s t) : M_is_sizes [tupN s] = .ok (.bool true) := by
  have e : M_is_sizes [tupN s] = ((endOf (m_is_sizes [.dat (tupN s)])).bind fun p => .ok p.1) := rfl
  rw [e]
  unfold m_is_sizes
  simp only [mSeq_ap, mAsg_ap, mIf_ap, mDrop_ap, mRet_ap, mNext_ap, mFor_ap, imRng_ap, imSeq_ap, tmB_ap, tmNot_ap, tmTru_ap, tmAnd_ap, tmOr_ap, tmYes_ap, e1_ap, e2_ap, eN_ap, lN_ap, eL_ap, lLst_ap, eCall_ap, aCons_ap, aNil_ap, eVar_ap, eC_ap, eAnd_ap, eOr_ap, eNot_ap, eIsi_ap, eIf_ap, List.set_cons_succ, List.set_cons_zero, List.getElem?_cons_zero, List.getElem?_cons_succ, bind_ok, calm_ok, gmName_ap, tru_bool, itemsOf_list, itemsOf_tuple, Bool.not_true, Bool.not_false, Bool.false_eq_true, if_false, if_true, endOf, sizes_fit_ok W.pos W.ne (by have := W.six; omega)]
theorem prod_take (s : List Nat) (i : Nat) (h : i < s.length) : prodL (s.take (i + 1)) = prodL (s.take i) * s[i] := by
  induction s generalizing i with
  | nil => exact absurd h (Nat.not_lt_zero _)
  | cons a r ih =>
    cases i with
    | zero => simp [prodL]
    | succ i =>
      have := ih i (by rw [List.length_cons] at h; omega)
      rw [List.take_succ_cons, List.take_succ_cons, prodL, prodL, this, List.getElem_cons_succ, Nat.mul_assoc]
theorem prod_take_le {s : List Nat} (ps : Pos s) (i : Nat) : prodL (s.take i) ≤ prodL s := by
  induction s generalizing i with
  | nil => rw [List.take_nil]; exact Nat.le_refl _
  | cons a r ih =>
    cases i with
    | zero => exact prod_pos ps
    | succ i => rw [List.take_succ_cons, prodL, prodL]; exact Nat.mul_le_mul_left _ (ih ps.tail i)
theorem many_settings_ok {s : List Nat} (ps : Pos s) (hp : prodL s ≤ 64) : M_many_settings [tupN s] = .ok (iD (prodL s)) := by
  have e : M_many_settings [tupN s] = ((endOf (m_many_settings [.dat (tupN s), .un, .un])).bind fun p => .ok p.1) := rfl
  rw [e]
  obtain ⟨en', h1, v, rfl⟩ := for_items (gm := gmName 2) (b := mAsg (gmName 1) (e2 fMul (eVar 1) (eVar 2))) (enc := iD) (fun i en => ∃ v, en = [.dat (tupN s), .dat (iD (prodL (s.take i))), v]) s (k := 0) (en := [.dat (tupN s), .dat (iD 1), .un]) ⟨.un, rfl⟩ (by
    rintro i hi en ⟨v, rfl⟩
    rw [Nat.zero_add]
    refine ⟨_, .nx, [.dat (tupN s), .dat (iD (prodL (s.take (i + 1)))), .dat (iD s[i])], rfl, ?_, .inl rfl, _, rfl⟩
    have b1 := prod_take_le ps i
    have b2 : s[i] ≤ prodL s := by
      have := sz_le ps hi
      unfold sz at this
      rw [List.getD_eq_getElem?_getD, List.getElem?_eq_getElem hi] at this
      exact this
    simp only [mSeq_ap, mAsg_ap, mIf_ap, mDrop_ap, mRet_ap, mNext_ap, mFor_ap, imRng_ap, imSeq_ap, tmB_ap, tmNot_ap, tmTru_ap, tmAnd_ap, tmOr_ap, tmYes_ap, e1_ap, e2_ap, eN_ap, lN_ap, eL_ap, lLst_ap, eCall_ap, aCons_ap, aNil_ap, eVar_ap, eC_ap, eAnd_ap, eOr_ap, eNot_ap, eIsi_ap, eIf_ap, List.set_cons_succ, List.set_cons_zero, List.getElem?_cons_zero, List.getElem?_cons_succ, bind_ok, calm_ok, gmName_ap, tru_bool, itemsOf_list, itemsOf_tuple, Bool.not_true, Bool.not_false, Bool.false_eq_true, if_false, if_true, endOf, fMul_N (a := prodL (s.take i)) (b := s[i]) (by omega) (by omega)]
    rw [prod_take s i hi])
  unfold m_many_settings
  have hi : itemsOf (tupN s) = .ok (s.map iD) := rfl
  have h1' : forGo (gmName 2) (mAsg (gmName 1) (e2 fMul (eVar 1) (eVar 2))) (s.map iD) [.dat (tupN s), .dat (.int 1), .un] = _ := h1
  simp only [mSeq_ap, mAsg_ap, mIf_ap, mDrop_ap, mRet_ap, mNext_ap, mFor_ap, imRng_ap, imSeq_ap, tmB_ap, tmNot_ap, tmTru_ap, tmAnd_ap, tmOr_ap, tmYes_ap, e1_ap, e2_ap, eN_ap, lN_ap, eL_ap, lLst_ap, eCall_ap, aCons_ap, aNil_ap, eVar_ap, eC_ap, eAnd_ap, eOr_ap, eNot_ap, eIsi_ap, eIf_ap, List.set_cons_succ, List.set_cons_zero, List.getElem?_cons_zero, List.getElem?_cons_succ, bind_ok, calm_ok, gmName_ap, tru_bool, itemsOf_list, itemsOf_tuple, Bool.not_true, Bool.not_false, Bool.false_eq_true, if_false, if_true, endOf, hi, h1', Nat.zero_add, List.take_length]
theorem is_table_ok {s t : List Nat} (W : Wd s t) : M_is_table [tupN s, tupN t] = .ok (.bool true) := by
  have e : M_is_table [tupN s, tupN t] = ((endOf (m_is_table [.dat (tupN s), .dat (tupN t), .un])).bind fun p => .ok p.1) := rfl
  rw [e]
  let b1 : Sm := mIf (tmNot (tmTru (eCall M_is_bit (aCons (eVar 2) aNil)))) (mRet (eC (.bool false))) mNext
  obtain ⟨en', h1, v, rfl⟩ := for_items (gm := gmName 2) (b := b1) (enc := iD) (fun i en => ∃ v, en = [.dat (tupN s), .dat (tupN t), v]) t (k := 0) (en := [.dat (tupN s), .dat (tupN t), .un]) ⟨.un, rfl⟩ (by
    rintro i hi en ⟨v, rfl⟩
    refine ⟨_, .nx, [.dat (tupN s), .dat (tupN t), .dat (iD t[i])], rfl, ?_, .inl rfl, _, rfl⟩
    show b1 [.dat (tupN s), .dat (tupN t), .dat (iD t[i])] = _
    simp only [b1, mSeq_ap, mAsg_ap, mIf_ap, mDrop_ap, mRet_ap, mNext_ap, mFor_ap, imRng_ap, imSeq_ap, tmB_ap, tmNot_ap, tmTru_ap, tmAnd_ap, tmOr_ap, tmYes_ap, e1_ap, e2_ap, eN_ap, lN_ap, eL_ap, lLst_ap, eCall_ap, aCons_ap, aNil_ap, eVar_ap, eC_ap, eAnd_ap, eOr_ap, eNot_ap, eIsi_ap, eIf_ap, List.set_cons_succ, List.set_cons_zero, List.getElem?_cons_zero, List.getElem?_cons_succ, bind_ok, calm_ok, gmName_ap, tru_bool, itemsOf_list, itemsOf_tuple, Bool.not_true, Bool.not_false, Bool.false_eq_true, if_false, if_true, endOf, is_bit_nat (W.bit t[i] (List.getElem_mem _))])
  have em : m_is_table = mSeq (mDrop (eCall M_a_want (aCons (eCall M_is_sizes (aCons (eVar 0) aNil)) (aCons (eC (.str "sizes")) aNil)))) (mSeq (mIf (tmOr (tmNot (tmTru (eIsi .tup (eVar 1)))) (tmB (e2 fNe (eN fLen (aCons (eVar 1) aNil)) (eCall M_many_settings (aCons (eVar 0) aNil))))) (mRet (eC (.bool false))) mNext) (mSeq (mFor (imSeq (eVar 1)) (gmName 2) b1) (mRet (eC (.bool true))))) := rfl
  rw [em]
  have hi : itemsOf (tupN t) = .ok (t.map iD) := rfl
  have ht : isi .tup (tupN t) = true := rfl
  simp only [mSeq_ap, mAsg_ap, mIf_ap, mDrop_ap, mRet_ap, mNext_ap, mFor_ap, imRng_ap, imSeq_ap, tmB_ap, tmNot_ap, tmTru_ap, tmAnd_ap, tmOr_ap, tmYes_ap, e1_ap, e2_ap, eN_ap, lN_ap, eL_ap, lLst_ap, eCall_ap, aCons_ap, aNil_ap, eVar_ap, eC_ap, eAnd_ap, eOr_ap, eNot_ap, eIsi_ap, eIf_ap, List.set_cons_succ, List.set_cons_zero, List.getElem?_cons_zero, List.getElem?_cons_succ, bind_ok, calm_ok, gmName_ap, tru_bool, itemsOf_list, itemsOf_tuple, Bool.not_true, Bool.not_false, Bool.false_eq_true, if_false, if_true, endOf, is_sizes_ok W, want_true, ht, fLen_tupN, many_settings_ok W.pos W.prod, fNe_N, W.tl, decide_true, hi, h1]
end K07
end

section
set_option Elab.async false
set_option linter.all false
set_option maxRecDepth 100000
set_option maxHeartbeats 4000000
/-! K07B: spans, steps, corner places, settings by place. -/
namespace K07
open PySem PySem.Spec PyProof.Rows L2 Mir Dg
theorem eBIx_ok {i : Nat} {m : Em} {en : En} {ds : List D} {k : Int} {d : D} (ho : en[i]? = some (.own (.lst ds))) (hm : m en = .ok (.int k, en)) (ha : atI ds k = some d) : eBIx i m en = .ok (d, en) := by
  have h0 : ownL en i = some ds := by unfold ownL; rw [ho]
  unfold eBIx
  rw [h0]
  dsimp only
  rw [hm, bind_ok]
  dsimp only
  rw [h0]
  dsimp only
  rw [ha]
theorem mSetO_ok {i j : Nat} {ix m : Em} {en : En} {ds : List D} {d : D} (hm : m en = .ok (d, en)) (ho : en[i]? = some (.own (.lst ds))) (hx : ix en = .ok (iD j, en)) (hj : j < ds.length) : mSetO i ix m en = .ok (.nx, en.set i (.own (.lst (ds.set j d)))) := by
  have h0 : ownL en i = some ds := by unfold ownL; rw [ho]
  have hi : ixI ds.length (iD j) = some j := by
    show ixN ds.length (j : Int) = some j
    unfold ixN
    rw [if_pos (by omega), if_pos (by omega), Int.toNat_natCast]
  unfold mSetO
  rw [hm, bind_ok]
  dsimp only
  rw [h0]
  dsimp only
  rw [hx, bind_ok]
  dsimp only
  rw [h0]
  dsimp only
  rw [hi]
theorem mApp_ok {i : Nat} {m : Em} {en : En} {ds : List D} {d : D} (ho : en[i]? = some (.own (.lst ds))) (hm : m en = .ok (d, en)) (hl : ds.length < big) : mApp i m en = .ok (.nx, en.set i (.own (.lst (ds ++ [d])))) := by
  have h0 : ownL en i = some ds := by unfold ownL; rw [ho]
  unfold mApp
  rw [h0]
  dsimp only
  rw [hm, bind_ok]
  dsimp only
  rw [h0]
  dsimp only
  rw [if_pos hl]
/-- spans half told -/
def stL (s : List Nat) (i : Nat) : List Nat := (List.range s.length).map fun h => if s.length - 1 - i ≤ h then sp s h else 1
theorem stL_len (s : List Nat) (i : Nat) : (stL s i).length = s.length := by unfold stL; rw [List.length_map, List.length_range]
theorem stL_get {s : List Nat} {i h : Nat} (hh : h < (stL s i).length) : (stL s i)[h] = if s.length - 1 - i ≤ h then sp s h else 1 := by
  simp [stL]
theorem spans_get {s : List Nat} {h : Nat} (hh : h < (spans s).length) : (spans s)[h] = sp s h := by
  unfold sp
  rw [List.getD_eq_getElem?_getD, List.getElem?_eq_getElem hh]
  rfl
theorem get_sz {s : List Nat} {h : Nat} (hh : h < s.length) : s[h] = sz s h := by
  unfold sz
  rw [List.getD_eq_getElem?_getD, List.getElem?_eq_getElem hh]
  rfl
theorem stL_zero {s : List Nat} (h1 : 1 ≤ s.length) : stL s 0 = s.map fun _ => 1 := by
  apply List.ext_getElem
  · rw [stL_len, List.length_map]
  · intro h a b
    rw [stL_get a, List.getElem_map]
    rw [stL_len] at a
    by_cases q : s.length - 1 - 0 ≤ h
    · rw [if_pos q]
      have : h = s.length - 1 := by omega
      rw [this]
      exact sp_last (by intro z; rw [z] at h1; simp at h1)
    · rw [if_neg q]
theorem stL_step {s : List Nat} {i : Nat} (hi : i + 1 < s.length) : (stL s i).set (s.length - 2 - i) (sp s (s.length - 1 - i) * sz s (s.length - 1 - i)) = stL s (i + 1) := by
  apply List.ext_getElem
  · rw [List.length_set, stL_len, stL_len]
  · intro h a b
    rw [List.length_set, stL_len] at a
    rw [List.getElem_set, stL_get (by rw [stL_len]; exact a), stL_get (by rw [stL_len]; exact a)]
    by_cases q : s.length - 2 - i = h
    · rw [if_pos q, if_pos (by omega)]
      have e : h + 1 = s.length - 1 - i := by omega
      rw [← e]
      exact (sp_step (by omega)).symm
    · rw [if_neg q]
      by_cases r : s.length - 1 - i ≤ h
      · rw [if_pos r, if_pos (by omega)]
      · rw [if_neg r, if_neg (by omega)]
theorem stL_all {s : List Nat} (h1 : 1 ≤ s.length) : stL s (s.length - 1) = spans s := by
  apply List.ext_getElem
  · rw [stL_len, spans_len]
  · intro h a b
    rw [stL_get a, spans_get b, if_pos (by omega)]
section
variable {s t : List Nat}
theorem spans_of_ok (W : Wd s t) : M_spans_of [tupN s] = .ok (.list ((spans s).map iD)) := by
  have h1 := W.ne
  have h6 := W.six
  have hp := W.prod
  have e : M_spans_of [tupN s] = ((endOf (m_spans_of [.dat (tupN s), .un, .un, .un])).bind fun p => .ok p.1) := rfl
  rw [e]
  let b1 : Sm := mSetO 1 (eVar 2) (e2 fMul (eBIx 1 (e2 fAdd (eVar 2) (eC (.int 1)))) (e2 fIx (eVar 0) (e2 fAdd (eVar 2) (eC (.int 1)))))
  have em : m_spans_of = mSeq (mAsgO 1 (lLc (imSeq (eVar 0)) [3] (gmName 3) tmYes (eC (.int 1)))) (mSeq (mFor (imRng rng3 (aCons (e2 fSub (eN fLen (aCons (eVar 0) aNil)) (eC (.int 2))) (aCons (e1 fNeg (eC (.int 1))) (aCons (e1 fNeg (eC (.int 1))) aNil)))) (gmName 2) b1) (mRet (eVar 1))) := rfl
  have hc := lLc_marks (j := 3) (a := eVar 0) (t := tmYes) (m := eC (.int 1)) (en := [.dat (tupN s), .un, .un, .un]) (ms := s) (d0 := tupN s) (fun _ => true) (fun _ => .int 1) rfl rfl (by show 3 < 4; omega) rfl (by omega) (fun i hi => ⟨rfl, fun _ => rfl⟩)
  have hc1 : (s.filter fun _ => true).map (fun _ => PyData.int 1) = (stL s 0).map iD := by
    rw [stL_zero h1, List.filter_eq_self.mpr fun _ _ => rfl, List.map_map]
    rfl
  rw [hc1] at hc
  obtain ⟨en', hf, v, rfl⟩ := for_items (gm := gmName 2) (b := b1) (enc := fun i : Nat => PyData.int (((s.length : Nat) : Int) - 2 + (i : Nat) * (-1))) (fun i en => ∃ v, en = [.dat (tupN s), .own (.lst ((stL s i).map iD)), v, .un]) (List.range (s.length - 1)) (k := 0) (en := [.dat (tupN s), .own (.lst ((stL s 0).map iD)), .un, .un]) ⟨.un, rfl⟩ (by
    rintro i hi en ⟨v, rfl⟩
    rw [List.length_range] at hi
    rw [Nat.zero_add, List.getElem_range]
    have ei : ((s.length : Nat) : Int) - 2 + (i : Nat) * (-1) = ((s.length - 2 - i : Nat) : Int) := by omega
    refine ⟨_, .nx, [.dat (tupN s), .own (.lst ((stL s (i + 1)).map iD)), .dat (iD (s.length - 2 - i)), .un], by rw [ei]; rfl, ?_, .inl rfl, _, rfl⟩
    show b1 [.dat (tupN s), .own (.lst ((stL s i).map iD)), .dat (iD (s.length - 2 - i)), .un] = _
    have hx : e2 fAdd (eVar 2) (eC (.int 1)) [.dat (tupN s), .own (.lst ((stL s i).map iD)), .dat (iD (s.length - 2 - i)), .un] = .ok (iD (s.length - 1 - i), [.dat (tupN s), .own (.lst ((stL s i).map iD)), .dat (iD (s.length - 2 - i)), .un]) := by
      have : fAdd (iD (s.length - 2 - i)) (.int 1) = .ok (iD (s.length - 1 - i)) := by
        rw [show (PyData.int 1) = iD 1 from rfl, fAdd_N]
        congr 2
        omega
      simp only [mSeq_ap, mAsg_ap, mIf_ap, mDrop_ap, mRet_ap, mNext_ap, mFor_ap, imRng_ap, imSeq_ap, tmB_ap, tmNot_ap, tmTru_ap, tmAnd_ap, tmOr_ap, tmYes_ap, e1_ap, e2_ap, eN_ap, lN_ap, eL_ap, lLst_ap, eCall_ap, aCons_ap, aNil_ap, eVar_ap, eC_ap, eAnd_ap, eOr_ap, eNot_ap, eIsi_ap, eIf_ap, List.set_cons_succ, List.set_cons_zero, List.getElem?_cons_zero, List.getElem?_cons_succ, bind_ok, calm_ok, gmName_ap, tru_bool, itemsOf_list, itemsOf_tuple, Bool.not_true, Bool.not_false, Bool.false_eq_true, if_false, if_true, endOf, this]
    have hb := eBIx_ok (i := 1) (ds := (stL s i).map iD) (d := iD (sp s (s.length - 1 - i))) (k := ((s.length - 1 - i : Nat) : Int)) rfl hx (by
      rw [atI_N (stL s i) (s.length - 1 - i) (by rw [stL_len]; omega), stL_get, if_pos (Nat.le_refl _)])
    have hm : e2 fMul (eBIx 1 (e2 fAdd (eVar 2) (eC (.int 1)))) (e2 fIx (eVar 0) (e2 fAdd (eVar 2) (eC (.int 1)))) [.dat (tupN s), .own (.lst ((stL s i).map iD)), .dat (iD (s.length - 2 - i)), .un] = .ok (iD (sp s (s.length - 1 - i) * sz s (s.length - 1 - i)), [.dat (tupN s), .own (.lst ((stL s i).map iD)), .dat (iD (s.length - 2 - i)), .un]) := by
      have q1 := sp_le W.pos (h := s.length - 1 - i) (by omega)
      have q2 := sz_le W.pos (h := s.length - 1 - i) (by omega)
      rw [e2_ap, hb, bind_ok]
      dsimp only
      rw [e2_ap]
      have e0 : eVar 0 [.dat (tupN s), .own (.lst ((stL s i).map iD)), .dat (iD (s.length - 2 - i)), .un] = .ok (tupN s, [.dat (tupN s), .own (.lst ((stL s i).map iD)), .dat (iD (s.length - 2 - i)), .un]) := rfl
      rw [e0, bind_ok]
      dsimp only
      rw [hx, bind_ok]
      dsimp only
      rw [fIx_tupN s (s.length - 1 - i) (by omega), get_sz, calm_ok, bind_ok, bind_ok, fMul_N (by omega) (by omega)]
      rfl
    have := mSetO_ok (i := 1) (ix := eVar 2) (j := s.length - 2 - i) (ds := (stL s i).map iD) hm rfl rfl (by rw [List.length_map, stL_len]; omega)
    show mSetO 1 (eVar 2) _ _ = _
    rw [this]
    have es : ((stL s i).map iD).set (s.length - 2 - i) (iD (sp s (s.length - 1 - i) * sz s (s.length - 1 - i))) = (stL s (i + 1)).map iD := by
      rw [← stL_step (by omega), List.map_set]
    rw [es]
    rfl)
  rw [List.length_range, Nat.zero_add, stL_all h1] at hf
  have hr : rng3 [.int ((s.length : Int) - 2), .int (-1), .int (-1)] = .ok ((List.range (s.length - 1)).map fun i : Nat => PyData.int (((s.length : Nat) : Int) - 2 + (i : Nat) * (-1))) := by
    have : rng3 [.int ((s.length : Int) - 2), .int (-1), .int (-1)] = if (-1 : Int) = -1 ∧ ((s.length : Int) - 2 ≤ 100000 ∧ -100000 ≤ (s.length : Int) - 2) ∧ (-1 : Int) ≤ 100000 ∧ -100000 ≤ (-1 : Int) then .ok (downD ((s.length : Int) - 2) ((s.length : Int) - 2 - (-1)).toNat) else .stk := rfl
    rw [this, if_pos ⟨rfl, ⟨by omega, by omega⟩, by omega, by omega⟩]
    unfold downD
    have e2 : ((s.length : Int) - 2 - (-1)).toNat = s.length - 1 := by omega
    rw [e2]
  rw [em, mSeq_nx (en1 := [.dat (tupN s), .own (.lst ((stL s 0).map iD)), .un, .un]) (by rw [mAsgO_ap, hc]; rfl)]
  rw [mSeq_nx (en1 := [.dat (tupN s), .own (.lst ((spans s).map iD)), v, .un]) (by
    have hs : fSub (iD s.length) (.int 2) = .ok (.int ((s.length : Int) - 2)) := rfl
    simp only [mSeq_ap, mAsg_ap, mIf_ap, mDrop_ap, mRet_ap, mNext_ap, mFor_ap, imRng_ap, imSeq_ap, tmB_ap, tmNot_ap, tmTru_ap, tmAnd_ap, tmOr_ap, tmYes_ap, e1_ap, e2_ap, eN_ap, lN_ap, eL_ap, lLst_ap, eCall_ap, aCons_ap, aNil_ap, eVar_ap, eC_ap, eAnd_ap, eOr_ap, eNot_ap, eIsi_ap, eIf_ap, List.set_cons_succ, List.set_cons_zero, List.getElem?_cons_zero, List.getElem?_cons_succ, bind_ok, calm_ok, gmName_ap, tru_bool, itemsOf_list, itemsOf_tuple, Bool.not_true, Bool.not_false, Bool.false_eq_true, if_false, if_true, endOf, fLen_tupN, hs, fNeg_int, hr, hf])]
  rfl
theorem steps_ok (W : Wd s t) : M__law_steps [tupN s] = .ok (.list ((spans s).map iD)) := by
  have h1 := W.ne
  have h6 := W.six
  have hp := W.prod
  have e : M__law_steps [tupN s] = ((endOf (m__law_steps [.dat (tupN s), .un, .un, .un])).bind fun p => .ok p.1) := rfl
  rw [e]
  let b1 : Sm := mSeq (mAsg (gmName 3) (e2 fSub (e2 fSub (eN fLen (aCons (eVar 0) aNil)) (eC (.int 1))) (eVar 2))) (mSetO 1 (eVar 3) (e2 fMul (eBIx 1 (e2 fAdd (eVar 3) (eC (.int 1)))) (e2 fIx (eVar 0) (e2 fAdd (eVar 3) (eC (.int 1))))))
  have em : m__law_steps = mSeq (mAsgO 1 (lRep (lLst (aCons (eC (.int 1)) aNil)) (eN fLen (aCons (eVar 0) aNil)))) (mSeq (mFor (imRng rng2 (aCons (eC (.int 1)) (aCons (eN fLen (aCons (eVar 0) aNil)) aNil))) (gmName 2) b1) (mRet (eVar 1))) := rfl
  obtain ⟨en', hf, v, w, rfl⟩ := for_rng2 (j := 2) (a := 1) (b := s.length) (bd := b1) (fun i en => ∃ v w, en = [.dat (tupN s), .own (.lst ((stL s i).map iD)), v, w]) (en := [.dat (tupN s), .own (.lst ((stL s 0).map iD)), .un, .un]) ⟨.un, .un, rfl⟩ (by
    rintro i en hi ⟨v, w, rfl⟩
    refine ⟨.nx, [.dat (tupN s), .own (.lst ((stL s (i + 1)).map iD)), .dat (iD (1 + i)), .dat (iD (s.length - 2 - i))], ?_, .inl rfl, _, _, rfl⟩
    show b1 [.dat (tupN s), .own (.lst ((stL s i).map iD)), .dat (iD (1 + i)), w] = _
    have hh : mAsg (gmName 3) (e2 fSub (e2 fSub (eN fLen (aCons (eVar 0) aNil)) (eC (.int 1))) (eVar 2)) [.dat (tupN s), .own (.lst ((stL s i).map iD)), .dat (iD (1 + i)), w] = .ok (.nx, [.dat (tupN s), .own (.lst ((stL s i).map iD)), .dat (iD (1 + i)), .dat (iD (s.length - 2 - i))]) := by
      have s1 : fSub (iD s.length) (.int 1) = .ok (iD (s.length - 1)) := fSub_N (b := 1) h1
      have s2 : fSub (iD (s.length - 1)) (iD (1 + i)) = .ok (iD (s.length - 2 - i)) := by
        rw [fSub_N (by omega)]
        congr 2
        omega
      simp only [mSeq_ap, mAsg_ap, mIf_ap, mDrop_ap, mRet_ap, mNext_ap, mFor_ap, imRng_ap, imSeq_ap, tmB_ap, tmNot_ap, tmTru_ap, tmAnd_ap, tmOr_ap, tmYes_ap, e1_ap, e2_ap, eN_ap, lN_ap, eL_ap, lLst_ap, eCall_ap, aCons_ap, aNil_ap, eVar_ap, eC_ap, eAnd_ap, eOr_ap, eNot_ap, eIsi_ap, eIf_ap, List.set_cons_succ, List.set_cons_zero, List.getElem?_cons_zero, List.getElem?_cons_succ, bind_ok, calm_ok, gmName_ap, tru_bool, itemsOf_list, itemsOf_tuple, Bool.not_true, Bool.not_false, Bool.false_eq_true, if_false, if_true, endOf, fLen_tupN, s1, s2]
    show mSeq _ _ _ = _
    rw [mSeq_nx hh]
    have hx : e2 fAdd (eVar 3) (eC (.int 1)) [.dat (tupN s), .own (.lst ((stL s i).map iD)), .dat (iD (1 + i)), .dat (iD (s.length - 2 - i))] = .ok (iD (s.length - 1 - i), [.dat (tupN s), .own (.lst ((stL s i).map iD)), .dat (iD (1 + i)), .dat (iD (s.length - 2 - i))]) := by
      have : fAdd (iD (s.length - 2 - i)) (.int 1) = .ok (iD (s.length - 1 - i)) := by
        rw [show (PyData.int 1) = iD 1 from rfl, fAdd_N]
        congr 2
        omega
      simp only [mSeq_ap, mAsg_ap, mIf_ap, mDrop_ap, mRet_ap, mNext_ap, mFor_ap, imRng_ap, imSeq_ap, tmB_ap, tmNot_ap, tmTru_ap, tmAnd_ap, tmOr_ap, tmYes_ap, e1_ap, e2_ap, eN_ap, lN_ap, eL_ap, lLst_ap, eCall_ap, aCons_ap, aNil_ap, eVar_ap, eC_ap, eAnd_ap, eOr_ap, eNot_ap, eIsi_ap, eIf_ap, List.set_cons_succ, List.set_cons_zero, List.getElem?_cons_zero, List.getElem?_cons_succ, bind_ok, calm_ok, gmName_ap, tru_bool, itemsOf_list, itemsOf_tuple, Bool.not_true, Bool.not_false, Bool.false_eq_true, if_false, if_true, endOf, this]
    have hb := eBIx_ok (i := 1) (ds := (stL s i).map iD) (d := iD (sp s (s.length - 1 - i))) (k := ((s.length - 1 - i : Nat) : Int)) rfl hx (by
      rw [atI_N (stL s i) (s.length - 1 - i) (by rw [stL_len]; omega), stL_get, if_pos (Nat.le_refl _)])
    have hm : e2 fMul (eBIx 1 (e2 fAdd (eVar 3) (eC (.int 1)))) (e2 fIx (eVar 0) (e2 fAdd (eVar 3) (eC (.int 1)))) [.dat (tupN s), .own (.lst ((stL s i).map iD)), .dat (iD (1 + i)), .dat (iD (s.length - 2 - i))] = .ok (iD (sp s (s.length - 1 - i) * sz s (s.length - 1 - i)), [.dat (tupN s), .own (.lst ((stL s i).map iD)), .dat (iD (1 + i)), .dat (iD (s.length - 2 - i))]) := by
      have q1 := sp_le W.pos (h := s.length - 1 - i) (by omega)
      have q2 := sz_le W.pos (h := s.length - 1 - i) (by omega)
      rw [e2_ap, hb, bind_ok]
      dsimp only
      rw [e2_ap]
      have e0 : eVar 0 [.dat (tupN s), .own (.lst ((stL s i).map iD)), .dat (iD (1 + i)), .dat (iD (s.length - 2 - i))] = .ok (tupN s, [.dat (tupN s), .own (.lst ((stL s i).map iD)), .dat (iD (1 + i)), .dat (iD (s.length - 2 - i))]) := rfl
      rw [e0, bind_ok]
      dsimp only
      rw [hx, bind_ok]
      dsimp only
      rw [fIx_tupN s (s.length - 1 - i) (by omega), get_sz, calm_ok, bind_ok, bind_ok, fMul_N (by omega) (by omega)]
      rfl
    have := mSetO_ok (i := 1) (ix := eVar 3) (j := s.length - 2 - i) (ds := (stL s i).map iD) hm rfl rfl (by rw [List.length_map, stL_len]; omega)
    rw [this]
    have es : ((stL s i).map iD).set (s.length - 2 - i) (iD (sp s (s.length - 1 - i) * sz s (s.length - 1 - i))) = (stL s (i + 1)).map iD := by
      rw [← stL_step (by omega), List.map_set]
    rw [es]
    rfl)
  rw [stL_all h1] at hf
  have hrep : lRep (lLst (aCons (eC (.int 1)) aNil)) (eN fLen (aCons (eVar 0) aNil)) [.dat (tupN s), .un, .un, .un] = .ok ((stL s 0).map iD, [.dat (tupN s), .un, .un, .un]) := by
    unfold lRep
    have hl : lLst (aCons (eC (.int 1)) aNil) [.dat (tupN s), .un, .un, .un] = .ok ([.int 1], [.dat (tupN s), .un, .un, .un]) := rfl
    rw [hl, bind_ok]
    dsimp only
    have hn : eN fLen (aCons (eVar 0) aNil) [.dat (tupN s), .un, .un, .un] = .ok (iD s.length, [.dat (tupN s), .un, .un, .un]) := by simp only [mSeq_ap, mAsg_ap, mIf_ap, mDrop_ap, mRet_ap, mNext_ap, mFor_ap, imRng_ap, imSeq_ap, tmB_ap, tmNot_ap, tmTru_ap, tmAnd_ap, tmOr_ap, tmYes_ap, e1_ap, e2_ap, eN_ap, lN_ap, eL_ap, lLst_ap, eCall_ap, aCons_ap, aNil_ap, eVar_ap, eC_ap, eAnd_ap, eOr_ap, eNot_ap, eIsi_ap, eIf_ap, List.set_cons_succ, List.set_cons_zero, List.getElem?_cons_zero, List.getElem?_cons_succ, bind_ok, calm_ok, gmName_ap, tru_bool, itemsOf_list, itemsOf_tuple, Bool.not_true, Bool.not_false, Bool.false_eq_true, if_false, if_true, endOf, fLen_tupN]
    rw [hn, bind_ok]
    dsimp only
    rw [if_pos ⟨⟨by omega, by omega⟩, by show 1 * _ ≤ 100000; rw [Int.toNat_natCast]; omega⟩, Int.toNat_natCast, stL_zero h1]
    congr 2
    have : ∀ n : Nat, (List.replicate n [PyData.int 1]).flatten = List.replicate n (PyData.int 1) := fun n => by
      induction n with
      | zero => rfl
      | succ n ih => rw [List.replicate_succ, List.flatten_cons, ih, List.replicate_succ]; rfl
    rw [this, List.map_map]
    symm
    rw [List.eq_replicate_iff]
    exact ⟨by rw [List.length_map], fun b hb => by
      obtain ⟨x, _, rfl⟩ := List.mem_map.mp hb
      rfl⟩
  rw [em, mSeq_nx (en1 := [.dat (tupN s), .own (.lst ((stL s 0).map iD)), .un, .un]) (by rw [mAsgO_ap, hrep]; rfl)]
  rw [mSeq_nx (en1 := [.dat (tupN s), .own (.lst ((spans s).map iD)), v, w]) (by
    have hr : rng2 [.int 1, iD s.length] = .ok ((rngN 1 s.length).map iD) := rng2_N 1 s.length (by omega) (by omega)
    simp only [mSeq_ap, mAsg_ap, mIf_ap, mDrop_ap, mRet_ap, mNext_ap, mFor_ap, imRng_ap, imSeq_ap, tmB_ap, tmNot_ap, tmTru_ap, tmAnd_ap, tmOr_ap, tmYes_ap, e1_ap, e2_ap, eN_ap, lN_ap, eL_ap, lLst_ap, eCall_ap, aCons_ap, aNil_ap, eVar_ap, eC_ap, eAnd_ap, eOr_ap, eNot_ap, eIsi_ap, eIf_ap, List.set_cons_succ, List.set_cons_zero, List.getElem?_cons_zero, List.getElem?_cons_succ, bind_ok, calm_ok, gmName_ap, tru_bool, itemsOf_list, itemsOf_tuple, Bool.not_true, Bool.not_false, Bool.false_eq_true, if_false, if_true, endOf, fLen_tupN, hr, hf])]
  rfl
end
end K07
end

section
set_option Elab.async false
set_option linter.all false
set_option maxRecDepth 100000
set_option maxHeartbeats 4000000
/-! K07C: settings by place, corner places, places by settings, all settings, sums on lots. -/
namespace K07
open PySem PySem.Spec PyProof.Rows L2 Mir Dg
section
variable {s t : List Nat}
theorem setting_by_ok (W : Wd s t) (p : Nat) : M_setting_by [tupN s, iD p] = .ok (tupN (digs s p)) := by
  have h6 := W.six
  have hp := W.prod
  have e : M_setting_by [tupN s, iD p] = ((endOf (m_setting_by [.dat (tupN s), .dat (iD p), .un, .un])).bind fun p => .ok p.1) := rfl
  rw [e]
  have hc := lLc_nat (j := 3) (a := aCons (eN fLen (aCons (eVar 0) aNil)) aNil) (t := tmYes) (m := e2 fMod (e2 fDiv (eVar 1) (e2 fIx (eVar 2) (eVar 3))) (e2 fIx (eVar 0) (eVar 3))) (en := [.dat (tupN s), .dat (iD p), .dat (.list ((spans s).map iD)), .un]) (n := s.length) (fun _ => true) (fun h => iD (dg s h p)) (by
    simp only [mSeq_ap, mAsg_ap, mIf_ap, mDrop_ap, mRet_ap, mNext_ap, mFor_ap, imRng_ap, imSeq_ap, tmB_ap, tmNot_ap, tmTru_ap, tmAnd_ap, tmOr_ap, tmYes_ap, e1_ap, e2_ap, eN_ap, lN_ap, eL_ap, lLst_ap, eCall_ap, aCons_ap, aNil_ap, eVar_ap, eC_ap, eAnd_ap, eOr_ap, eNot_ap, eIsi_ap, eIf_ap, List.set_cons_succ, List.set_cons_zero, List.getElem?_cons_zero, List.getElem?_cons_succ, bind_ok, calm_ok, gmName_ap, tru_bool, itemsOf_list, itemsOf_tuple, Bool.not_true, Bool.not_false, Bool.false_eq_true, if_false, if_true, endOf, fLen_tupN]) (by show 3 < 4; omega) rfl (by omega) (fun h hh => ⟨rfl, fun _ => by
    have q1 := sp_pos W.pos hh
    have q2 := sp_le W.pos hh
    have q3 := sz_pos W.pos hh
    have i1 : fIx (.list ((spans s).map iD)) (.int (h : Int)) = .ok (iD (sp s h)) := by
      have := fIx_listN (spans s) h (by rw [spans_len]; exact hh)
      rw [spans_get] at this
      exact this
    have i2 : fIx (tupN s) (.int (h : Int)) = .ok (iD (sz s h)) := by
      have := fIx_tupN s h hh
      rw [get_sz] at this
      exact this
    simp only [mSeq_ap, mAsg_ap, mIf_ap, mDrop_ap, mRet_ap, mNext_ap, mFor_ap, imRng_ap, imSeq_ap, tmB_ap, tmNot_ap, tmTru_ap, tmAnd_ap, tmOr_ap, tmYes_ap, e1_ap, e2_ap, eN_ap, lN_ap, eL_ap, lLst_ap, eCall_ap, aCons_ap, aNil_ap, eVar_ap, eC_ap, eAnd_ap, eOr_ap, eNot_ap, eIsi_ap, eIf_ap, List.set_cons_succ, List.set_cons_zero, List.getElem?_cons_zero, List.getElem?_cons_succ, bind_ok, calm_ok, gmName_ap, tru_bool, itemsOf_list, itemsOf_tuple, Bool.not_true, Bool.not_false, Bool.false_eq_true, if_false, if_true, endOf, i1, i2, fDiv_N q1 (by omega : sp s h < 2 ^ 62), fMod_N q3]
    rfl⟩)
  unfold m_setting_by
  have hd : PyData.tuple ((List.range s.length).map fun h => iD (dg s h p)) = tupN (digs s p) := by
    unfold tupN digs
    rw [List.map_map]
    rfl
  have hf : ((List.range s.length).filter fun _ => true) = List.range s.length := List.filter_eq_self.mpr fun _ _ => rfl
  simp only [mSeq_ap, mAsg_ap, mIf_ap, mDrop_ap, mRet_ap, mNext_ap, mFor_ap, imRng_ap, imSeq_ap, tmB_ap, tmNot_ap, tmTru_ap, tmAnd_ap, tmOr_ap, tmYes_ap, e1_ap, e2_ap, eN_ap, lN_ap, eL_ap, lLst_ap, eCall_ap, aCons_ap, aNil_ap, eVar_ap, eC_ap, eAnd_ap, eOr_ap, eNot_ap, eIsi_ap, eIf_ap, List.set_cons_succ, List.set_cons_zero, List.getElem?_cons_zero, List.getElem?_cons_succ, bind_ok, calm_ok, gmName_ap, tru_bool, itemsOf_list, itemsOf_tuple, Bool.not_true, Bool.not_false, Bool.false_eq_true, if_false, if_true, endOf, spans_of_ok W, hc, hf, fTuple_list, hd]
def crM : Em := e2 fAdd (eVar 5) (e2 fMul (eVar 6) (e2 fIx (eVar 2) (eVar 4)))
def crI : Im := imRng rng1 (aCons (e2 fIx (eVar 0) (eVar 4)) aNil)
theorem corner_lc (W : Wd s t) {h : Nat} (hh : h < s.length) (LOT : D) (v3 : SV) : ∀ xs : List Nat, lc2Go [5, 6] [6] (gmName 5) tmYes crI (gmName 6) tmYes crM (xs.map iD) [.dat (tupN s), .dat LOT, .dat (.list ((spans s).map iD)), v3, .dat (iD h), .un, .un] = .ok ((cstep s xs h).map iD, [.dat (tupN s), .dat LOT, .dat (.list ((spans s).map iD)), v3, .dat (iD h), .un, .un])
  | [] => rfl
  | p :: xs => by
    have q2 := sp_le W.pos hh
    have q3 := sz_le W.pos hh
    have hp := W.prod
    have ih := corner_lc W hh LOT v3 xs
    have i1 : fIx (.list ((spans s).map iD)) (iD h) = .ok (iD (sp s h)) := by
      have := fIx_listN (spans s) h (by rw [spans_len]; exact hh)
      rw [spans_get] at this
      exact this
    have i2 : fIx (tupN s) (iD h) = .ok (iD (sz s h)) := by
      have := fIx_tupN s h hh
      rw [get_sz] at this
      exact this
    have hI : crI [.dat (tupN s), .dat LOT, .dat (.list ((spans s).map iD)), v3, .dat (iD h), .dat (iD p), .un] = .ok ((List.range (sz s h)).map fun i : Nat => PyData.int (i : Nat), [.dat (tupN s), .dat LOT, .dat (.list ((spans s).map iD)), v3, .dat (iD h), .dat (iD p), .un]) := by
      unfold crI
      simp only [mSeq_ap, mAsg_ap, mIf_ap, mDrop_ap, mRet_ap, mNext_ap, mFor_ap, imRng_ap, imSeq_ap, tmB_ap, tmNot_ap, tmTru_ap, tmAnd_ap, tmOr_ap, tmYes_ap, e1_ap, e2_ap, eN_ap, lN_ap, eL_ap, lLst_ap, eCall_ap, aCons_ap, aNil_ap, eVar_ap, eC_ap, eAnd_ap, eOr_ap, eNot_ap, eIsi_ap, eIf_ap, List.set_cons_succ, List.set_cons_zero, List.getElem?_cons_zero, List.getElem?_cons_succ, bind_ok, calm_ok, gmName_ap, tru_bool, itemsOf_list, itemsOf_tuple, Bool.not_true, Bool.not_false, Bool.false_eq_true, if_false, if_true, endOf, i2, rng1_nat (by omega : sz s h ≤ 100000)]
    have hg := lcGo_pure (j := 6) (t := tmYes) (m := crM) (en := [.dat (tupN s), .dat LOT, .dat (.list ((spans s).map iD)), v3, .dat (iD h), .dat (iD p), .un]) (b := fun _ => true) (f := fun d => match d with | .int c => .int ((p : Int) + c * (sp s h : Int)) | _ => .none) (ds := (List.range (sz s h)).map fun i : Nat => PyData.int (i : Nat)) (fun d hd => by
      obtain ⟨c, hc, rfl⟩ := List.mem_map.mp hd
      have hc' := List.mem_range.mp hc
      refine ⟨rfl, fun _ => ?_⟩
      unfold crM
      have e6 : (PyData.int (c : Int)) = iD c := rfl
      simp only [mSeq_ap, mAsg_ap, mIf_ap, mDrop_ap, mRet_ap, mNext_ap, mFor_ap, imRng_ap, imSeq_ap, tmB_ap, tmNot_ap, tmTru_ap, tmAnd_ap, tmOr_ap, tmYes_ap, e1_ap, e2_ap, eN_ap, lN_ap, eL_ap, lLst_ap, eCall_ap, aCons_ap, aNil_ap, eVar_ap, eC_ap, eAnd_ap, eOr_ap, eNot_ap, eIsi_ap, eIf_ap, List.set_cons_succ, List.set_cons_zero, List.getElem?_cons_zero, List.getElem?_cons_succ, bind_ok, calm_ok, gmName_ap, tru_bool, itemsOf_list, itemsOf_tuple, Bool.not_true, Bool.not_false, Bool.false_eq_true, if_false, if_true, endOf, e6, i1, fMul_N (by omega : c < 2 ^ 62) (by omega : sp s h < 2 ^ 62), fAdd_N]
      have ez : ((p : Int) + (c : Int) * (sp s h : Int)) = ((p + c * sp s h : Nat) : Int) := by rw [Int.natCast_add, Int.natCast_mul]
      rw [ez])
    rw [List.map_cons]
    unfold lc2Go
    have eg : gmName 5 (iD p) [.dat (tupN s), .dat LOT, .dat (.list ((spans s).map iD)), v3, .dat (iD h), .un, .un] = .ok [.dat (tupN s), .dat LOT, .dat (.list ((spans s).map iD)), v3, .dat (iD h), .dat (iD p), .un] := rfl
    rw [eg, calm_ok, bind_ok, tmYes_ap, calm_ok, bind_ok, if_pos rfl, hI, calm_ok, bind_ok, if_pos ⟨rfl, by rw [List.length_map, List.length_range]; omega⟩]
    have ew : wipeE [.dat (tupN s), .dat LOT, .dat (.list ((spans s).map iD)), v3, .dat (iD h), .dat (iD p), .un] [6] = [.dat (tupN s), .dat LOT, .dat (.list ((spans s).map iD)), v3, .dat (iD h), .dat (iD p), .un].set 6 .un := rfl
    dsimp only
    rw [ew, hg, calm_ok, bind_ok]
    have ew2 : wipeE ([.dat (tupN s), .dat LOT, .dat (.list ((spans s).map iD)), v3, .dat (iD h), .dat (iD p), .un].set 6 .un) [5, 6] = [.dat (tupN s), .dat LOT, .dat (.list ((spans s).map iD)), v3, .dat (iD h), .un, .un] := rfl
    dsimp only
    rw [ew2, ih, bind_ok]
    congr 2
    unfold cstep
    rw [List.flatMap_cons, List.map_append, List.filter_eq_self.mpr fun _ _ => rfl, List.map_map, List.map_map]
    congr 1
theorem corner_ok (W : Wd s t) {lot : List Nat} (hl : Lot s.length lot) {LOT : D} (hi : itemsOf LOT = .ok (lot.map iD)) : M_corner_places [tupN s, LOT] = .ok (.list ((corner s lot).map iD)) := by
  have h6 := W.six
  have hp := W.prod
  have e : M_corner_places [tupN s, LOT] = ((endOf (m_corner_places [.dat (tupN s), .dat LOT, .un, .un, .un, .un, .un])).bind fun p => .ok p.1) := rfl
  rw [e]
  let b1 : Sm := mAsg (gmName 3) (eL (lLc2 (imSeq (eVar 3)) [5, 6] [6] (gmName 5) tmYes crI (gmName 6) tmYes crM))
  obtain ⟨en', hf, v4, rfl⟩ := for_items (gm := gmName 4) (b := b1) (enc := iD) (fun i en => ∃ v4, en = [.dat (tupN s), .dat LOT, .dat (.list ((spans s).map iD)), .dat (.list ((corner s (lot.take i)).map iD)), v4, .un, .un]) lot (k := 0) (en := [.dat (tupN s), .dat LOT, .dat (.list ((spans s).map iD)), .dat (.list ([0].map iD)), .un, .un, .un]) ⟨.un, rfl⟩ (by
    rintro i hi en ⟨v4, rfl⟩
    rw [Nat.zero_add]
    refine ⟨_, .nx, [.dat (tupN s), .dat LOT, .dat (.list ((spans s).map iD)), .dat (.list ((corner s (lot.take (i + 1))).map iD)), .dat (iD lot[i]), .un, .un], rfl, ?_, .inl rfl, _, rfl⟩
    show b1 [.dat (tupN s), .dat LOT, .dat (.list ((spans s).map iD)), .dat (.list ((corner s (lot.take i)).map iD)), .dat (iD lot[i]), .un, .un] = _
    have hlen : (corner s (lot.take i)).length ≤ 64 := by
      unfold corner
      rw [cornerF_len, List.length_singleton, Nat.one_mul]
      exact Nat.le_trans ((hl.take i).prod W.pos) hp
    have hlt : lot[i] < s.length := hl.lt _ (List.getElem_mem _)
    have hc : lLc2 (imSeq (eVar 3)) [5, 6] [6] (gmName 5) tmYes crI (gmName 6) tmYes crM [.dat (tupN s), .dat LOT, .dat (.list ((spans s).map iD)), .dat (.list ((corner s (lot.take i)).map iD)), .dat (iD lot[i]), .un, .un] = .ok ((cstep s (corner s (lot.take i)) lot[i]).map iD, [.dat (tupN s), .dat LOT, .dat (.list ((spans s).map iD)), .dat (.list ((corner s (lot.take i)).map iD)), .dat (iD lot[i]), .un, .un]) := by
      unfold lLc2
      have hI : imSeq (eVar 3) [.dat (tupN s), .dat LOT, .dat (.list ((spans s).map iD)), .dat (.list ((corner s (lot.take i)).map iD)), .dat (iD lot[i]), .un, .un] = .ok ((corner s (lot.take i)).map iD, [.dat (tupN s), .dat LOT, .dat (.list ((spans s).map iD)), .dat (.list ((corner s (lot.take i)).map iD)), .dat (iD lot[i]), .un, .un]) := rfl
      rw [hI, bind_ok, if_pos ⟨rfl, by rw [List.length_map]; omega⟩]
      have ew : wipeE [.dat (tupN s), .dat LOT, .dat (.list ((spans s).map iD)), .dat (.list ((corner s (lot.take i)).map iD)), .dat (iD lot[i]), .un, .un] [5, 6] = [.dat (tupN s), .dat LOT, .dat (.list ((spans s).map iD)), .dat (.list ((corner s (lot.take i)).map iD)), .dat (iD lot[i]), .un, .un] := rfl
      dsimp only
      rw [ew, corner_lc W hlt, calm_ok, bind_ok]
      rfl
    have et : cstep s (corner s (lot.take i)) lot[i] = corner s (lot.take (i + 1)) := by
      unfold corner cornerF
      rw [List.take_succ_eq_append_getElem hi, List.foldl_append]
      rfl
    rw [et] at hc
    simp only [b1, mSeq_ap, mAsg_ap, mIf_ap, mDrop_ap, mRet_ap, mNext_ap, mFor_ap, imRng_ap, imSeq_ap, tmB_ap, tmNot_ap, tmTru_ap, tmAnd_ap, tmOr_ap, tmYes_ap, e1_ap, e2_ap, eN_ap, lN_ap, eL_ap, lLst_ap, eCall_ap, aCons_ap, aNil_ap, eVar_ap, eC_ap, eAnd_ap, eOr_ap, eNot_ap, eIsi_ap, eIf_ap, List.set_cons_succ, List.set_cons_zero, List.getElem?_cons_zero, List.getElem?_cons_succ, bind_ok, calm_ok, gmName_ap, tru_bool, itemsOf_list, itemsOf_tuple, Bool.not_true, Bool.not_false, Bool.false_eq_true, if_false, if_true, endOf, hc])
  rw [Nat.zero_add, List.take_length] at hf
  have em : m_corner_places = mSeq (mAsg (gmName 2) (eCall M_spans_of (aCons (eVar 0) aNil))) (mSeq (mAsg (gmName 3) (eL (lLst (aCons (eC (.int 0)) aNil)))) (mSeq (mFor (imSeq (eVar 1)) (gmName 4) b1) (mRet (eVar 3)))) := rfl
  rw [em, mSeq_nx (en1 := [.dat (tupN s), .dat LOT, .dat (.list ((spans s).map iD)), .un, .un, .un, .un]) (by simp only [mSeq_ap, mAsg_ap, mIf_ap, mDrop_ap, mRet_ap, mNext_ap, mFor_ap, imRng_ap, imSeq_ap, tmB_ap, tmNot_ap, tmTru_ap, tmAnd_ap, tmOr_ap, tmYes_ap, e1_ap, e2_ap, eN_ap, lN_ap, eL_ap, lLst_ap, eCall_ap, aCons_ap, aNil_ap, eVar_ap, eC_ap, eAnd_ap, eOr_ap, eNot_ap, eIsi_ap, eIf_ap, List.set_cons_succ, List.set_cons_zero, List.getElem?_cons_zero, List.getElem?_cons_succ, bind_ok, calm_ok, gmName_ap, tru_bool, itemsOf_list, itemsOf_tuple, Bool.not_true, Bool.not_false, Bool.false_eq_true, if_false, if_true, endOf, spans_of_ok W])]
  rw [mSeq_nx (en1 := [.dat (tupN s), .dat LOT, .dat (.list ((spans s).map iD)), .dat (.list ([0].map iD)), .un, .un, .un]) (by rfl)]
  rw [mSeq_nx (en1 := [.dat (tupN s), .dat LOT, .dat (.list ((spans s).map iD)), .dat (.list ((corner s lot).map iD)), v4, .un, .un]) (by
    simp only [mSeq_ap, mAsg_ap, mIf_ap, mDrop_ap, mRet_ap, mNext_ap, mFor_ap, imRng_ap, imSeq_ap, tmB_ap, tmNot_ap, tmTru_ap, tmAnd_ap, tmOr_ap, tmYes_ap, e1_ap, e2_ap, eN_ap, lN_ap, eL_ap, lLst_ap, eCall_ap, aCons_ap, aNil_ap, eVar_ap, eC_ap, eAnd_ap, eOr_ap, eNot_ap, eIsi_ap, eIf_ap, List.set_cons_succ, List.set_cons_zero, List.getElem?_cons_zero, List.getElem?_cons_succ, bind_ok, calm_ok, gmName_ap, tru_bool, itemsOf_list, itemsOf_tuple, Bool.not_true, Bool.not_false, Bool.false_eq_true, if_false, if_true, endOf, hi, hf])]
  rfl
theorem place_by_ok (W : Wd s t) {x : List Nat} (hx : x.length = s.length) (ok : Ok s (at0 x)) : M_place_by [tupN s, tupN x] = .ok (iD (pl s (at0 x))) := by
  have h6 := W.six
  have hp := W.prod
  have e : M_place_by [tupN s, tupN x] = ((endOf (m_place_by [.dat (tupN s), .dat (tupN x), .un, .un])).bind fun p => .ok p.1) := rfl
  rw [e]
  let b1 : Sm := mAsg (gmName 2) (e2 fAdd (e2 fMul (eVar 2) (e2 fIx (eVar 0) (eVar 3))) (e2 fIx (eVar 1) (eVar 3)))
  obtain ⟨en', hf, v, rfl⟩ := for_rng (j := 3) (n := s.length) (b := b1) (fun i en => ∃ v, en = [.dat (tupN s), .dat (tupN x), .dat (iD (horn s (at0 x) i)), v]) (en := [.dat (tupN s), .dat (tupN x), .dat (iD 0), .un]) ⟨.un, rfl⟩ (by
    rintro i en hi ⟨v, rfl⟩
    refine ⟨.nx, [.dat (tupN s), .dat (tupN x), .dat (iD (horn s (at0 x) (i + 1))), .dat (iD i)], ?_, .inl rfl, _, rfl⟩
    have b2 := horn_lt ok i (by omega) W.pos
    have b3 := sz_le W.pos hi
    have i1 := fIx_tupN s i hi
    have i2 := fIx_tupN x i (by omega)
    rw [get_sz] at i1
    rw [← at0_get] at i2
    simp only [b1, mSeq_ap, mAsg_ap, mIf_ap, mDrop_ap, mRet_ap, mNext_ap, mFor_ap, imRng_ap, imSeq_ap, tmB_ap, tmNot_ap, tmTru_ap, tmAnd_ap, tmOr_ap, tmYes_ap, e1_ap, e2_ap, eN_ap, lN_ap, eL_ap, lLst_ap, eCall_ap, aCons_ap, aNil_ap, eVar_ap, eC_ap, eAnd_ap, eOr_ap, eNot_ap, eIsi_ap, eIf_ap, List.set_cons_succ, List.set_cons_zero, List.getElem?_cons_zero, List.getElem?_cons_succ, bind_ok, calm_ok, gmName_ap, tru_bool, itemsOf_list, itemsOf_tuple, Bool.not_true, Bool.not_false, Bool.false_eq_true, if_false, if_true, endOf, i1, i2, fMul_N (by omega : horn s (at0 x) i < 2 ^ 62) (by omega : sz s i < 2 ^ 62), fAdd_N]
    rfl)
  have em : m_place_by = mSeq (mAsg (gmName 2) (eC (.int 0))) (mSeq (mFor (imRng rng1 (aCons (eN fLen (aCons (eVar 0) aNil)) aNil)) (gmName 3) b1) (mRet (eVar 2))) := rfl
  rw [em, mSeq_nx (en1 := [.dat (tupN s), .dat (tupN x), .dat (iD 0), .un]) rfl]
  rw [mSeq_nx (en1 := [.dat (tupN s), .dat (tupN x), .dat (iD (horn s (at0 x) s.length)), v]) (by
    simp only [mSeq_ap, mAsg_ap, mIf_ap, mDrop_ap, mRet_ap, mNext_ap, mFor_ap, imRng_ap, imSeq_ap, tmB_ap, tmNot_ap, tmTru_ap, tmAnd_ap, tmOr_ap, tmYes_ap, e1_ap, e2_ap, eN_ap, lN_ap, eL_ap, lLst_ap, eCall_ap, aCons_ap, aNil_ap, eVar_ap, eC_ap, eAnd_ap, eOr_ap, eNot_ap, eIsi_ap, eIf_ap, List.set_cons_succ, List.set_cons_zero, List.getElem?_cons_zero, List.getElem?_cons_succ, bind_ok, calm_ok, gmName_ap, tru_bool, itemsOf_list, itemsOf_tuple, Bool.not_true, Bool.not_false, Bool.false_eq_true, if_false, if_true, endOf, fLen_tupN, rng1_nat (by omega : s.length ≤ 100000), hf])]
  rw [horn_all]
  rfl
theorem on_ok (W : Wd s t) {lot : List Nat} (hl : Lot s.length lot) {LOT : D} (hi : itemsOf LOT = .ok (lot.map iD)) {x : List Nat} (hx : x.length = s.length) (ok : Ok s (at0 x)) : M__law_on [tupN s, .list ((spans s).map iD), LOT, tupN x] = .ok (iD (onL s lot (at0 x))) := by
  have h6 := W.six
  have hp := W.prod
  have hll := hl.len
  have e : M__law_on [tupN s, .list ((spans s).map iD), LOT, tupN x] = ((endOf (m__law_on [.dat (tupN s), .dat (.list ((spans s).map iD)), .dat LOT, .dat (tupN x), .un])).bind fun p => .ok p.1) := rfl
  rw [e]
  have hc := lLc_marks (j := 4) (a := eVar 2) (t := tmYes) (m := e2 fMul (e2 fIx (eVar 3) (eVar 4)) (e2 fIx (eVar 1) (eVar 4))) (en := [.dat (tupN s), .dat (.list ((spans s).map iD)), .dat LOT, .dat (tupN x), .un]) (ms := lot) (d0 := LOT) (fun _ => true) (fun h => iD (at0 x h * sp s h)) rfl hi (by show 4 < 5; omega) rfl (by omega) (fun h hm => ⟨rfl, fun _ => by
    have hh := hl.lt h hm
    have b1 := ok h hh
    have b2 := sz_le W.pos hh
    have b3 := sp_le W.pos hh
    have i1 : fIx (.list ((spans s).map iD)) (iD h) = .ok (iD (sp s h)) := by
      have := fIx_listN (spans s) h (by rw [spans_len]; exact hh)
      rw [spans_get] at this
      exact this
    have i2 := fIx_tupN x h (by omega)
    rw [← at0_get] at i2
    simp only [mSeq_ap, mAsg_ap, mIf_ap, mDrop_ap, mRet_ap, mNext_ap, mFor_ap, imRng_ap, imSeq_ap, tmB_ap, tmNot_ap, tmTru_ap, tmAnd_ap, tmOr_ap, tmYes_ap, e1_ap, e2_ap, eN_ap, lN_ap, eL_ap, lLst_ap, eCall_ap, aCons_ap, aNil_ap, eVar_ap, eC_ap, eAnd_ap, eOr_ap, eNot_ap, eIsi_ap, eIf_ap, List.set_cons_succ, List.set_cons_zero, List.getElem?_cons_zero, List.getElem?_cons_succ, bind_ok, calm_ok, gmName_ap, tru_bool, itemsOf_list, itemsOf_tuple, Bool.not_true, Bool.not_false, Bool.false_eq_true, if_false, if_true, endOf, i1, i2, fMul_N (by omega : at0 x h < 2 ^ 62) (by omega : sp s h < 2 ^ 62)]⟩)
  have hm : (lot.filter fun _ => true).map (fun h => iD (at0 x h * sp s h)) = (lot.map fun h => at0 x h * sp s h).map iD := by
    rw [List.filter_eq_self.mpr fun _ _ => rfl, List.map_map]
    rfl
  rw [hm] at hc
  unfold m__law_on
  simp only [mSeq_ap, mAsg_ap, mIf_ap, mDrop_ap, mRet_ap, mNext_ap, mFor_ap, imRng_ap, imSeq_ap, tmB_ap, tmNot_ap, tmTru_ap, tmAnd_ap, tmOr_ap, tmYes_ap, e1_ap, e2_ap, eN_ap, lN_ap, eL_ap, lLst_ap, eCall_ap, aCons_ap, aNil_ap, eVar_ap, eC_ap, eAnd_ap, eOr_ap, eNot_ap, eIsi_ap, eIf_ap, List.set_cons_succ, List.set_cons_zero, List.getElem?_cons_zero, List.getElem?_cons_succ, bind_ok, calm_ok, gmName_ap, tru_bool, itemsOf_list, itemsOf_tuple, Bool.not_true, Bool.not_false, Bool.false_eq_true, if_false, if_true, endOf, hc, fSum_N]
  rfl
end
end K07
end

section
set_option Elab.async false
set_option linter.all false
set_option maxRecDepth 100000
set_option maxHeartbeats 4000000
/-! K07D: all settings; odd fours looked for, by the program and by the law. -/
namespace K07
open PySem PySem.Spec PyProof.Rows L2 Mir Dg
theorem rows_step {l : List Nat} {m : Nat} (hm : 0 < m) : rstep ((List.range (prodL l)).map (digs l)) m = (List.range (prodL (l ++ [m]))).map (digs (l ++ [m])) :=
  rows_go [m] l fun a ha => by
    rw [List.mem_singleton] at ha
    subst ha
    exact hm
def setApp : Sm := mApp 3 (e2 fAdd (eVar 4) (eTup (aCons (eVar 5) aNil)))
section
variable {s t : List Nat}
theorem set_inner {S R : D} {m : Nat} {acc : List (List Nat)} {x : List Nat} {v5 : SV} (hm : m ≤ 64) (ha : acc.length ≤ 1000) (hx : x.length ≤ 100) : ∃ v5', forGo (gmName 5) setApp ((List.range m).map fun i : Nat => PyData.int (i : Nat)) [.dat S, .dat R, .dat (iD m), .own (.lst (acc.map tupN)), .dat (tupN x), v5] = .ok (.nx, [.dat S, .dat R, .dat (iD m), .own (.lst ((acc ++ (List.range m).map fun c => x ++ [c]).map tupN)), .dat (tupN x), v5']) := by
  obtain ⟨en', h1, v5', rfl⟩ := for_rng (j := 5) (n := m) (b := setApp) (fun c en => ∃ v5, en = [.dat S, .dat R, .dat (iD m), .own (.lst ((acc ++ (List.range c).map fun c => x ++ [c]).map tupN)), .dat (tupN x), v5]) (en := [.dat S, .dat R, .dat (iD m), .own (.lst (acc.map tupN)), .dat (tupN x), v5]) ⟨v5, by simp⟩ (by
    rintro c en hc ⟨v5, rfl⟩
    refine ⟨.nx, [.dat S, .dat R, .dat (iD m), .own (.lst ((acc ++ (List.range (c + 1)).map fun c => x ++ [c]).map tupN)), .dat (tupN x), .dat (iD c)], ?_, .inl rfl, _, rfl⟩
    show setApp [.dat S, .dat R, .dat (iD m), .own (.lst ((acc ++ (List.range c).map fun c => x ++ [c]).map tupN)), .dat (tupN x), .dat (iD c)] = _
    have hm : e2 fAdd (eVar 4) (eTup (aCons (eVar 5) aNil)) [.dat S, .dat R, .dat (iD m), .own (.lst ((acc ++ (List.range c).map fun c => x ++ [c]).map tupN)), .dat (tupN x), .dat (iD c)] = .ok (tupN (x ++ [c]), [.dat S, .dat R, .dat (iD m), .own (.lst ((acc ++ (List.range c).map fun c => x ++ [c]).map tupN)), .dat (tupN x), .dat (iD c)]) := by
      have ht : eTup (aCons (eVar 5) aNil) [.dat S, .dat R, .dat (iD m), .own (.lst ((acc ++ (List.range c).map fun c => x ++ [c]).map tupN)), .dat (tupN x), .dat (iD c)] = .ok (.tuple [iD c], [.dat S, .dat R, .dat (iD m), .own (.lst ((acc ++ (List.range c).map fun c => x ++ [c]).map tupN)), .dat (tupN x), .dat (iD c)]) := rfl
      have h4 : eVar 4 [.dat S, .dat R, .dat (iD m), .own (.lst ((acc ++ (List.range c).map fun c => x ++ [c]).map tupN)), .dat (tupN x), .dat (iD c)] = .ok (tupN x, [.dat S, .dat R, .dat (iD m), .own (.lst ((acc ++ (List.range c).map fun c => x ++ [c]).map tupN)), .dat (tupN x), .dat (iD c)]) := rfl
      rw [e2_ap, h4, bind_ok]
      dsimp only
      rw [ht, bind_ok]
      dsimp only
      rw [fAdd_tup x c (by omega)]
      rfl
    unfold setApp
    rw [mApp_ok (ds := (acc ++ (List.range c).map fun c => x ++ [c]).map tupN) rfl hm (by
      rw [List.length_map, List.length_append, List.length_map, List.length_range]
      show _ < 100000
      omega)]
    rw [List.range_succ, List.map_append, List.map_append, List.map_append, List.map_append, ← List.append_assoc]
    rfl)
  exact ⟨v5', h1⟩
def setMid : Sm := mFor (imRng rng1 (aCons (eVar 2) aNil)) (gmName 5) setApp
theorem set_mid {S R : D} {m : Nat} {rows : List (List Nat)} {v4 v5 : SV} (hm : m ≤ 64) (hr : rows.length * m ≤ 64) (hx : ∀ x ∈ rows, x.length ≤ 100) : ∃ v4' v5', forGo (gmName 4) setMid (rows.map tupN) [.dat S, .dat R, .dat (iD m), .own (.lst []), v4, v5] = .ok (.nx, [.dat S, .dat R, .dat (iD m), .own (.lst ((rstep rows m).map tupN)), v4', v5']) := by
  obtain ⟨en', h1, v4', v5', rfl⟩ := for_items (gm := gmName 4) (b := setMid) (enc := tupN) (fun j en => ∃ v4 v5, en = [.dat S, .dat R, .dat (iD m), .own (.lst ((rstep (rows.take j) m).map tupN)), v4, v5]) rows (k := 0) (en := [.dat S, .dat R, .dat (iD m), .own (.lst []), v4, v5]) ⟨v4, v5, rfl⟩ (by
    rintro j hj en ⟨v4, v5, rfl⟩
    rw [Nat.zero_add]
    have hl : (rstep (rows.take j) m).length ≤ 64 := by
      rw [rstep_len, List.length_take]
      exact Nat.le_trans (Nat.mul_le_mul_right _ (Nat.min_le_right _ _)) hr
    obtain ⟨v5', h1⟩ := set_inner (S := S) (R := R) (m := m) (acc := rstep (rows.take j) m) (x := rows[j]) (v5 := v5) hm (by omega) (hx _ (List.getElem_mem _))
    refine ⟨_, .nx, [.dat S, .dat R, .dat (iD m), .own (.lst ((rstep (rows.take (j + 1)) m).map tupN)), .dat (tupN rows[j]), v5'], rfl, ?_, .inl rfl, .dat (tupN rows[j]), v5', rfl⟩
    show setMid [.dat S, .dat R, .dat (iD m), .own (.lst ((rstep (rows.take j) m).map tupN)), .dat (tupN rows[j]), v5] = _
    have er : rstep (rows.take (j + 1)) m = rstep (rows.take j) m ++ (List.range m).map fun c => rows[j] ++ [c] := by
      unfold rstep
      rw [List.take_succ_eq_append_getElem hj, List.flatMap_append, List.flatMap_singleton]
    rw [er]
    unfold setMid
    simp only [mSeq_ap, mAsg_ap, mIf_ap, mDrop_ap, mRet_ap, mNext_ap, mFor_ap, imRng_ap, imSeq_ap, tmB_ap, tmNot_ap, tmTru_ap, tmAnd_ap, tmOr_ap, tmYes_ap, e1_ap, e2_ap, eN_ap, lN_ap, eL_ap, lLst_ap, eCall_ap, aCons_ap, aNil_ap, eVar_ap, eC_ap, eAnd_ap, eOr_ap, eNot_ap, eIsi_ap, eIf_ap, List.set_cons_succ, List.set_cons_zero, List.getElem?_cons_zero, List.getElem?_cons_succ, bind_ok, calm_ok, gmName_ap, tru_bool, itemsOf_list, itemsOf_tuple, Bool.not_true, Bool.not_false, Bool.false_eq_true, if_false, if_true, endOf, rng1_nat (by omega : m ≤ 100000), h1])
  rw [Nat.zero_add, List.take_length] at h1
  exact ⟨v4', v5', h1⟩
def setOut : Sm := mSeq (mAsgO 3 (lLst aNil)) (mSeq (mFor (imSeq (eVar 1)) (gmName 4) setMid) (mAsg (gmName 1) (eL (lN fList (aCons (eVar 3) aNil)))))
def rowsD (s : List Nat) : D := .list (((List.range (prodL s)).map (digs s)).map tupN)
theorem take_snoc (i : Nat) (h : i < s.length) : s.take (i + 1) = s.take i ++ [s[i]] := List.take_succ_eq_append_getElem h
theorem settings_ok (W : Wd s t) : M__law_settings [tupN s] = .ok (rowsD s) := by
  have h6 := W.six
  have hp := W.prod
  have e : M__law_settings [tupN s] = ((endOf (m__law_settings [.dat (tupN s), .un, .un, .un, .un, .un])).bind fun p => .ok p.1) := rfl
  rw [e]
  obtain ⟨en', hf, v2, v3, v4, v5, rfl⟩ := for_items (gm := gmName 2) (b := setOut) (enc := iD) (fun i en => ∃ v2 v3 v4 v5, en = [.dat (tupN s), .dat (rowsD (s.take i)), v2, v3, v4, v5]) s (k := 0) (en := [.dat (tupN s), .dat (rowsD []), .un, .un, .un, .un]) ⟨.un, .un, .un, .un, rfl⟩ (by
    rintro i hi en ⟨v2, v3, v4, v5, rfl⟩
    rw [Nat.zero_add]
    have hm : 0 < s[i] := W.pos _ (List.getElem_mem _)
    have hz : s[i] ≤ prodL s := by have := sz_le W.pos hi; rw [← get_sz hi] at this; exact this
    have hpr := prod_take_le W.pos (i + 1)
    have hpe := prod_take s i hi
    obtain ⟨v4', v5', h1⟩ := set_mid (S := tupN s) (R := rowsD (s.take i)) (m := s[i]) (rows := (List.range (prodL (s.take i))).map (digs (s.take i))) (v4 := v4) (v5 := v5) (by omega) (by
      rw [List.length_map, List.length_range]
      omega) (fun x hx => by
      obtain ⟨q, _, rfl⟩ := List.mem_map.mp hx
      rw [digs_len, List.length_take]
      omega)
    rw [rows_step hm, ← take_snoc i hi] at h1
    refine ⟨_, .nx, [.dat (tupN s), .dat (rowsD (s.take (i + 1))), .dat (iD s[i]), .dat (rowsD (s.take (i + 1))), v4', v5'], rfl, ?_, .inl rfl, _, _, v4', v5', rfl⟩
    show setOut [.dat (tupN s), .dat (rowsD (s.take i)), .dat (iD s[i]), v3, v4, v5] = _
    unfold setOut
    rw [mSeq_nx (en1 := [.dat (tupN s), .dat (rowsD (s.take i)), .dat (iD s[i]), .own (.lst []), v4, v5]) rfl]
    rw [mSeq_nx (en1 := [.dat (tupN s), .dat (rowsD (s.take i)), .dat (iD s[i]), .own (.lst (((List.range (prodL (s.take (i + 1)))).map (digs (s.take (i + 1)))).map tupN)), v4', v5']) (by
      rw [mFor_ap]
      have hI : imSeq (eVar 1) [.dat (tupN s), .dat (rowsD (s.take i)), .dat (iD s[i]), .own (.lst []), v4, v5] = .ok (((List.range (prodL (s.take i))).map (digs (s.take i))).map tupN, [.dat (tupN s), .dat (rowsD (s.take i)), .dat (iD s[i]), .own (.lst []), v4, v5]) := rfl
      rw [hI, bind_ok]
      exact h1)]
    rfl)
  rw [Nat.zero_add, List.take_length] at hf
  have em : m__law_settings = mSeq (mAsg (gmName 1) (eL (lLst (aCons (eTup aNil) aNil)))) (mSeq (mFor (imSeq (eVar 0)) (gmName 2) setOut) (mRet (eVar 1))) := rfl
  rw [em, mSeq_nx (en1 := [.dat (tupN s), .dat (rowsD []), .un, .un, .un, .un]) (by rfl)]
  rw [mSeq_nx (en1 := [.dat (tupN s), .dat (rowsD s), v2, v3, v4, v5]) (by
    have hi : itemsOf (tupN s) = .ok (s.map iD) := rfl
    simp only [mSeq_ap, mAsg_ap, mIf_ap, mDrop_ap, mRet_ap, mNext_ap, mFor_ap, imRng_ap, imSeq_ap, tmB_ap, tmNot_ap, tmTru_ap, tmAnd_ap, tmOr_ap, tmYes_ap, e1_ap, e2_ap, eN_ap, lN_ap, eL_ap, lLst_ap, eCall_ap, aCons_ap, aNil_ap, eVar_ap, eC_ap, eAnd_ap, eOr_ap, eNot_ap, eIsi_ap, eIf_ap, List.set_cons_succ, List.set_cons_zero, List.getElem?_cons_zero, List.getElem?_cons_succ, bind_ok, calm_ok, gmName_ap, tru_bool, itemsOf_list, itemsOf_tuple, Bool.not_true, Bool.not_false, Bool.false_eq_true, if_false, if_true, endOf, hi, hf])]
  rfl
/-! ### odd fours -/
def oddP (s t : List Nat) (i j p a b : Nat) : Bool := decide ((at0 t p + at0 t (p + a * sp s i) + at0 t (p + b * sp s j) + at0 t (p + a * sp s i + b * sp s j)) % 2 = 1)
theorem bit_at {b : Nat} (W : Wd s t) : at0 t b < 2 := by
  by_cases h : b < t.length
  · rw [at0_get h]
    exact W.bit _ (List.getElem_mem _)
  · unfold at0
    rw [List.getD_eq_getElem?_getD, List.getElem?_eq_none (by omega)]
    decide
theorem tab_ix (W : Wd s t) {p : Nat} (h : p < prodL s) : fIx (tupN t) (iD p) = .ok (iD (at0 t p)) := by
  have h' : p < t.length := by rw [W.tl]; exact h
  rw [fIx_tupN t p h', at0_get h']
theorem odd_sum_ok (W : Wd s t) {p u v : Nat} (h1 : p + u < prodL s) (h2 : p + v < prodL s) (h3 : p + u + v < prodL s) : M__law_odd_sum [tupN t, iD p, iD u, iD v] = .ok (.bool (decide ((at0 t p + at0 t (p + u) + at0 t (p + v) + at0 t (p + u + v)) % 2 = 1))) := by
  have e : M__law_odd_sum [tupN t, iD p, iD u, iD v] = ((endOf (m__law_odd_sum [.dat (tupN t), .dat (iD p), .dat (iD u), .dat (iD v)])).bind fun p => .ok p.1) := rfl
  rw [e]
  unfold m__law_odd_sum
  have e2' : (PyData.int 2) = iD 2 := rfl
  have e1' : (PyData.int 1) = iD 1 := rfl
  simp only [mSeq_ap, mAsg_ap, mIf_ap, mDrop_ap, mRet_ap, mNext_ap, mFor_ap, imRng_ap, imSeq_ap, tmB_ap, tmNot_ap, tmTru_ap, tmAnd_ap, tmOr_ap, tmYes_ap, e1_ap, e2_ap, eN_ap, lN_ap, eL_ap, lLst_ap, eCall_ap, aCons_ap, aNil_ap, eVar_ap, eC_ap, eAnd_ap, eOr_ap, eNot_ap, eIsi_ap, eIf_ap, List.set_cons_succ, List.set_cons_zero, List.getElem?_cons_zero, List.getElem?_cons_succ, bind_ok, calm_ok, gmName_ap, tru_bool, itemsOf_list, itemsOf_tuple, Bool.not_true, Bool.not_false, Bool.false_eq_true, if_false, if_true, endOf, tab_ix W (by omega : p < prodL s), fAdd_N, tab_ix W h1, tab_ix W h2, tab_ix W h3, e2', fMod_N (by omega : 0 < 2), e1', fEq_N]
theorem up_lt {x : Nat → Nat} {i j a b : Nat} (hi : i < s.length) (hj : j < s.length) (q : i ≠ j) (ok : Ok s x) (ha : x i ≤ a) (hb : x j ≤ b) (ha2 : a < sz s i) (hb2 : b < sz s j) : pl s x + (a - x i) * sp s i < prodL s ∧ pl s x + (b - x j) * sp s j < prodL s ∧ pl s x + (a - x i) * sp s i + (b - x j) * sp s j < prodL s := by
  have e : upd x i a j = x j := upd_ne (Ne.symm q)
  have h1 := pl_lt (ok.upd ha2)
  have h2 := pl_lt (ok.upd hb2)
  have h3 := pl_lt ((ok.upd ha2).upd hb2)
  rw [pl_up hi ha] at h1
  rw [pl_up hj hb] at h2
  rw [pl_up (x := upd x i a) hj (by rw [e]; exact hb), e, pl_up hi ha] at h3
  exact ⟨h1, h2, h3⟩
end
end K07
end

section
set_option Elab.async false
set_option linter.all false
set_option maxRecDepth 100000
set_option maxHeartbeats 4000000
/-! K07E: an odd four looked for by the program and by the law. -/
namespace K07
open PySem PySem.Spec PyProof.Rows L2 Mir Dg
def contOf (o : Option D) (b : Sm) (en : En) : Rs (Fl × En) := match o with
  | some d => .ok (.rt d, en)
  | none => b en
theorem mSeq_fl {a b : Sm} {en en1 : En} {o : Option D} (h : a en = .ok (flOf o, en1)) : mSeq a b en = contOf o b en1 := by
  rw [mSeq_ap, h, bind_ok]
  cases o <;> rfl
def restL (n i j : Nat) : List Nat := (List.range n).filter fun h => !decide (h = i) && !decide (h = j)
def spot3 (s t : List Nat) (i j p a b : Nat) : Option D := if oddP s t i j p a b = true then some (.tuple [iD p, iD a, iD b]) else none
def spot2 (s t : List Nat) (i j p a : Nat) : Option D := (rngN 1 (sz s j)).findSome? (spot3 s t i j p a)
def spot1 (s t : List Nat) (i j p : Nat) : Option D := (rngN 1 (sz s i)).findSome? (spot2 s t i j p)
def spot (s t : List Nat) (i j : Nat) : Option D := (corner s (restL s.length i j)).findSome? (spot1 s t i j)
def optD (o : Option D) : D := match o with
  | some d => d
  | none => .none
def spB3 : Sm := mSeq (mAsg (gmName 11) (e2 fMul (eVar 10) (e2 fIx (eVar 4) (eVar 3)))) (mIf (tmB (e2 fEq (e2 fXor (e2 fXor (e2 fXor (e2 fIx (eVar 1) (eVar 6)) (e2 fIx (eVar 1) (eVar 9))) (e2 fIx (eVar 1) (e2 fAdd (eVar 6) (eVar 11)))) (e2 fIx (eVar 1) (e2 fAdd (eVar 9) (eVar 11)))) (eC (.int 1)))) (mRet (eTup (aCons (eVar 6) (aCons (eVar 7) (aCons (eVar 10) aNil))))) mNext)
def spB2 : Sm := mSeq (mAsg (gmName 9) (e2 fAdd (eVar 6) (e2 fMul (eVar 7) (e2 fIx (eVar 4) (eVar 2))))) (mFor (imRng rng2 (aCons (eC (.int 1)) (aCons (e2 fIx (eVar 0) (eVar 3)) aNil))) (gmName 10) spB3)
def spB1 : Sm := mFor (imRng rng2 (aCons (eC (.int 1)) (aCons (e2 fIx (eVar 0) (eVar 2)) aNil))) (gmName 7) spB2
section
variable {s t : List Nat}
theorem sp_ix (W : Wd s t) {h : Nat} (hh : h < s.length) : fIx (.list ((spans s).map iD)) (iD h) = .ok (iD (sp s h)) := by
  have := fIx_listN (spans s) h (by rw [spans_len]; exact hh)
  rw [spans_get] at this
  exact this
theorem sz_ix {h : Nat} (hh : h < s.length) : fIx (tupN s) (iD h) = .ok (iD (sz s h)) := by
  have := fIx_tupN s h hh
  rw [get_sz] at this
  exact this
theorem xor4 {a b c d : Nat} (ha : a < 2) (hb : b < 2) (hc : c < 2) (hd : d < 2) : ((fXor (iD a) (iD b)).bind fun x => (fXor x (iD c)).bind fun y => fXor y (iD d)) = .ok (iD ((a + b + c + d) % 2)) := by
  rw [fXor_bit ha hb, bind_ok, fXor_bit (by omega) hc, bind_ok, fXor_bit (by omega) hd]
  congr 2
  omega
/-- a corner place away from two houses, and the places of a four on it -/
structure Away (s : List Nat) (i j p : Nat) : Prop where
  lt : p < prodL s
  zi : dg s i p = 0
  zj : dg s j p = 0
theorem away_of (W : Wd s t) {i j p : Nat} (hi : i < s.length) (hj : j < s.length) : p ∈ corner s (restL s.length i j) ↔ Away s i j p := by
  have hl : Lot s.length (restL s.length i j) := lot_filter _ _
  rw [mem_corner' W.pos hl.nd hl.lt]
  have hm : ∀ h, h ∈ restL s.length i j ↔ h < s.length ∧ h ≠ i ∧ h ≠ j := fun h => by
    unfold restL
    rw [List.mem_filter, List.mem_range, Bool.and_eq_true, Bool.not_eq_true', Bool.not_eq_true', decide_eq_false_iff_not, decide_eq_false_iff_not]
  constructor
  · rintro ⟨h1, h2⟩
    exact ⟨h1, h2 i hi fun z => ((hm i).mp z).2.1 rfl, h2 j hj fun z => ((hm j).mp z).2.2 rfl⟩
  · rintro ⟨h1, h2, h3⟩
    refine ⟨h1, fun h hh hn => ?_⟩
    by_cases q1 : h = i
    · subst q1; exact h2
    · by_cases q2 : h = j
      · subst q2; exact h3
      · exact absurd ((hm h).mpr ⟨hh, q1, q2⟩) hn
theorem away_lt (W : Wd s t) {i j p a b : Nat} (hi : i < s.length) (hj : j < s.length) (q : i ≠ j) (A : Away s i j p) (ha : a < sz s i) (hb : b < sz s j) : p + a * sp s i < prodL s ∧ p + b * sp s j < prodL s ∧ p + a * sp s i + b * sp s j < prodL s := by
  have := up_lt (x := fun h => dg s h p) (a := a) (b := b) hi hj q (dg_ok W.pos) (by rw [A.zi]; exact Nat.zero_le _) (by rw [A.zj]; exact Nat.zero_le _) ha hb
  rw [pl_dg W.pos A.lt, A.zi, A.zj] at this
  exact this
theorem sp3_ok (W : Wd s t) {i j p a b : Nat} (hi : i < s.length) (hj : j < s.length) (q : i ≠ j) (A : Away s i j p) (ha : a < sz s i) (hb : b < sz s j) (RS : D) (v11 : SV) : ∃ v11', spB3 [.dat (tupN s), .dat (tupN t), .dat (iD i), .dat (iD j), .dat (.list ((spans s).map iD)), .dat RS, .dat (iD p), .dat (iD a), .un, .dat (iD (p + a * sp s i)), .dat (iD b), v11] = .ok (flOf (spot3 s t i j p a b), [.dat (tupN s), .dat (tupN t), .dat (iD i), .dat (iD j), .dat (.list ((spans s).map iD)), .dat RS, .dat (iD p), .dat (iD a), .un, .dat (iD (p + a * sp s i)), .dat (iD b), v11']) := by
  obtain ⟨l1, l2, l3⟩ := away_lt W hi hj q A ha hb
  have b1 := sz_le W.pos hj
  have b2 := sp_le W.pos hj
  have hp := W.prod
  refine ⟨.dat (iD (b * sp s j)), ?_⟩
  have hm : mAsg (gmName 11) (e2 fMul (eVar 10) (e2 fIx (eVar 4) (eVar 3))) [.dat (tupN s), .dat (tupN t), .dat (iD i), .dat (iD j), .dat (.list ((spans s).map iD)), .dat RS, .dat (iD p), .dat (iD a), .un, .dat (iD (p + a * sp s i)), .dat (iD b), v11] = .ok (.nx, [.dat (tupN s), .dat (tupN t), .dat (iD i), .dat (iD j), .dat (.list ((spans s).map iD)), .dat RS, .dat (iD p), .dat (iD a), .un, .dat (iD (p + a * sp s i)), .dat (iD b), .dat (iD (b * sp s j))]) := by
    simp only [mSeq_ap, mAsg_ap, mIf_ap, mDrop_ap, mRet_ap, mNext_ap, mFor_ap, imRng_ap, imSeq_ap, tmB_ap, tmNot_ap, tmTru_ap, tmAnd_ap, tmOr_ap, tmYes_ap, e1_ap, e2_ap, eN_ap, lN_ap, eL_ap, lLst_ap, eCall_ap, aCons_ap, aNil_ap, eVar_ap, eC_ap, eAnd_ap, eOr_ap, eNot_ap, eIsi_ap, eIf_ap, List.set_cons_succ, List.set_cons_zero, List.getElem?_cons_zero, List.getElem?_cons_succ, bind_ok, calm_ok, gmName_ap, tru_bool, itemsOf_list, itemsOf_tuple, Bool.not_true, Bool.not_false, Bool.false_eq_true, if_false, if_true, endOf, sp_ix W hj, fMul_N (by omega : b < 2 ^ 62) (by omega : sp s j < 2 ^ 62)]
  unfold spB3
  rw [mSeq_nx hm]
  have t1 := bit_at W (b := p)
  have t2 := bit_at W (b := p + a * sp s i)
  have t3 := bit_at W (b := p + b * sp s j)
  have t4 := bit_at W (b := p + a * sp s i + b * sp s j)
  have e1' : (PyData.int 1) = iD 1 := rfl
  simp only [mSeq_ap, mAsg_ap, mIf_ap, mDrop_ap, mRet_ap, mNext_ap, mFor_ap, imRng_ap, imSeq_ap, tmB_ap, tmNot_ap, tmTru_ap, tmAnd_ap, tmOr_ap, tmYes_ap, e1_ap, e2_ap, eN_ap, lN_ap, eL_ap, lLst_ap, eCall_ap, aCons_ap, aNil_ap, eVar_ap, eC_ap, eAnd_ap, eOr_ap, eNot_ap, eIsi_ap, eIf_ap, List.set_cons_succ, List.set_cons_zero, List.getElem?_cons_zero, List.getElem?_cons_succ, bind_ok, calm_ok, gmName_ap, tru_bool, itemsOf_list, itemsOf_tuple, Bool.not_true, Bool.not_false, Bool.false_eq_true, if_false, if_true, endOf, tab_ix W A.lt, tab_ix W l1, fAdd_N, tab_ix W l2, tab_ix W l3, fXor_bit t1 t2, fXor_bit (Nat.mod_lt (at0 t p + at0 t (p + a * sp s i)) (by omega : 2 > 0)) t3, fXor_bit (Nat.mod_lt ((at0 t p + at0 t (p + a * sp s i)) % 2 + at0 t (p + b * sp s j)) (by omega : 2 > 0)) t4, e1', fEq_N]
  unfold spot3 oddP
  have em : decide ((((at0 t p + at0 t (p + a * sp s i)) % 2 + at0 t (p + b * sp s j)) % 2 + at0 t (p + a * sp s i + b * sp s j)) % 2 = 1) = decide ((at0 t p + at0 t (p + a * sp s i) + at0 t (p + b * sp s j) + at0 t (p + a * sp s i + b * sp s j)) % 2 = 1) := decide_eq_decide.mpr (by omega)
  rw [em]
  cases decide ((at0 t p + at0 t (p + a * sp s i) + at0 t (p + b * sp s j) + at0 t (p + a * sp s i + b * sp s j)) % 2 = 1) <;> rfl
theorem sp2_ok (W : Wd s t) {i j p a : Nat} (hi : i < s.length) (hj : j < s.length) (q : i ≠ j) (A : Away s i j p) (ha : a < sz s i) (RS : D) (v9 v10 v11 : SV) : ∃ v9' v10' v11', spB2 [.dat (tupN s), .dat (tupN t), .dat (iD i), .dat (iD j), .dat (.list ((spans s).map iD)), .dat RS, .dat (iD p), .dat (iD a), .un, v9, v10, v11] = .ok (flOf (spot2 s t i j p a), [.dat (tupN s), .dat (tupN t), .dat (iD i), .dat (iD j), .dat (.list ((spans s).map iD)), .dat RS, .dat (iD p), .dat (iD a), .un, v9', v10', v11']) := by
  have b1 := sz_le W.pos hi
  have b2 := sp_le W.pos hi
  have b3 := sz_le W.pos hj
  have hp := W.prod
  obtain ⟨en', hf, v10', v11', rfl⟩ := find_rng2 (j := 10) (a := 1) (b := sz s j) (bd := spB3) (r := spot3 s t i j p a) (fun en => ∃ v10 v11, en = [.dat (tupN s), .dat (tupN t), .dat (iD i), .dat (iD j), .dat (.list ((spans s).map iD)), .dat RS, .dat (iD p), .dat (iD a), .un, .dat (iD (p + a * sp s i)), v10, v11]) (en := [.dat (tupN s), .dat (tupN t), .dat (iD i), .dat (iD j), .dat (.list ((spans s).map iD)), .dat RS, .dat (iD p), .dat (iD a), .un, .dat (iD (p + a * sp s i)), v10, v11]) ⟨v10, v11, rfl⟩ (by
    rintro b en h1 h2 ⟨v10, v11, rfl⟩
    obtain ⟨v11', h⟩ := sp3_ok W hi hj q A ha h2 RS v11
    exact ⟨_, h, _, v11', rfl⟩)
  refine ⟨.dat (iD (p + a * sp s i)), v10', v11', ?_⟩
  unfold spB2
  rw [mSeq_nx (en1 := [.dat (tupN s), .dat (tupN t), .dat (iD i), .dat (iD j), .dat (.list ((spans s).map iD)), .dat RS, .dat (iD p), .dat (iD a), .un, .dat (iD (p + a * sp s i)), v10, v11]) (by
    simp only [mSeq_ap, mAsg_ap, mIf_ap, mDrop_ap, mRet_ap, mNext_ap, mFor_ap, imRng_ap, imSeq_ap, tmB_ap, tmNot_ap, tmTru_ap, tmAnd_ap, tmOr_ap, tmYes_ap, e1_ap, e2_ap, eN_ap, lN_ap, eL_ap, lLst_ap, eCall_ap, aCons_ap, aNil_ap, eVar_ap, eC_ap, eAnd_ap, eOr_ap, eNot_ap, eIsi_ap, eIf_ap, List.set_cons_succ, List.set_cons_zero, List.getElem?_cons_zero, List.getElem?_cons_succ, bind_ok, calm_ok, gmName_ap, tru_bool, itemsOf_list, itemsOf_tuple, Bool.not_true, Bool.not_false, Bool.false_eq_true, if_false, if_true, endOf, sp_ix W hi, fMul_N (by omega : a < 2 ^ 62) (by omega : sp s i < 2 ^ 62), fAdd_N])]
  have hr : rng2 [.int 1, iD (sz s j)] = .ok ((rngN 1 (sz s j)).map iD) := rng2_N 1 (sz s j) (by omega) (by omega)
  simp only [mSeq_ap, mAsg_ap, mIf_ap, mDrop_ap, mRet_ap, mNext_ap, mFor_ap, imRng_ap, imSeq_ap, tmB_ap, tmNot_ap, tmTru_ap, tmAnd_ap, tmOr_ap, tmYes_ap, e1_ap, e2_ap, eN_ap, lN_ap, eL_ap, lLst_ap, eCall_ap, aCons_ap, aNil_ap, eVar_ap, eC_ap, eAnd_ap, eOr_ap, eNot_ap, eIsi_ap, eIf_ap, List.set_cons_succ, List.set_cons_zero, List.getElem?_cons_zero, List.getElem?_cons_succ, bind_ok, calm_ok, gmName_ap, tru_bool, itemsOf_list, itemsOf_tuple, Bool.not_true, Bool.not_false, Bool.false_eq_true, if_false, if_true, endOf, sz_ix hj, hr, hf]
  rfl
theorem sp1_ok (W : Wd s t) {i j p : Nat} (hi : i < s.length) (hj : j < s.length) (q : i ≠ j) (A : Away s i j p) (RS : D) (v7 v9 v10 v11 : SV) : ∃ v7' v9' v10' v11', spB1 [.dat (tupN s), .dat (tupN t), .dat (iD i), .dat (iD j), .dat (.list ((spans s).map iD)), .dat RS, .dat (iD p), v7, .un, v9, v10, v11] = .ok (flOf (spot1 s t i j p), [.dat (tupN s), .dat (tupN t), .dat (iD i), .dat (iD j), .dat (.list ((spans s).map iD)), .dat RS, .dat (iD p), v7', .un, v9', v10', v11']) := by
  have b1 := sz_le W.pos hi
  have hp := W.prod
  obtain ⟨en', hf, v7', v9', v10', v11', rfl⟩ := find_rng2 (j := 7) (a := 1) (b := sz s i) (bd := spB2) (r := spot2 s t i j p) (fun en => ∃ v7 v9 v10 v11, en = [.dat (tupN s), .dat (tupN t), .dat (iD i), .dat (iD j), .dat (.list ((spans s).map iD)), .dat RS, .dat (iD p), v7, .un, v9, v10, v11]) (en := [.dat (tupN s), .dat (tupN t), .dat (iD i), .dat (iD j), .dat (.list ((spans s).map iD)), .dat RS, .dat (iD p), v7, .un, v9, v10, v11]) ⟨v7, v9, v10, v11, rfl⟩ (by
    rintro a en h1 h2 ⟨v7, v9, v10, v11, rfl⟩
    obtain ⟨v9', v10', v11', h⟩ := sp2_ok W hi hj q A h2 RS v9 v10 v11
    exact ⟨_, h, _, v9', v10', v11', rfl⟩)
  refine ⟨v7', v9', v10', v11', ?_⟩
  unfold spB1
  have hr : rng2 [.int 1, iD (sz s i)] = .ok ((rngN 1 (sz s i)).map iD) := rng2_N 1 (sz s i) (by omega) (by omega)
  simp only [mSeq_ap, mAsg_ap, mIf_ap, mDrop_ap, mRet_ap, mNext_ap, mFor_ap, imRng_ap, imSeq_ap, tmB_ap, tmNot_ap, tmTru_ap, tmAnd_ap, tmOr_ap, tmYes_ap, e1_ap, e2_ap, eN_ap, lN_ap, eL_ap, lLst_ap, eCall_ap, aCons_ap, aNil_ap, eVar_ap, eC_ap, eAnd_ap, eOr_ap, eNot_ap, eIsi_ap, eIf_ap, List.set_cons_succ, List.set_cons_zero, List.getElem?_cons_zero, List.getElem?_cons_succ, bind_ok, calm_ok, gmName_ap, tru_bool, itemsOf_list, itemsOf_tuple, Bool.not_true, Bool.not_false, Bool.false_eq_true, if_false, if_true, endOf, sz_ix hi, hr, hf]
  rfl
theorem odd_spot_ok (W : Wd s t) {i j : Nat} (hi : i < s.length) (hj : j < s.length) (q : i ≠ j) : M_odd_spot [tupN s, tupN t, iD i, iD j] = .ok (optD (spot s t i j)) := by
  have h6 := W.six
  have e : M_odd_spot [tupN s, tupN t, iD i, iD j] = ((endOf (m_odd_spot [.dat (tupN s), .dat (tupN t), .dat (iD i), .dat (iD j), .un, .un, .un, .un, .un, .un, .un, .un])).bind fun p => .ok p.1) := rfl
  rw [e]
  have em : m_odd_spot = mSeq (mAsg (gmName 4) (eCall M_spans_of (aCons (eVar 0) aNil))) (mSeq (mAsg (gmName 5) (eL (lLc (imRng rng1 (aCons (eN fLen (aCons (eVar 0) aNil)) aNil)) [8] (gmName 8) (tmAnd (tmB (e2 fNe (eVar 8) (eVar 2))) (tmB (e2 fNe (eVar 8) (eVar 3)))) (eVar 8)))) (mSeq (mFor (imSeq (eCall M_corner_places (aCons (eVar 0) (aCons (eVar 5) aNil)))) (gmName 6) spB1) (mRet (eC .none)))) := rfl
  have hc := lLc_nat (j := 8) (a := aCons (eN fLen (aCons (eVar 0) aNil)) aNil) (t := tmAnd (tmB (e2 fNe (eVar 8) (eVar 2))) (tmB (e2 fNe (eVar 8) (eVar 3)))) (m := eVar 8) (en := [.dat (tupN s), .dat (tupN t), .dat (iD i), .dat (iD j), .dat (.list ((spans s).map iD)), .un, .un, .un, .un, .un, .un, .un]) (n := s.length) (fun h => !decide (h = i) && !decide (h = j)) iD (by simp only [mSeq_ap, mAsg_ap, mIf_ap, mDrop_ap, mRet_ap, mNext_ap, mFor_ap, imRng_ap, imSeq_ap, tmB_ap, tmNot_ap, tmTru_ap, tmAnd_ap, tmOr_ap, tmYes_ap, e1_ap, e2_ap, eN_ap, lN_ap, eL_ap, lLst_ap, eCall_ap, aCons_ap, aNil_ap, eVar_ap, eC_ap, eAnd_ap, eOr_ap, eNot_ap, eIsi_ap, eIf_ap, List.set_cons_succ, List.set_cons_zero, List.getElem?_cons_zero, List.getElem?_cons_succ, bind_ok, calm_ok, gmName_ap, tru_bool, itemsOf_list, itemsOf_tuple, Bool.not_true, Bool.not_false, Bool.false_eq_true, if_false, if_true, endOf, fLen_tupN]) (by show 8 < 12; omega) rfl (by omega) (fun h hh => ⟨by
    have e8 : (PyData.int (h : Int)) = iD h := rfl
    simp only [mSeq_ap, mAsg_ap, mIf_ap, mDrop_ap, mRet_ap, mNext_ap, mFor_ap, imRng_ap, imSeq_ap, tmB_ap, tmNot_ap, tmTru_ap, tmAnd_ap, tmOr_ap, tmYes_ap, e1_ap, e2_ap, eN_ap, lN_ap, eL_ap, lLst_ap, eCall_ap, aCons_ap, aNil_ap, eVar_ap, eC_ap, eAnd_ap, eOr_ap, eNot_ap, eIsi_ap, eIf_ap, List.set_cons_succ, List.set_cons_zero, List.getElem?_cons_zero, List.getElem?_cons_succ, bind_ok, calm_ok, gmName_ap, tru_bool, itemsOf_list, itemsOf_tuple, Bool.not_true, Bool.not_false, Bool.false_eq_true, if_false, if_true, endOf, e8, fNe_N]
    cases decide (h = i) <;> rfl, fun _ => rfl⟩)
  have hl : Lot s.length (restL s.length i j) := lot_filter _ _
  obtain ⟨en', hf, v6, v7, v9, v10, v11, rfl⟩ := for_find (gm := gmName 6) (b := spB1) (enc := iD) (r := spot1 s t i j) (fun en => ∃ v6 v7 v9 v10 v11, en = [.dat (tupN s), .dat (tupN t), .dat (iD i), .dat (iD j), .dat (.list ((spans s).map iD)), .dat (.list ((restL s.length i j).map iD)), v6, v7, .un, v9, v10, v11]) (corner s (restL s.length i j)) (en := [.dat (tupN s), .dat (tupN t), .dat (iD i), .dat (iD j), .dat (.list ((spans s).map iD)), .dat (.list ((restL s.length i j).map iD)), .un, .un, .un, .un, .un, .un]) ⟨_, _, _, _, _, rfl⟩ (by
    rintro p hp en ⟨v6, v7, v9, v10, v11, rfl⟩
    obtain ⟨v7', v9', v10', v11', h⟩ := sp1_ok W hi hj q ((away_of W hi hj).mp hp) (.list ((restL s.length i j).map iD)) v7 v9 v10 v11
    exact ⟨_, _, rfl, h, _, v7', v9', v10', v11', rfl⟩)
  rw [em, mSeq_nx (en1 := [.dat (tupN s), .dat (tupN t), .dat (iD i), .dat (iD j), .dat (.list ((spans s).map iD)), .un, .un, .un, .un, .un, .un, .un]) (by simp only [mSeq_ap, mAsg_ap, mIf_ap, mDrop_ap, mRet_ap, mNext_ap, mFor_ap, imRng_ap, imSeq_ap, tmB_ap, tmNot_ap, tmTru_ap, tmAnd_ap, tmOr_ap, tmYes_ap, e1_ap, e2_ap, eN_ap, lN_ap, eL_ap, lLst_ap, eCall_ap, aCons_ap, aNil_ap, eVar_ap, eC_ap, eAnd_ap, eOr_ap, eNot_ap, eIsi_ap, eIf_ap, List.set_cons_succ, List.set_cons_zero, List.getElem?_cons_zero, List.getElem?_cons_succ, bind_ok, calm_ok, gmName_ap, tru_bool, itemsOf_list, itemsOf_tuple, Bool.not_true, Bool.not_false, Bool.false_eq_true, if_false, if_true, endOf, spans_of_ok W])]
  rw [mSeq_nx (en1 := [.dat (tupN s), .dat (tupN t), .dat (iD i), .dat (iD j), .dat (.list ((spans s).map iD)), .dat (.list ((restL s.length i j).map iD)), .un, .un, .un, .un, .un, .un]) (by
    rw [mAsg_ap, eL_ap, hc]
    rfl)]
  rw [mSeq_fl (o := spot s t i j) (en1 := [.dat (tupN s), .dat (tupN t), .dat (iD i), .dat (iD j), .dat (.list ((spans s).map iD)), .dat (.list ((restL s.length i j).map iD)), v6, v7, .un, v9, v10, v11]) (by
    simp only [mSeq_ap, mAsg_ap, mIf_ap, mDrop_ap, mRet_ap, mNext_ap, mFor_ap, imRng_ap, imSeq_ap, tmB_ap, tmNot_ap, tmTru_ap, tmAnd_ap, tmOr_ap, tmYes_ap, e1_ap, e2_ap, eN_ap, lN_ap, eL_ap, lLst_ap, eCall_ap, aCons_ap, aNil_ap, eVar_ap, eC_ap, eAnd_ap, eOr_ap, eNot_ap, eIsi_ap, eIf_ap, List.set_cons_succ, List.set_cons_zero, List.getElem?_cons_zero, List.getElem?_cons_succ, bind_ok, calm_ok, gmName_ap, tru_bool, itemsOf_list, itemsOf_tuple, Bool.not_true, Bool.not_false, Bool.false_eq_true, if_false, if_true, endOf, corner_ok W hl (LOT := .list ((restL s.length i j).map iD)) rfl, hf]
    rfl)]
  cases spot s t i j <;> rfl
/-! ### the law's -/
def kn3 (s t : List Nat) (i j k a b : Nat) : Option D := if oddP s t i j k (a - dg s i k) (b - dg s j k) = true then some (.bool true) else none
def kn2 (s t : List Nat) (i j k a : Nat) : Option D := (rngN (dg s j k + 1) (sz s j)).findSome? (kn3 s t i j k a)
def kn1 (s t : List Nat) (i j k : Nat) : Option D := (rngN (dg s i k + 1) (sz s i)).findSome? (kn2 s t i j k)
def kn (s t : List Nat) (i j : Nat) : Option D := (List.range (prodL s)).findSome? (kn1 s t i j)
def knB3 : Sm := mIf (tmTru (eCall M__law_odd_sum (aCons (eVar 1) (aCons (eVar 6) (aCons (e2 fMul (e2 fSub (eVar 8) (e2 fIx (eVar 7) (eVar 2))) (e2 fIx (eVar 4) (eVar 2))) (aCons (e2 fMul (e2 fSub (eVar 9) (e2 fIx (eVar 7) (eVar 3))) (e2 fIx (eVar 4) (eVar 3))) aNil)))))) (mRet (eC (.bool true))) mNext
def knB2 : Sm := mFor (imRng rng2 (aCons (e2 fAdd (e2 fIx (eVar 7) (eVar 3)) (eC (.int 1))) (aCons (e2 fIx (eVar 0) (eVar 3)) aNil))) (gmName 9) knB3
def knB1 : Sm := mSeq (mAsg (gmName 7) (e2 fIx (eVar 5) (eVar 6))) (mFor (imRng rng2 (aCons (e2 fAdd (e2 fIx (eVar 7) (eVar 2)) (eC (.int 1))) (aCons (e2 fIx (eVar 0) (eVar 2)) aNil))) (gmName 8) knB2)
theorem dig_ix {h p : Nat} (hh : h < s.length) : fIx (tupN (digs s p)) (iD h) = .ok (iD (dg s h p)) := by
  rw [fIx_tupN (digs s p) h (by rw [digs_len]; exact hh), digs_get]
theorem row_ix {k : Nat} (hk : k < prodL s) : fIx (rowsD s) (iD k) = .ok (tupN (digs s k)) := by
  unfold rowsD
  rw [fIx_listTN _ k (by rw [List.length_map, List.length_range]; exact hk)]
  simp
theorem kn3_ok (W : Wd s t) {i j k a b : Nat} (hi : i < s.length) (hj : j < s.length) (q : i ≠ j) (hk : k < prodL s) (ha : dg s i k ≤ a) (ha2 : a < sz s i) (hb : dg s j k ≤ b) (hb2 : b < sz s j) (en : En) (he : en = [.dat (tupN s), .dat (tupN t), .dat (iD i), .dat (iD j), .dat (.list ((spans s).map iD)), .dat (rowsD s), .dat (iD k), .dat (tupN (digs s k)), .dat (iD a), .dat (iD b)]) : knB3 en = .ok (flOf (kn3 s t i j k a b), en) := by
  subst he
  have hh := up_lt (x := fun h => dg s h k) (a := a) (b := b) hi hj q (dg_ok W.pos) ha hb ha2 hb2
  rw [pl_dg W.pos hk] at hh
  obtain ⟨l1, l2, l3⟩ := hh
  have b1 := sz_le W.pos hi
  have b2 := sp_le W.pos hi
  have b3 := sz_le W.pos hj
  have b4 := sp_le W.pos hj
  have hp := W.prod
  unfold knB3
  simp only [mSeq_ap, mAsg_ap, mIf_ap, mDrop_ap, mRet_ap, mNext_ap, mFor_ap, imRng_ap, imSeq_ap, tmB_ap, tmNot_ap, tmTru_ap, tmAnd_ap, tmOr_ap, tmYes_ap, e1_ap, e2_ap, eN_ap, lN_ap, eL_ap, lLst_ap, eCall_ap, aCons_ap, aNil_ap, eVar_ap, eC_ap, eAnd_ap, eOr_ap, eNot_ap, eIsi_ap, eIf_ap, List.set_cons_succ, List.set_cons_zero, List.getElem?_cons_zero, List.getElem?_cons_succ, bind_ok, calm_ok, gmName_ap, tru_bool, itemsOf_list, itemsOf_tuple, Bool.not_true, Bool.not_false, Bool.false_eq_true, if_false, if_true, endOf, dig_ix hi, dig_ix hj, fSub_N ha, fSub_N hb, sp_ix W hi, sp_ix W hj, fMul_N (by omega : a - dg s i k < 2 ^ 62) (by omega : sp s i < 2 ^ 62), fMul_N (by omega : b - dg s j k < 2 ^ 62) (by omega : sp s j < 2 ^ 62), odd_sum_ok W l1 l2 l3]
  unfold kn3 oddP
  cases decide ((at0 t k + at0 t (k + (a - dg s i k) * sp s i) + at0 t (k + (b - dg s j k) * sp s j) + at0 t (k + (a - dg s i k) * sp s i + (b - dg s j k) * sp s j)) % 2 = 1) <;> rfl
theorem kn1_ok (W : Wd s t) {i j k : Nat} (hi : i < s.length) (hj : j < s.length) (q : i ≠ j) (hk : k < prodL s) (v7 v8 v9 : SV) : ∃ v7' v8' v9', knB1 [.dat (tupN s), .dat (tupN t), .dat (iD i), .dat (iD j), .dat (.list ((spans s).map iD)), .dat (rowsD s), .dat (iD k), v7, v8, v9] = .ok (flOf (kn1 s t i j k), [.dat (tupN s), .dat (tupN t), .dat (iD i), .dat (iD j), .dat (.list ((spans s).map iD)), .dat (rowsD s), .dat (iD k), v7', v8', v9']) := by
  have b1 := sz_le W.pos hi
  have b3 := sz_le W.pos hj
  have d1 : dg s i k < sz s i := dg_ok (p := k) W.pos i hi
  have d2 : dg s j k < sz s j := dg_ok (p := k) W.pos j hj
  have hp := W.prod
  have r1 : rng2 [iD (dg s i k + 1), iD (sz s i)] = .ok ((rngN (dg s i k + 1) (sz s i)).map iD) := rng2_N _ _ (by omega) (by omega)
  have r2 : rng2 [iD (dg s j k + 1), iD (sz s j)] = .ok ((rngN (dg s j k + 1) (sz s j)).map iD) := rng2_N _ _ (by omega) (by omega)
  have e1' : (PyData.int 1) = iD 1 := rfl
  obtain ⟨en', hf, v8', v9', rfl⟩ := find_rng2 (j := 8) (a := dg s i k + 1) (b := sz s i) (bd := knB2) (r := kn2 s t i j k) (fun en => ∃ v8 v9, en = [.dat (tupN s), .dat (tupN t), .dat (iD i), .dat (iD j), .dat (.list ((spans s).map iD)), .dat (rowsD s), .dat (iD k), .dat (tupN (digs s k)), v8, v9]) (en := [.dat (tupN s), .dat (tupN t), .dat (iD i), .dat (iD j), .dat (.list ((spans s).map iD)), .dat (rowsD s), .dat (iD k), .dat (tupN (digs s k)), v8, v9]) ⟨v8, v9, rfl⟩ (by
    rintro a en h1 h2 ⟨v8, v9, rfl⟩
    obtain ⟨en', hf, v9', rfl⟩ := find_rng2 (j := 9) (a := dg s j k + 1) (b := sz s j) (bd := knB3) (r := kn3 s t i j k a) (fun en => ∃ v9, en = [.dat (tupN s), .dat (tupN t), .dat (iD i), .dat (iD j), .dat (.list ((spans s).map iD)), .dat (rowsD s), .dat (iD k), .dat (tupN (digs s k)), .dat (iD a), v9]) (en := [.dat (tupN s), .dat (tupN t), .dat (iD i), .dat (iD j), .dat (.list ((spans s).map iD)), .dat (rowsD s), .dat (iD k), .dat (tupN (digs s k)), .dat (iD a), v9]) ⟨v9, rfl⟩ (by
      rintro b en h3 h4 ⟨v9, rfl⟩
      exact ⟨_, kn3_ok W hi hj q hk (by omega) h2 (by omega) h4 _ rfl, _, rfl⟩)
    refine ⟨_, ?_, .dat (iD a), v9', rfl⟩
    show knB2 [.dat (tupN s), .dat (tupN t), .dat (iD i), .dat (iD j), .dat (.list ((spans s).map iD)), .dat (rowsD s), .dat (iD k), .dat (tupN (digs s k)), .dat (iD a), v9] = _
    unfold knB2
    simp only [mSeq_ap, mAsg_ap, mIf_ap, mDrop_ap, mRet_ap, mNext_ap, mFor_ap, imRng_ap, imSeq_ap, tmB_ap, tmNot_ap, tmTru_ap, tmAnd_ap, tmOr_ap, tmYes_ap, e1_ap, e2_ap, eN_ap, lN_ap, eL_ap, lLst_ap, eCall_ap, aCons_ap, aNil_ap, eVar_ap, eC_ap, eAnd_ap, eOr_ap, eNot_ap, eIsi_ap, eIf_ap, List.set_cons_succ, List.set_cons_zero, List.getElem?_cons_zero, List.getElem?_cons_succ, bind_ok, calm_ok, gmName_ap, tru_bool, itemsOf_list, itemsOf_tuple, Bool.not_true, Bool.not_false, Bool.false_eq_true, if_false, if_true, endOf, dig_ix hj, e1', fAdd_N, sz_ix hj, r2, hf]
    rfl)
  refine ⟨.dat (tupN (digs s k)), v8', v9', ?_⟩
  unfold knB1
  rw [mSeq_nx (en1 := [.dat (tupN s), .dat (tupN t), .dat (iD i), .dat (iD j), .dat (.list ((spans s).map iD)), .dat (rowsD s), .dat (iD k), .dat (tupN (digs s k)), v8, v9]) (by simp only [mSeq_ap, mAsg_ap, mIf_ap, mDrop_ap, mRet_ap, mNext_ap, mFor_ap, imRng_ap, imSeq_ap, tmB_ap, tmNot_ap, tmTru_ap, tmAnd_ap, tmOr_ap, tmYes_ap, e1_ap, e2_ap, eN_ap, lN_ap, eL_ap, lLst_ap, eCall_ap, aCons_ap, aNil_ap, eVar_ap, eC_ap, eAnd_ap, eOr_ap, eNot_ap, eIsi_ap, eIf_ap, List.set_cons_succ, List.set_cons_zero, List.getElem?_cons_zero, List.getElem?_cons_succ, bind_ok, calm_ok, gmName_ap, tru_bool, itemsOf_list, itemsOf_tuple, Bool.not_true, Bool.not_false, Bool.false_eq_true, if_false, if_true, endOf, row_ix hk])]
  simp only [mSeq_ap, mAsg_ap, mIf_ap, mDrop_ap, mRet_ap, mNext_ap, mFor_ap, imRng_ap, imSeq_ap, tmB_ap, tmNot_ap, tmTru_ap, tmAnd_ap, tmOr_ap, tmYes_ap, e1_ap, e2_ap, eN_ap, lN_ap, eL_ap, lLst_ap, eCall_ap, aCons_ap, aNil_ap, eVar_ap, eC_ap, eAnd_ap, eOr_ap, eNot_ap, eIsi_ap, eIf_ap, List.set_cons_succ, List.set_cons_zero, List.getElem?_cons_zero, List.getElem?_cons_succ, bind_ok, calm_ok, gmName_ap, tru_bool, itemsOf_list, itemsOf_tuple, Bool.not_true, Bool.not_false, Bool.false_eq_true, if_false, if_true, endOf, dig_ix hi, e1', fAdd_N, sz_ix hi, r1, hf]
  rfl
theorem kn_true {i j : Nat} {d : D} (h : kn s t i j = some d) : d = .bool true := by
  obtain ⟨k, _, h1⟩ := List.exists_of_findSome?_eq_some h
  obtain ⟨a, _, h2⟩ := List.exists_of_findSome?_eq_some h1
  obtain ⟨b, _, h3⟩ := List.exists_of_findSome?_eq_some h2
  unfold kn3 at h3
  split at h3
  · exact (Option.some.inj h3).symm
  · cases h3
theorem fLen_rows : fLen [rowsD s] = .ok (iD (prodL s)) := by
  unfold rowsD
  rw [fLen_listTN, List.length_map, List.length_range]
theorem knit_ok (W : Wd s t) {i j : Nat} (hi : i < s.length) (hj : j < s.length) (q : i ≠ j) : M__law_knit [tupN s, tupN t, iD i, iD j] = .ok (.bool (kn s t i j).isSome) := by
  have hp := W.prod
  have e : M__law_knit [tupN s, tupN t, iD i, iD j] = ((endOf (m__law_knit [.dat (tupN s), .dat (tupN t), .dat (iD i), .dat (iD j), .un, .un, .un, .un, .un, .un])).bind fun p => .ok p.1) := rfl
  rw [e]
  have em : m__law_knit = mSeq (mAsg (gmName 4) (eCall M__law_steps (aCons (eVar 0) aNil))) (mSeq (mAsg (gmName 5) (eCall M__law_settings (aCons (eVar 0) aNil))) (mSeq (mFor (imRng rng1 (aCons (eN fLen (aCons (eVar 5) aNil)) aNil)) (gmName 6) knB1) (mRet (eC (.bool false))))) := rfl
  obtain ⟨en', hf, v6, v7, v8, v9, rfl⟩ := find_rng (j := 6) (n := prodL s) (b := knB1) (r := kn1 s t i j) (fun en => ∃ v6 v7 v8 v9, en = [.dat (tupN s), .dat (tupN t), .dat (iD i), .dat (iD j), .dat (.list ((spans s).map iD)), .dat (rowsD s), v6, v7, v8, v9]) (en := [.dat (tupN s), .dat (tupN t), .dat (iD i), .dat (iD j), .dat (.list ((spans s).map iD)), .dat (rowsD s), .un, .un, .un, .un]) ⟨_, _, _, _, rfl⟩ (by
    rintro k en hk ⟨v6, v7, v8, v9, rfl⟩
    obtain ⟨v7', v8', v9', h⟩ := kn1_ok W hi hj q hk v7 v8 v9
    exact ⟨_, h, _, v7', v8', v9', rfl⟩)
  rw [em, mSeq_nx (en1 := [.dat (tupN s), .dat (tupN t), .dat (iD i), .dat (iD j), .dat (.list ((spans s).map iD)), .un, .un, .un, .un, .un]) (by simp only [mSeq_ap, mAsg_ap, mIf_ap, mDrop_ap, mRet_ap, mNext_ap, mFor_ap, imRng_ap, imSeq_ap, tmB_ap, tmNot_ap, tmTru_ap, tmAnd_ap, tmOr_ap, tmYes_ap, e1_ap, e2_ap, eN_ap, lN_ap, eL_ap, lLst_ap, eCall_ap, aCons_ap, aNil_ap, eVar_ap, eC_ap, eAnd_ap, eOr_ap, eNot_ap, eIsi_ap, eIf_ap, List.set_cons_succ, List.set_cons_zero, List.getElem?_cons_zero, List.getElem?_cons_succ, bind_ok, calm_ok, gmName_ap, tru_bool, itemsOf_list, itemsOf_tuple, Bool.not_true, Bool.not_false, Bool.false_eq_true, if_false, if_true, endOf, steps_ok W])]
  rw [mSeq_nx (en1 := [.dat (tupN s), .dat (tupN t), .dat (iD i), .dat (iD j), .dat (.list ((spans s).map iD)), .dat (rowsD s), .un, .un, .un, .un]) (by simp only [mSeq_ap, mAsg_ap, mIf_ap, mDrop_ap, mRet_ap, mNext_ap, mFor_ap, imRng_ap, imSeq_ap, tmB_ap, tmNot_ap, tmTru_ap, tmAnd_ap, tmOr_ap, tmYes_ap, e1_ap, e2_ap, eN_ap, lN_ap, eL_ap, lLst_ap, eCall_ap, aCons_ap, aNil_ap, eVar_ap, eC_ap, eAnd_ap, eOr_ap, eNot_ap, eIsi_ap, eIf_ap, List.set_cons_succ, List.set_cons_zero, List.getElem?_cons_zero, List.getElem?_cons_succ, bind_ok, calm_ok, gmName_ap, tru_bool, itemsOf_list, itemsOf_tuple, Bool.not_true, Bool.not_false, Bool.false_eq_true, if_false, if_true, endOf, settings_ok W])]
  rw [mSeq_fl (o := kn s t i j) (en1 := [.dat (tupN s), .dat (tupN t), .dat (iD i), .dat (iD j), .dat (.list ((spans s).map iD)), .dat (rowsD s), v6, v7, v8, v9]) (by
    simp only [mSeq_ap, mAsg_ap, mIf_ap, mDrop_ap, mRet_ap, mNext_ap, mFor_ap, imRng_ap, imSeq_ap, tmB_ap, tmNot_ap, tmTru_ap, tmAnd_ap, tmOr_ap, tmYes_ap, e1_ap, e2_ap, eN_ap, lN_ap, eL_ap, lLst_ap, eCall_ap, aCons_ap, aNil_ap, eVar_ap, eC_ap, eAnd_ap, eOr_ap, eNot_ap, eIsi_ap, eIf_ap, List.set_cons_succ, List.set_cons_zero, List.getElem?_cons_zero, List.getElem?_cons_succ, bind_ok, calm_ok, gmName_ap, tru_bool, itemsOf_list, itemsOf_tuple, Bool.not_true, Bool.not_false, Bool.false_eq_true, if_false, if_true, endOf, fLen_rows, rng1_nat (by omega : prodL s ≤ 100000), hf]
    rfl)]
  cases h : kn s t i j with
  | none => rfl
  | some d => rw [kn_true h]; rfl
end
end K07
end

section
set_option Elab.async false
set_option linter.all false
set_option maxRecDepth 100000
set_option maxHeartbeats 4000000
/-! K07F: who is knit: by the program, by the law; seams. -/
namespace K07
open PySem PySem.Spec PyProof.Rows L2 Mir Dg
section
variable {s t : List Nat}
theorem spot_is {i j : Nat} {d : D} (h : spot s t i j = some d) : ∃ p a b, d = .tuple [iD p, iD a, iD b] ∧ p ∈ corner s (restL s.length i j) ∧ 1 ≤ a ∧ a < sz s i ∧ 1 ≤ b ∧ b < sz s j ∧ oddP s t i j p a b = true := by
  obtain ⟨p, hp, h1⟩ := List.exists_of_findSome?_eq_some h
  obtain ⟨a, ha, h2⟩ := List.exists_of_findSome?_eq_some h1
  obtain ⟨b, hb, h3⟩ := List.exists_of_findSome?_eq_some h2
  obtain ⟨a1, a2⟩ := mem_rngN.mp ha
  obtain ⟨b1, b2⟩ := mem_rngN.mp hb
  unfold spot3 at h3
  split at h3
  · rename_i q
    exact ⟨p, a, b, (Option.some.inj h3).symm, hp, a1, a2, b1, b2, q⟩
  · cases h3
theorem odd_rect (W : Wd s t) {i j p a b : Nat} (hi : i < s.length) (hj : j < s.length) (q : i ≠ j) (hp : p < prodL s) (ha : dg s i p ≤ a) (hb : dg s j p ≤ b) : oddP s t i j p (a - dg s i p) (b - dg s j p) = decide (rect s (at0 t) (fun h => dg s h p) i j a b % 2 = 1) := by
  have := rect_up (s := s) (T := at0 t) (x := fun h => dg s h p) (i := i) (j := j) (a := a) (b := b) q hi hj ha hb
  rw [pl_dg W.pos hp] at this
  rw [this]
  rfl
theorem knit_of_spot (W : Wd s t) {i j : Nat} (hi : i < s.length) (hj : j < s.length) (q : i ≠ j) : (spot s t i j).isSome = true ↔ Knit s (at0 t) i j := by
  constructor
  · intro h
    obtain ⟨d, hd⟩ := Option.isSome_iff_exists.mp h
    obtain ⟨p, a, b, _, hp, a1, a2, b1, b2, ho⟩ := spot_is hd
    have A := (away_of W hi hj).mp hp
    have := odd_rect (t := t) W hi hj q A.lt (a := a) (b := b) (by rw [A.zi]; omega) (by rw [A.zj]; omega)
    rw [A.zi, A.zj, Nat.sub_zero, Nat.sub_zero, ho] at this
    exact ⟨fun h => dg s h p, a, b, dg_ok W.pos, a2, b2, of_decide_eq_true this.symm⟩
  · intro h
    obtain ⟨x, a, b, ok, xi, xj, a1, a2, b1, b2, ho⟩ := knit_zero q hi hj h
    have hp : pl s x < prodL s := pl_lt ok
    have di : dg s i (pl s x) = 0 := by rw [dg_pl W.pos ok hi]; exact xi
    have dj : dg s j (pl s x) = 0 := by rw [dg_pl W.pos ok hj]; exact xj
    have hm := (away_of W hi hj).mpr ⟨hp, di, dj⟩
    have hr := rect_up (s := s) (T := at0 t) (x := x) (i := i) (j := j) (a := a) (b := b) q hi hj (by omega) (by omega)
    rw [xi, xj, Nat.sub_zero, Nat.sub_zero] at hr
    have hodd : oddP s t i j (pl s x) a b = true := by
      unfold oddP
      rw [decide_eq_true_eq, ← hr]
      exact ho
    unfold spot
    rw [List.findSome?_isSome_iff]
    refine ⟨pl s x, hm, ?_⟩
    unfold spot1
    rw [List.findSome?_isSome_iff]
    refine ⟨a, mem_rngN.mpr ⟨a1, a2⟩, ?_⟩
    unfold spot2
    rw [List.findSome?_isSome_iff]
    refine ⟨b, mem_rngN.mpr ⟨b1, b2⟩, ?_⟩
    unfold spot3
    rw [if_pos hodd]
    rfl
theorem knit_of_kn (W : Wd s t) {i j : Nat} (hi : i < s.length) (hj : j < s.length) (q : i ≠ j) : (kn s t i j).isSome = true ↔ Knit s (at0 t) i j := by
  constructor
  · intro h
    obtain ⟨d, hd⟩ := Option.isSome_iff_exists.mp h
    obtain ⟨k, hk, h1⟩ := List.exists_of_findSome?_eq_some hd
    obtain ⟨a, ha, h2⟩ := List.exists_of_findSome?_eq_some h1
    obtain ⟨b, hb, h3⟩ := List.exists_of_findSome?_eq_some h2
    obtain ⟨a1, a2⟩ := mem_rngN.mp ha
    obtain ⟨b1, b2⟩ := mem_rngN.mp hb
    unfold kn3 at h3
    split at h3
    · rename_i ho
      rw [odd_rect W hi hj q (List.mem_range.mp hk) (by omega) (by omega)] at ho
      exact ⟨fun h => dg s h k, a, b, dg_ok W.pos, a2, b2, of_decide_eq_true ho⟩
    · cases h3
  · intro h
    obtain ⟨x, a, b, ok, xi, xj, a1, a2, b1, b2, ho⟩ := knit_zero q hi hj h
    have hp : pl s x < prodL s := pl_lt ok
    have di : dg s i (pl s x) = 0 := by rw [dg_pl W.pos ok hi]; exact xi
    have dj : dg s j (pl s x) = 0 := by rw [dg_pl W.pos ok hj]; exact xj
    have hr := rect_up (s := s) (T := at0 t) (x := x) (i := i) (j := j) (a := a) (b := b) q hi hj (by omega) (by omega)
    rw [xi, xj] at hr
    have hodd : oddP s t i j (pl s x) (a - dg s i (pl s x)) (b - dg s j (pl s x)) = true := by
      unfold oddP
      rw [decide_eq_true_eq, di, dj, ← hr]
      exact ho
    unfold kn
    rw [List.findSome?_isSome_iff]
    refine ⟨pl s x, List.mem_range.mpr hp, ?_⟩
    unfold kn1
    rw [List.findSome?_isSome_iff]
    refine ⟨a, mem_rngN.mpr ⟨by omega, a2⟩, ?_⟩
    unfold kn2
    rw [List.findSome?_isSome_iff]
    refine ⟨b, mem_rngN.mpr ⟨by omega, b2⟩, ?_⟩
    unfold kn3
    rw [if_pos hodd]
    rfl
def kb (s t : List Nat) (i j : Nat) : Bool := (spot s t i j).isSome
theorem kn_kb (W : Wd s t) {i j : Nat} (hi : i < s.length) (hj : j < s.length) (q : i ≠ j) : (kn s t i j).isSome = kb s t i j := by
  apply Bool.eq_iff_iff.mpr
  rw [knit_of_kn W hi hj q]
  exact (knit_of_spot W hi hj q).symm
theorem kb_symm (W : Wd s t) {i j : Nat} (hi : i < s.length) (hj : j < s.length) (q : i ≠ j) : kb s t i j = kb s t j i := by
  apply Bool.eq_iff_iff.mpr
  unfold kb
  rw [knit_of_spot W hi hj q, knit_of_spot W hj hi (Ne.symm q)]
  exact ⟨fun h => h.symm q, fun h => h.symm (Ne.symm q)⟩
/-! ### all pairs that are knit -/
def rowP (s t : List Nat) (i : Nat) : List (Nat × Nat) := ((rngN (i + 1) s.length).filter (kb s t i)).map fun j => (i, j)
def prs (s t : List Nat) : List (Nat × Nat) := (List.range s.length).flatMap (rowP s t)
def pD (p : Nat × Nat) : D := tupN [p.1, p.2]
theorem mem_prs {p : Nat × Nat} : p ∈ prs s t ↔ p.1 < p.2 ∧ p.2 < s.length ∧ kb s t p.1 p.2 = true := by
  obtain ⟨i, j⟩ := p
  unfold prs rowP
  rw [List.mem_flatMap]
  constructor
  · rintro ⟨i', hi', h⟩
    obtain ⟨j', hj', e⟩ := List.mem_map.mp h
    cases e
    obtain ⟨h1, h2⟩ := List.mem_filter.mp hj'
    obtain ⟨h3, h4⟩ := mem_rngN.mp h1
    exact ⟨h3, h4, h2⟩
  · rintro ⟨h1, h2, h3⟩
    have h1' : i < j := h1
    have h2' : j < s.length := h2
    exact ⟨i, List.mem_range.mpr (by omega), List.mem_map.mpr ⟨j, List.mem_filter.mpr ⟨mem_rngN.mpr ⟨by omega, h2⟩, h3⟩, rfl⟩⟩
theorem rowP_len (i : Nat) : (rowP s t i).length ≤ s.length := by
  unfold rowP
  rw [List.length_map]
  have := List.length_filter_le (kb s t i) (rngN (i + 1) s.length)
  have e : (rngN (i + 1) s.length).length = s.length - (i + 1) := by simp [rngN]
  omega
theorem flat_len {A B : Type} (f : A → List B) (k : Nat) : ∀ l : List A, (∀ x ∈ l, (f x).length ≤ k) → (l.flatMap f).length ≤ l.length * k
  | [], _ => by simp
  | a :: l, h => by
    have h1 := h a List.mem_cons_self
    have h2 := flat_len f k l fun x hx => h x (List.mem_cons_of_mem _ hx)
    rw [List.flatMap_cons, List.length_append, List.length_cons, Nat.succ_mul]
    omega
theorem prs_len (W : Wd s t) : (prs s t).length ≤ 36 := by
  have h6 := W.six
  have := flat_len (rowP s t) s.length (List.range s.length) fun x _ => rowP_len x
  rw [List.length_range] at this
  have : s.length * s.length ≤ 6 * 6 := Nat.mul_le_mul h6 h6
  unfold prs
  omega
theorem optD_not {i j : Nat} : fIsNot (optD (spot s t i j)) .none = .ok (.bool (kb s t i j)) := by
  unfold kb
  cases h : spot s t i j with
  | none => rfl
  | some d =>
    obtain ⟨p, a, b, rfl, _⟩ := spot_is h
    rfl
def kpB : Sm := mIf (tmB (e2 fIsNot (eCall M_odd_spot (aCons (eVar 0) (aCons (eVar 1) (aCons (eVar 3) (aCons (eVar 4) aNil))))) (eC .none))) (mApp 2 (eTup (aCons (eVar 3) (aCons (eVar 4) aNil)))) mNext
theorem kp_row (W : Wd s t) {i : Nat} (hi : i < s.length) {acc : List (Nat × Nat)} (ha : acc.length ≤ 1000) (v4 : SV) : ∃ v4', forGo (gmName 4) kpB ((rngN (i + 1) s.length).map iD) [.dat (tupN s), .dat (tupN t), .own (.lst (acc.map pD)), .dat (iD i), v4] = .ok (.nx, [.dat (tupN s), .dat (tupN t), .own (.lst ((acc ++ rowP s t i).map pD)), .dat (iD i), v4']) := by
  have h6 := W.six
  obtain ⟨en', h1, v4', rfl⟩ := for_rng2 (j := 4) (a := i + 1) (b := s.length) (bd := kpB) (fun k en => ∃ v4, en = [.dat (tupN s), .dat (tupN t), .own (.lst ((acc ++ (((List.range k).map (i + 1 + ·)).filter (kb s t i)).map fun j => (i, j)).map pD)), .dat (iD i), v4]) (en := [.dat (tupN s), .dat (tupN t), .own (.lst (acc.map pD)), .dat (iD i), v4]) ⟨v4, by simp⟩ (by
    rintro k en hk ⟨v4, rfl⟩
    have hne : i ≠ i + 1 + k := by omega
    have er : (((List.range (k + 1)).map (i + 1 + ·)).filter (kb s t i)).map (fun j => (i, j)) = (((List.range k).map (i + 1 + ·)).filter (kb s t i)).map (fun j => (i, j)) ++ if kb s t i (i + 1 + k) = true then [(i, i + 1 + k)] else [] := by
      rw [List.range_succ, List.map_append, List.filter_append, List.map_append]
      congr 1
      cases q : kb s t i (i + 1 + k) <;> simp [q]
    refine ⟨.nx, [.dat (tupN s), .dat (tupN t), .own (.lst ((acc ++ (((List.range (k + 1)).map (i + 1 + ·)).filter (kb s t i)).map fun j => (i, j)).map pD)), .dat (iD i), .dat (iD (i + 1 + k))], ?_, .inl rfl, _, rfl⟩
    show kpB [.dat (tupN s), .dat (tupN t), .own (.lst ((acc ++ (((List.range k).map (i + 1 + ·)).filter (kb s t i)).map fun j => (i, j)).map pD)), .dat (iD i), .dat (iD (i + 1 + k))] = _
    unfold kpB
    simp only [mSeq_ap, mAsg_ap, mIf_ap, mDrop_ap, mRet_ap, mNext_ap, mFor_ap, imRng_ap, imSeq_ap, tmB_ap, tmNot_ap, tmTru_ap, tmAnd_ap, tmOr_ap, tmYes_ap, e1_ap, e2_ap, eN_ap, lN_ap, eL_ap, lLst_ap, eCall_ap, aCons_ap, aNil_ap, eVar_ap, eC_ap, eAnd_ap, eOr_ap, eNot_ap, eIsi_ap, eIf_ap, List.set_cons_succ, List.set_cons_zero, List.getElem?_cons_zero, List.getElem?_cons_succ, bind_ok, calm_ok, gmName_ap, tru_bool, itemsOf_list, itemsOf_tuple, Bool.not_true, Bool.not_false, Bool.false_eq_true, if_false, if_true, endOf, odd_spot_ok W hi (by omega : i + 1 + k < s.length) hne, optD_not]
    rw [er]
    cases q : kb s t i (i + 1 + k) with
    | true =>
      rw [if_pos rfl, if_pos rfl]
      rw [mApp_ok (ds := (acc ++ (((List.range k).map (i + 1 + ·)).filter (kb s t i)).map fun j => (i, j)).map pD) (d := tupN [i, i + 1 + k]) rfl rfl (by
        rw [List.length_map, List.length_append, List.length_map]
        have := List.length_filter_le (kb s t i) ((List.range k).map (i + 1 + ·))
        rw [List.length_map, List.length_range] at this
        show _ < 100000
        omega)]
      rw [← List.append_assoc, List.map_append (l₁ := acc ++ _)]
      rfl
    | false =>
      rw [if_neg Bool.false_ne_true, if_neg Bool.false_ne_true, List.append_nil])
  have e : s.length - (i + 1) = s.length - (i + 1) := rfl
  refine ⟨v4', ?_⟩
  exact h1
theorem knit_pairs_ok (W : Wd s t) : M_knit_pairs [tupN s, tupN t] = .ok (FD ((prs s t).map fun p => [p.1, p.2])) := by
  have h6 := W.six
  have e : M_knit_pairs [tupN s, tupN t] = ((endOf (m_knit_pairs [.dat (tupN s), .dat (tupN t), .un, .un, .un])).bind fun p => .ok p.1) := rfl
  rw [e]
  let b1 : Sm := mFor (imRng rng2 (aCons (e2 fAdd (eVar 3) (eC (.int 1))) (aCons (eN fLen (aCons (eVar 0) aNil)) aNil))) (gmName 4) kpB
  have em : m_knit_pairs = mSeq (mDrop (eCall M_a_want (aCons (eCall M_is_sizes (aCons (eVar 0) aNil)) (aCons (eC (.str "sizes")) aNil)))) (mSeq (mDrop (eCall M_a_want (aCons (eCall M_is_table (aCons (eVar 0) (aCons (eVar 1) aNil))) (aCons (eC (.str "table")) aNil)))) (mSeq (mAsgO 2 (lLst aNil)) (mSeq (mFor (imRng rng1 (aCons (eN fLen (aCons (eVar 0) aNil)) aNil)) (gmName 3) b1) (mRet (eN fTuple (aCons (eVar 2) aNil)))))) := rfl
  obtain ⟨en', hf, v3, v4, rfl⟩ := for_rng (j := 3) (n := s.length) (b := b1) (fun i en => ∃ v3 v4, en = [.dat (tupN s), .dat (tupN t), .own (.lst (((List.range i).flatMap (rowP s t)).map pD)), v3, v4]) (en := [.dat (tupN s), .dat (tupN t), .own (.lst []), .un, .un]) ⟨.un, .un, rfl⟩ (by
    rintro i en hi ⟨v3, v4, rfl⟩
    have hl := flat_len (rowP s t) s.length (List.range i) fun x _ => rowP_len x
    rw [List.length_range] at hl
    have : i * s.length ≤ 6 * 6 := Nat.mul_le_mul (by omega) h6
    obtain ⟨v4', h1⟩ := kp_row W hi (acc := (List.range i).flatMap (rowP s t)) (by omega) v4
    refine ⟨.nx, [.dat (tupN s), .dat (tupN t), .own (.lst (((List.range (i + 1)).flatMap (rowP s t)).map pD)), .dat (iD i), v4'], ?_, .inl rfl, _, v4', rfl⟩
    have er : (List.range (i + 1)).flatMap (rowP s t) = (List.range i).flatMap (rowP s t) ++ rowP s t i := by rw [List.range_succ, List.flatMap_append, List.flatMap_singleton]
    rw [er]
    show b1 [.dat (tupN s), .dat (tupN t), .own (.lst (((List.range i).flatMap (rowP s t)).map pD)), .dat (iD i), v4] = _
    have hr : rng2 [iD (i + 1), iD s.length] = .ok ((rngN (i + 1) s.length).map iD) := rng2_N _ _ (by omega) (by omega)
    have ha : fAdd (iD i) (.int 1) = .ok (iD (i + 1)) := fAdd_N i 1
    simp only [b1, mSeq_ap, mAsg_ap, mIf_ap, mDrop_ap, mRet_ap, mNext_ap, mFor_ap, imRng_ap, imSeq_ap, tmB_ap, tmNot_ap, tmTru_ap, tmAnd_ap, tmOr_ap, tmYes_ap, e1_ap, e2_ap, eN_ap, lN_ap, eL_ap, lLst_ap, eCall_ap, aCons_ap, aNil_ap, eVar_ap, eC_ap, eAnd_ap, eOr_ap, eNot_ap, eIsi_ap, eIf_ap, List.set_cons_succ, List.set_cons_zero, List.getElem?_cons_zero, List.getElem?_cons_succ, bind_ok, calm_ok, gmName_ap, tru_bool, itemsOf_list, itemsOf_tuple, Bool.not_true, Bool.not_false, Bool.false_eq_true, if_false, if_true, endOf, ha, fLen_tupN, hr, h1])
  rw [em, mSeq_nx (en1 := [.dat (tupN s), .dat (tupN t), .un, .un, .un]) (by simp only [mSeq_ap, mAsg_ap, mIf_ap, mDrop_ap, mRet_ap, mNext_ap, mFor_ap, imRng_ap, imSeq_ap, tmB_ap, tmNot_ap, tmTru_ap, tmAnd_ap, tmOr_ap, tmYes_ap, e1_ap, e2_ap, eN_ap, lN_ap, eL_ap, lLst_ap, eCall_ap, aCons_ap, aNil_ap, eVar_ap, eC_ap, eAnd_ap, eOr_ap, eNot_ap, eIsi_ap, eIf_ap, List.set_cons_succ, List.set_cons_zero, List.getElem?_cons_zero, List.getElem?_cons_succ, bind_ok, calm_ok, gmName_ap, tru_bool, itemsOf_list, itemsOf_tuple, Bool.not_true, Bool.not_false, Bool.false_eq_true, if_false, if_true, endOf, is_sizes_ok W, want_true])]
  rw [mSeq_nx (en1 := [.dat (tupN s), .dat (tupN t), .un, .un, .un]) (by simp only [mSeq_ap, mAsg_ap, mIf_ap, mDrop_ap, mRet_ap, mNext_ap, mFor_ap, imRng_ap, imSeq_ap, tmB_ap, tmNot_ap, tmTru_ap, tmAnd_ap, tmOr_ap, tmYes_ap, e1_ap, e2_ap, eN_ap, lN_ap, eL_ap, lLst_ap, eCall_ap, aCons_ap, aNil_ap, eVar_ap, eC_ap, eAnd_ap, eOr_ap, eNot_ap, eIsi_ap, eIf_ap, List.set_cons_succ, List.set_cons_zero, List.getElem?_cons_zero, List.getElem?_cons_succ, bind_ok, calm_ok, gmName_ap, tru_bool, itemsOf_list, itemsOf_tuple, Bool.not_true, Bool.not_false, Bool.false_eq_true, if_false, if_true, endOf, is_table_ok W, want_true])]
  rw [mSeq_nx (en1 := [.dat (tupN s), .dat (tupN t), .own (.lst []), .un, .un]) rfl]
  rw [mSeq_nx (en1 := [.dat (tupN s), .dat (tupN t), .own (.lst ((prs s t).map pD)), v3, v4]) (by
    simp only [mSeq_ap, mAsg_ap, mIf_ap, mDrop_ap, mRet_ap, mNext_ap, mFor_ap, imRng_ap, imSeq_ap, tmB_ap, tmNot_ap, tmTru_ap, tmAnd_ap, tmOr_ap, tmYes_ap, e1_ap, e2_ap, eN_ap, lN_ap, eL_ap, lLst_ap, eCall_ap, aCons_ap, aNil_ap, eVar_ap, eC_ap, eAnd_ap, eOr_ap, eNot_ap, eIsi_ap, eIf_ap, List.set_cons_succ, List.set_cons_zero, List.getElem?_cons_zero, List.getElem?_cons_succ, bind_ok, calm_ok, gmName_ap, tru_bool, itemsOf_list, itemsOf_tuple, Bool.not_true, Bool.not_false, Bool.false_eq_true, if_false, if_true, endOf, fLen_tupN, rng1_nat (by omega : s.length ≤ 100000), hf]
    rfl)]
  have hd : PyData.tuple ((prs s t).map pD) = FD ((prs s t).map fun p => [p.1, p.2]) := by
    unfold FD
    rw [List.map_map]
    rfl
  rw [← hd]
  rfl
/-! ### the doors -/
theorem want_houses_ok (W : Wd s t) {i j : Nat} (hi : i < s.length) (hj : j < s.length) (q : i ≠ j) : M__want_houses [tupN s, tupN t, iD i, iD j] = .ok .none := by
  have e : M__want_houses [tupN s, tupN t, iD i, iD j] = ((endOf (m__want_houses [.dat (tupN s), .dat (tupN t), .dat (iD i), .dat (iD j)])).bind fun p => .ok p.1) := rfl
  rw [e]
  unfold m__want_houses
  simp only [mSeq_ap, mAsg_ap, mIf_ap, mDrop_ap, mRet_ap, mNext_ap, mFor_ap, imRng_ap, imSeq_ap, tmB_ap, tmNot_ap, tmTru_ap, tmAnd_ap, tmOr_ap, tmYes_ap, e1_ap, e2_ap, eN_ap, lN_ap, eL_ap, lLst_ap, eCall_ap, aCons_ap, aNil_ap, eVar_ap, eC_ap, eAnd_ap, eOr_ap, eNot_ap, eIsi_ap, eIf_ap, List.set_cons_succ, List.set_cons_zero, List.getElem?_cons_zero, List.getElem?_cons_succ, bind_ok, calm_ok, gmName_ap, tru_bool, itemsOf_list, itemsOf_tuple, Bool.not_true, Bool.not_false, Bool.false_eq_true, if_false, if_true, endOf, is_sizes_ok W, want_true, is_table_ok W, is_number_nat, fLen_tupN, fLt_N, decide_eq_true hi, decide_eq_true hj, fNe_N, decide_eq_false (Ne.symm q)]
theorem are_knit_ok (W : Wd s t) {i j : Nat} (hi : i < s.length) (hj : j < s.length) (q : i ≠ j) : M_are_knit [tupN s, tupN t, iD i, iD j] = .ok (.bool (kb s t i j)) := by
  have e : M_are_knit [tupN s, tupN t, iD i, iD j] = ((endOf (m_are_knit [.dat (tupN s), .dat (tupN t), .dat (iD i), .dat (iD j)])).bind fun p => .ok p.1) := rfl
  rw [e]
  unfold m_are_knit
  simp only [mSeq_ap, mAsg_ap, mIf_ap, mDrop_ap, mRet_ap, mNext_ap, mFor_ap, imRng_ap, imSeq_ap, tmB_ap, tmNot_ap, tmTru_ap, tmAnd_ap, tmOr_ap, tmYes_ap, e1_ap, e2_ap, eN_ap, lN_ap, eL_ap, lLst_ap, eCall_ap, aCons_ap, aNil_ap, eVar_ap, eC_ap, eAnd_ap, eOr_ap, eNot_ap, eIsi_ap, eIf_ap, List.set_cons_succ, List.set_cons_zero, List.getElem?_cons_zero, List.getElem?_cons_succ, bind_ok, calm_ok, gmName_ap, tru_bool, itemsOf_list, itemsOf_tuple, Bool.not_true, Bool.not_false, Bool.false_eq_true, if_false, if_true, endOf, want_houses_ok W hi hj q, odd_spot_ok W hi hj q, optD_not]
theorem odd_four_none (W : Wd s t) {i j : Nat} (hi : i < s.length) (hj : j < s.length) (q : i ≠ j) (h : spot s t i j = none) : M_odd_four [tupN s, tupN t, iD i, iD j] = .ok .none := by
  have e : M_odd_four [tupN s, tupN t, iD i, iD j] = ((endOf (m_odd_four [.dat (tupN s), .dat (tupN t), .dat (iD i), .dat (iD j), .un, .un, .un, .un])).bind fun p => .ok p.1) := rfl
  rw [e]
  unfold m_odd_four
  have hn : fIs .none .none = .ok (.bool true) := rfl
  simp only [mSeq_ap, mAsg_ap, mIf_ap, mDrop_ap, mRet_ap, mNext_ap, mFor_ap, imRng_ap, imSeq_ap, tmB_ap, tmNot_ap, tmTru_ap, tmAnd_ap, tmOr_ap, tmYes_ap, e1_ap, e2_ap, eN_ap, lN_ap, eL_ap, lLst_ap, eCall_ap, aCons_ap, aNil_ap, eVar_ap, eC_ap, eAnd_ap, eOr_ap, eNot_ap, eIsi_ap, eIf_ap, List.set_cons_succ, List.set_cons_zero, List.getElem?_cons_zero, List.getElem?_cons_succ, bind_ok, calm_ok, gmName_ap, tru_bool, itemsOf_list, itemsOf_tuple, Bool.not_true, Bool.not_false, Bool.false_eq_true, if_false, if_true, endOf, want_houses_ok W hi hj q, odd_spot_ok W hi hj q, h, optD, hn]
theorem odd_four_some (W : Wd s t) {i j : Nat} (hi : i < s.length) (hj : j < s.length) (q : i ≠ j) {p a b : Nat} (h : spot s t i j = some (.tuple [iD p, iD a, iD b])) : M_odd_four [tupN s, tupN t, iD i, iD j] = .ok (.tuple [tupN (digs s p), iD i, iD a, iD j, iD b]) := by
  have e : M_odd_four [tupN s, tupN t, iD i, iD j] = ((endOf (m_odd_four [.dat (tupN s), .dat (tupN t), .dat (iD i), .dat (iD j), .un, .un, .un, .un])).bind fun p => .ok p.1) := rfl
  rw [e]
  unfold m_odd_four
  have hn : fIs (.tuple [iD p, iD a, iD b]) .none = .ok (.bool false) := rfl
  have hg : gmTup [5, 6, 7] (.tuple [iD p, iD a, iD b]) [.dat (tupN s), .dat (tupN t), .dat (iD i), .dat (iD j), .dat (.tuple [iD p, iD a, iD b]), .un, .un, .un] = .ok [.dat (tupN s), .dat (tupN t), .dat (iD i), .dat (iD j), .dat (.tuple [iD p, iD a, iD b]), .dat (iD p), .dat (iD a), .dat (iD b)] := rfl
  have hz : ([tupN (digs s p), iD i, iD a, iD j, iD b] : List D).length ≤ big := by show 5 ≤ 100000; omega
  simp only [mSeq_ap, mAsg_ap, mIf_ap, mDrop_ap, mRet_ap, mNext_ap, mFor_ap, imRng_ap, imSeq_ap, tmB_ap, tmNot_ap, tmTru_ap, tmAnd_ap, tmOr_ap, tmYes_ap, e1_ap, e2_ap, eN_ap, lN_ap, eL_ap, lLst_ap, eCall_ap, aCons_ap, aNil_ap, eVar_ap, eC_ap, eAnd_ap, eOr_ap, eNot_ap, eIsi_ap, eIf_ap, List.set_cons_succ, List.set_cons_zero, List.getElem?_cons_zero, List.getElem?_cons_succ, bind_ok, calm_ok, gmName_ap, tru_bool, itemsOf_list, itemsOf_tuple, Bool.not_true, Bool.not_false, Bool.false_eq_true, if_false, if_true, endOf, want_houses_ok W hi hj q, odd_spot_ok W hi hj q, h, optD, hn, hg, eTup_ap, setting_by_ok W p, if_pos hz]
end
end K07
end

section
set_option Elab.async false
set_option linter.all false
set_option maxRecDepth 100000
set_option maxHeartbeats 4000000
/-! K07G: lots, seams by the program and by the law. -/
namespace K07
open PySem PySem.Spec PyProof.Rows L2 Mir Dg
theorem fNe_bool (a b : Bool) : fNe (.bool a) (.bool b) = .ok (.bool (a != b)) := by cases a <;> cases b <;> rfl
theorem fEq_bool (a b : Bool) : fEq (.bool a) (.bool b) = .ok (.bool (a == b)) := by cases a <;> cases b <;> rfl
theorem find_if {A : Type} {c : A → Bool} {d : D} : ∀ l : List A, l.findSome? (fun x => if c x = true then some d else none) = if l.any c = true then some d else none
  | [] => rfl
  | a :: l => by
    rw [List.findSome?_cons, List.any_cons]
    cases q : c a with
    | true => rfl
    | false =>
      rw [if_neg Bool.false_ne_true, Bool.false_or]
      exact find_if l
def lotB : Sm := mSeq (mIf (tmOr (tmNot (tmTru (eCall M_house_fits (aCons (eVar 0) (aCons (eVar 3) aNil))))) (tmB (e2 fLe (eVar 3) (eVar 2)))) (mRet (eC (.bool false))) mNext) (mAsg (gmName 2) (eVar 3))
theorem lot_fits_ok {n : Nat} {lot : List Nat} (hl : Lot n lot) : M_lot_fits [iD n, tupN lot] = .ok (.bool true) := by
  have e : M_lot_fits [iD n, tupN lot] = ((endOf (m_lot_fits [.dat (iD n), .dat (tupN lot), .un, .un])).bind fun p => .ok p.1) := rfl
  rw [e]
  have asc := hl.asc
  obtain ⟨en', hf, l, v, rfl, _⟩ := for_items (gm := gmName 3) (b := lotB) (enc := iD) (fun i en => ∃ (l : Int) (v : SV), en = [.dat (iD n), .dat (tupN lot), .dat (.int l), v] ∧ ∀ k (h : k < lot.length), i ≤ k → l < (lot[k] : Int)) lot (k := 0) (en := [.dat (iD n), .dat (tupN lot), .dat (.int (-1)), .un]) ⟨-1, .un, rfl, fun k h _ => by omega⟩ (by
    rintro i hi en ⟨l, v, rfl, hb⟩
    rw [Nat.zero_add] at hb ⊢
    have h1 := hb i hi (Nat.le_refl _)
    have h2 : lot[i] < n := hl.lt _ (List.getElem_mem _)
    refine ⟨_, .nx, [.dat (iD n), .dat (tupN lot), .dat (.int (lot[i] : Int)), .dat (iD lot[i])], rfl, ?_, .inl rfl, (lot[i] : Int), _, rfl, fun k h hk => by
      have := List.pairwise_iff_getElem.mp asc i k hi h (by omega)
      omega⟩
    show lotB [.dat (iD n), .dat (tupN lot), .dat (.int l), .dat (iD lot[i])] = _
    have hle : fLe (iD lot[i]) (.int l) = .ok (.bool false) := by
      have := fLe_int (lot[i] : Int) l
      rw [decide_eq_false (by omega)] at this
      exact this
    unfold lotB
    simp only [mSeq_ap, mAsg_ap, mIf_ap, mDrop_ap, mRet_ap, mNext_ap, mFor_ap, imRng_ap, imSeq_ap, tmB_ap, tmNot_ap, tmTru_ap, tmAnd_ap, tmOr_ap, tmYes_ap, e1_ap, e2_ap, eN_ap, lN_ap, eL_ap, lLst_ap, eCall_ap, aCons_ap, aNil_ap, eVar_ap, eC_ap, eAnd_ap, eOr_ap, eNot_ap, eIsi_ap, eIf_ap, List.set_cons_succ, List.set_cons_zero, List.getElem?_cons_zero, List.getElem?_cons_succ, bind_ok, calm_ok, gmName_ap, tru_bool, itemsOf_list, itemsOf_tuple, Bool.not_true, Bool.not_false, Bool.false_eq_true, if_false, if_true, endOf, house_nat, decide_eq_true h2, hle])
  have em : m_lot_fits = mSeq (mIf (tmNot (tmTru (eIsi .tup (eVar 1)))) (mRet (eC (.bool false))) mNext) (mSeq (mAsg (gmName 2) (e1 fNeg (eC (.int 1)))) (mSeq (mFor (imSeq (eVar 1)) (gmName 3) lotB) (mRet (eC (.bool true))))) := rfl
  have ht : isi .tup (tupN lot) = true := rfl
  have hi : itemsOf (tupN lot) = .ok (lot.map iD) := rfl
  rw [em]
  simp only [mSeq_ap, mAsg_ap, mIf_ap, mDrop_ap, mRet_ap, mNext_ap, mFor_ap, imRng_ap, imSeq_ap, tmB_ap, tmNot_ap, tmTru_ap, tmAnd_ap, tmOr_ap, tmYes_ap, e1_ap, e2_ap, eN_ap, lN_ap, eL_ap, lLst_ap, eCall_ap, aCons_ap, aNil_ap, eVar_ap, eC_ap, eAnd_ap, eOr_ap, eNot_ap, eIsi_ap, eIf_ap, List.set_cons_succ, List.set_cons_zero, List.getElem?_cons_zero, List.getElem?_cons_succ, bind_ok, calm_ok, gmName_ap, tru_bool, itemsOf_list, itemsOf_tuple, Bool.not_true, Bool.not_false, Bool.false_eq_true, if_false, if_true, endOf, ht, fNeg_int, hi, hf]
theorem is_lot_ok {n : Nat} {lot : List Nat} (h1 : 1 ≤ n) (hl : Lot n lot) : M_is_lot [iD n, tupN lot] = .ok (.bool true) := by
  have e : M_is_lot [iD n, tupN lot] = ((endOf (m_is_lot [.dat (iD n), .dat (tupN lot)])).bind fun p => .ok p.1) := rfl
  rw [e]
  unfold m_is_lot
  simp only [mSeq_ap, mAsg_ap, mIf_ap, mDrop_ap, mRet_ap, mNext_ap, mFor_ap, imRng_ap, imSeq_ap, tmB_ap, tmNot_ap, tmTru_ap, tmAnd_ap, tmOr_ap, tmYes_ap, e1_ap, e2_ap, eN_ap, lN_ap, eL_ap, lLst_ap, eCall_ap, aCons_ap, aNil_ap, eVar_ap, eC_ap, eAnd_ap, eOr_ap, eNot_ap, eIsi_ap, eIf_ap, List.set_cons_succ, List.set_cons_zero, List.getElem?_cons_zero, List.getElem?_cons_succ, bind_ok, calm_ok, gmName_ap, tru_bool, itemsOf_list, itemsOf_tuple, Bool.not_true, Bool.not_false, Bool.false_eq_true, if_false, if_true, endOf, many_nat n h1, want_true, lot_fits_ok hl]
/-! ### all lots -/
def lotsL : Nat → List (List Nat)
  | 0 => [[]]
  | k + 1 => lotsL k ++ (lotsL k).map (· ++ [k])
theorem lotsL_len : ∀ k, (lotsL k).length = 2 ^ k
  | 0 => rfl
  | k + 1 => by rw [lotsL, List.length_append, List.length_map, lotsL_len k, Nat.pow_succ]; omega
theorem lotsL_lot : ∀ k, ∀ l ∈ lotsL k, Lot k l
  | 0, l, h => by
    have : l = [] := by simpa [lotsL] using h
    subst this
    exact List.Sublist.refl _
  | k + 1, l, h => by
    rw [lotsL] at h
    have hr : List.range (k + 1) = List.range k ++ [k] := List.range_succ
    rcases List.mem_append.mp h with h | h
    · exact (lotsL_lot k l h).trans (by rw [hr]; exact List.sublist_append_left _ _)
    · obtain ⟨l', h', rfl⟩ := List.mem_map.mp h
      show List.Sublist _ _
      rw [hr]
      exact (lotsL_lot k l' h').append (List.Sublist.refl _)
theorem lots_ok {n : Nat} (hn : n ≤ 6) : M__law_lots [iD n] = .ok (.list ((lotsL n).map tupN)) := by
  have e : M__law_lots [iD n] = ((endOf (m__law_lots [.dat (iD n), .un, .un, .un])).bind fun p => .ok p.1) := rfl
  rw [e]
  let b1 : Sm := mAsg (gmName 1) (e2 fAdd (eVar 1) (eL (lLc (imSeq (eVar 1)) [3] (gmName 3) tmYes (e2 fAdd (eVar 3) (eTup (aCons (eVar 2) aNil))))))
  obtain ⟨en', hf, v, rfl⟩ := for_rng (j := 2) (n := n) (b := b1) (fun i en => ∃ v, en = [.dat (iD n), .dat (.list ((lotsL i).map tupN)), v, .un]) (en := [.dat (iD n), .dat (.list ((lotsL 0).map tupN)), .un, .un]) ⟨.un, rfl⟩ (by
    rintro i en hi ⟨v, rfl⟩
    refine ⟨.nx, [.dat (iD n), .dat (.list ((lotsL (i + 1)).map tupN)), .dat (iD i), .un], ?_, .inl rfl, _, rfl⟩
    show b1 [.dat (iD n), .dat (.list ((lotsL i).map tupN)), .dat (iD i), .un] = _
    have hlen := lotsL_len i
    have hpw : 2 ^ i ≤ 64 := Nat.le_trans (Nat.pow_le_pow_right (by omega) (by omega : i ≤ 6)) (by decide)
    have hc := lLc_tups (j := 3) (a := eVar 1) (t := tmYes) (m := e2 fAdd (eVar 3) (eTup (aCons (eVar 2) aNil))) (en := [.dat (iD n), .dat (.list ((lotsL i).map tupN)), .dat (iD i), .un]) (F := lotsL i) (d0 := .list ((lotsL i).map tupN)) (fun _ => true) (fun a => tupN (a ++ [i])) rfl rfl (by show 3 < 4; omega) rfl (by omega) (fun a ha => ⟨rfl, fun _ => by
      have hl := (lotsL_lot i a ha).len
      have ht : eTup (aCons (eVar 2) aNil) [.dat (iD n), .dat (.list ((lotsL i).map tupN)), .dat (iD i), .dat (tupN a)] = .ok (.tuple [iD i], [.dat (iD n), .dat (.list ((lotsL i).map tupN)), .dat (iD i), .dat (tupN a)]) := rfl
      simp only [e2_ap, eVar_ap, List.set_cons_succ, List.set_cons_zero, List.getElem?_cons_zero, List.getElem?_cons_succ, bind_ok, ht, fAdd_tup a i (by omega), calm_ok]⟩)
    have em : ((lotsL i).filter fun _ => true).map (fun a => tupN (a ++ [i])) = ((lotsL i).map (· ++ [i])).map tupN := by
      rw [List.filter_eq_self.mpr fun _ _ => rfl, List.map_map]
      rfl
    rw [em] at hc
    have ha := fAdd_list ((lotsL i).map tupN) (((lotsL i).map (· ++ [i])).map tupN) (by rw [List.length_map, List.length_map, List.length_map]; omega)
    simp only [b1, mSeq_ap, mAsg_ap, mIf_ap, mDrop_ap, mRet_ap, mNext_ap, mFor_ap, imRng_ap, imSeq_ap, tmB_ap, tmNot_ap, tmTru_ap, tmAnd_ap, tmOr_ap, tmYes_ap, e1_ap, e2_ap, eN_ap, lN_ap, eL_ap, lLst_ap, eCall_ap, aCons_ap, aNil_ap, eVar_ap, eC_ap, eAnd_ap, eOr_ap, eNot_ap, eIsi_ap, eIf_ap, List.set_cons_succ, List.set_cons_zero, List.getElem?_cons_zero, List.getElem?_cons_succ, bind_ok, calm_ok, gmName_ap, tru_bool, itemsOf_list, itemsOf_tuple, Bool.not_true, Bool.not_false, Bool.false_eq_true, if_false, if_true, endOf, hc, ha]
    rw [lotsL, List.map_append])
  have em : m__law_lots = mSeq (mAsg (gmName 1) (eL (lLst (aCons (eTup aNil) aNil)))) (mSeq (mFor (imRng rng1 (aCons (eVar 0) aNil)) (gmName 2) b1) (mRet (eVar 1))) := rfl
  rw [em, mSeq_nx (en1 := [.dat (iD n), .dat (.list ((lotsL 0).map tupN)), .un, .un]) (by rfl)]
  rw [mSeq_nx (en1 := [.dat (iD n), .dat (.list ((lotsL n).map tupN)), v, .un]) (by simp only [mSeq_ap, mAsg_ap, mIf_ap, mDrop_ap, mRet_ap, mNext_ap, mFor_ap, imRng_ap, imSeq_ap, tmB_ap, tmNot_ap, tmTru_ap, tmAnd_ap, tmOr_ap, tmYes_ap, e1_ap, e2_ap, eN_ap, lN_ap, eL_ap, lLst_ap, eCall_ap, aCons_ap, aNil_ap, eVar_ap, eC_ap, eAnd_ap, eOr_ap, eNot_ap, eIsi_ap, eIf_ap, List.set_cons_succ, List.set_cons_zero, List.getElem?_cons_zero, List.getElem?_cons_succ, bind_ok, calm_ok, gmName_ap, tru_bool, itemsOf_list, itemsOf_tuple, Bool.not_true, Bool.not_false, Bool.false_eq_true, if_false, if_true, endOf, rng1_nat (by omega : n ≤ 100000), hf])]
  rfl
section
variable {s t : List Nat}
/-! ### is_seam -/
def crosses (lot : List Nat) (p : Nat × Nat) : Bool := decide (p.1 ∈ lot) != decide (p.2 ∈ lot)
def seamB : Sm := mIf (tmB (e2 fNe (e2 fIn (eVar 3) (eVar 2)) (e2 fIn (eVar 4) (eVar 2)))) (mRet (eC (.bool false))) mNext
theorem is_seam_ok (W : Wd s t) {lot : List Nat} (hl : Lot s.length lot) : M_is_seam [tupN s, tupN t, tupN lot] = .ok (.bool (!(prs s t).any (crosses lot))) := by
  have h1 := W.ne
  have e : M_is_seam [tupN s, tupN t, tupN lot] = ((endOf (m_is_seam [.dat (tupN s), .dat (tupN t), .dat (tupN lot), .un, .un])).bind fun p => .ok p.1) := rfl
  rw [e]
  have em : m_is_seam = mSeq (mDrop (eCall M_a_want (aCons (eCall M_is_sizes (aCons (eVar 0) aNil)) (aCons (eC (.str "sizes")) aNil)))) (mSeq (mDrop (eCall M_a_want (aCons (eCall M_is_table (aCons (eVar 0) (aCons (eVar 1) aNil))) (aCons (eC (.str "table")) aNil)))) (mSeq (mDrop (eCall M_a_want (aCons (eCall M_is_lot (aCons (eN fLen (aCons (eVar 0) aNil)) (aCons (eVar 2) aNil))) (aCons (eC (.str "lot")) aNil)))) (mSeq (mFor (imSeq (eCall M_knit_pairs (aCons (eVar 0) (aCons (eVar 1) aNil)))) (gmTup [3, 4]) seamB) (mRet (eC (.bool true)))))) := rfl
  obtain ⟨en', hf, v3, v4, rfl⟩ := for_find (gm := gmTup [3, 4]) (b := seamB) (enc := pD) (r := fun p => if crosses lot p = true then some (.bool false) else none) (fun en => ∃ v3 v4, en = [.dat (tupN s), .dat (tupN t), .dat (tupN lot), v3, v4]) (prs s t) (en := [.dat (tupN s), .dat (tupN t), .dat (tupN lot), .un, .un]) ⟨.un, .un, rfl⟩ (by
    rintro p hp en ⟨v3, v4, rfl⟩
    refine ⟨[.dat (tupN s), .dat (tupN t), .dat (tupN lot), .dat (iD p.1), .dat (iD p.2)], [.dat (tupN s), .dat (tupN t), .dat (tupN lot), .dat (iD p.1), .dat (iD p.2)], rfl, ?_, _, _, rfl⟩
    unfold seamB
    simp only [mSeq_ap, mAsg_ap, mIf_ap, mDrop_ap, mRet_ap, mNext_ap, mFor_ap, imRng_ap, imSeq_ap, tmB_ap, tmNot_ap, tmTru_ap, tmAnd_ap, tmOr_ap, tmYes_ap, e1_ap, e2_ap, eN_ap, lN_ap, eL_ap, lLst_ap, eCall_ap, aCons_ap, aNil_ap, eVar_ap, eC_ap, eAnd_ap, eOr_ap, eNot_ap, eIsi_ap, eIf_ap, List.set_cons_succ, List.set_cons_zero, List.getElem?_cons_zero, List.getElem?_cons_succ, bind_ok, calm_ok, gmName_ap, tru_bool, itemsOf_list, itemsOf_tuple, Bool.not_true, Bool.not_false, Bool.false_eq_true, if_false, if_true, endOf, in_tup, fNe_bool]
    unfold crosses
    cases decide (p.1 ∈ lot) != decide (p.2 ∈ lot) <;> rfl)
  rw [find_if] at hf
  have hi : itemsOf (FD ((prs s t).map fun p => [p.1, p.2])) = .ok ((prs s t).map pD) := by
    show Rs.ok (((prs s t).map fun p => [p.1, p.2]).map tupN) = _
    rw [List.map_map]
    rfl
  rw [em, mSeq_nx (en1 := [.dat (tupN s), .dat (tupN t), .dat (tupN lot), .un, .un]) (by simp only [mSeq_ap, mAsg_ap, mIf_ap, mDrop_ap, mRet_ap, mNext_ap, mFor_ap, imRng_ap, imSeq_ap, tmB_ap, tmNot_ap, tmTru_ap, tmAnd_ap, tmOr_ap, tmYes_ap, e1_ap, e2_ap, eN_ap, lN_ap, eL_ap, lLst_ap, eCall_ap, aCons_ap, aNil_ap, eVar_ap, eC_ap, eAnd_ap, eOr_ap, eNot_ap, eIsi_ap, eIf_ap, List.set_cons_succ, List.set_cons_zero, List.getElem?_cons_zero, List.getElem?_cons_succ, bind_ok, calm_ok, gmName_ap, tru_bool, itemsOf_list, itemsOf_tuple, Bool.not_true, Bool.not_false, Bool.false_eq_true, if_false, if_true, endOf, is_sizes_ok W, want_true])]
  rw [mSeq_nx (en1 := [.dat (tupN s), .dat (tupN t), .dat (tupN lot), .un, .un]) (by simp only [mSeq_ap, mAsg_ap, mIf_ap, mDrop_ap, mRet_ap, mNext_ap, mFor_ap, imRng_ap, imSeq_ap, tmB_ap, tmNot_ap, tmTru_ap, tmAnd_ap, tmOr_ap, tmYes_ap, e1_ap, e2_ap, eN_ap, lN_ap, eL_ap, lLst_ap, eCall_ap, aCons_ap, aNil_ap, eVar_ap, eC_ap, eAnd_ap, eOr_ap, eNot_ap, eIsi_ap, eIf_ap, List.set_cons_succ, List.set_cons_zero, List.getElem?_cons_zero, List.getElem?_cons_succ, bind_ok, calm_ok, gmName_ap, tru_bool, itemsOf_list, itemsOf_tuple, Bool.not_true, Bool.not_false, Bool.false_eq_true, if_false, if_true, endOf, is_table_ok W, want_true])]
  rw [mSeq_nx (en1 := [.dat (tupN s), .dat (tupN t), .dat (tupN lot), .un, .un]) (by simp only [mSeq_ap, mAsg_ap, mIf_ap, mDrop_ap, mRet_ap, mNext_ap, mFor_ap, imRng_ap, imSeq_ap, tmB_ap, tmNot_ap, tmTru_ap, tmAnd_ap, tmOr_ap, tmYes_ap, e1_ap, e2_ap, eN_ap, lN_ap, eL_ap, lLst_ap, eCall_ap, aCons_ap, aNil_ap, eVar_ap, eC_ap, eAnd_ap, eOr_ap, eNot_ap, eIsi_ap, eIf_ap, List.set_cons_succ, List.set_cons_zero, List.getElem?_cons_zero, List.getElem?_cons_succ, bind_ok, calm_ok, gmName_ap, tru_bool, itemsOf_list, itemsOf_tuple, Bool.not_true, Bool.not_false, Bool.false_eq_true, if_false, if_true, endOf, fLen_tupN, is_lot_ok h1 hl, want_true])]
  rw [mSeq_fl (o := if (prs s t).any (crosses lot) = true then some (.bool false) else none) (en1 := [.dat (tupN s), .dat (tupN t), .dat (tupN lot), v3, v4]) (by simp only [mSeq_ap, mAsg_ap, mIf_ap, mDrop_ap, mRet_ap, mNext_ap, mFor_ap, imRng_ap, imSeq_ap, tmB_ap, tmNot_ap, tmTru_ap, tmAnd_ap, tmOr_ap, tmYes_ap, e1_ap, e2_ap, eN_ap, lN_ap, eL_ap, lLst_ap, eCall_ap, aCons_ap, aNil_ap, eVar_ap, eC_ap, eAnd_ap, eOr_ap, eNot_ap, eIsi_ap, eIf_ap, List.set_cons_succ, List.set_cons_zero, List.getElem?_cons_zero, List.getElem?_cons_succ, bind_ok, calm_ok, gmName_ap, tru_bool, itemsOf_list, itemsOf_tuple, Bool.not_true, Bool.not_false, Bool.false_eq_true, if_false, if_true, endOf, knit_pairs_ok W, hi, hf])]
  cases (prs s t).any (crosses lot) <;> rfl
/-! ### the law's seam -/
theorem pl_split : ∀ (s : List Nat) (L : Nat → Bool) (x : Nat → Nat), pl s x = pl s (restr L x) + pl s (restr (fun h => !L h) x)
  | [], _, _ => rfl
  | a :: r, L, x => by
    have ih := pl_split r (fun h => L (h + 1)) fun h => x (h + 1)
    have e1 : (fun h => restr L x (h + 1)) = restr (fun h => L (h + 1)) fun h => x (h + 1) := rfl
    have e2 : (fun h => restr (fun h => !L h) x (h + 1)) = restr (fun h => !L (h + 1)) fun h => x (h + 1) := rfl
    have r0 : restr L x 0 = if L 0 = true then x 0 else 0 := rfl
    have r1 : restr (fun h => !L h) x 0 = if (!L 0) = true then x 0 else 0 := rfl
    rw [pl, pl, pl, e1, e2, ih, r0, r1]
    cases L 0
    · rw [if_neg Bool.false_ne_true, if_pos (by decide), Nat.zero_mul]
      omega
    · rw [if_pos rfl, if_neg (by decide), Nat.zero_mul]
      omega
theorem restr_congr {s : List Nat} {L : Nat → Bool} {x y : Nat → Nat} (h : ∀ k, k < s.length → x k = y k) : pl s (restr L x) = pl s (restr L y) := pl_congr fun k hk => by
  unfold restr
  rw [h k hk]
theorem at0_digs {k h : Nat} (hh : h < s.length) : at0 (digs s k) h = dg s h k := by
  rw [at0_get (by rw [digs_len]; exact hh), digs_get]
theorem ok_digs (W : Wd s t) (k : Nat) : Ok s (at0 (digs s k)) := fun h hh => by
  rw [at0_digs hh]
  exact dg_ok W.pos h hh
def inLot (lot : List Nat) : Nat → Bool := fun h => decide (h ∈ lot)
def partOn (s lot : List Nat) (k : Nat) : Nat := pl s (restr (inLot lot) fun h => dg s h k)
theorem on_part {lot : List Nat} (hl : Lot s.length lot) (k : Nat) : onL s lot (at0 (digs s k)) = partOn s lot k := by
  rw [onL_pl hl]
  exact pl_congr fun h hh => by
    unfold restr inLot
    rw [at0_digs hh]
theorem part_le (W : Wd s t) {lot : List Nat} {k : Nat} (hk : k < prodL s) : partOn s lot k ≤ k ∧ k - partOn s lot k = pl s (restr (fun h => !inLot lot h) fun h => dg s h k) := by
  have := pl_split s (inLot lot) fun h => dg s h k
  rw [pl_dg W.pos hk] at this
  unfold partOn
  omega
def seamOdd (s t lot : List Nat) (k : Nat) : Bool := decide ((at0 t k + at0 t (partOn s lot k) + at0 t (k - partOn s lot k) + at0 t 0) % 2 = 1)
theorem restr_ok (W : Wd s t) {L : Nat → Bool} {x : Nat → Nat} (ok : Ok s x) : Ok s (restr L x) := fun h hh => by
  have := ok h hh
  have := sz_pos W.pos hh
  unfold restr
  split <;> omega
def lsB : Sm := mSeq (mAsg (gmName 6) (eCall M__law_on (aCons (eVar 0) (aCons (eVar 3) (aCons (eVar 2) (aCons (e2 fIx (eVar 4) (eVar 5)) aNil)))))) (mIf (tmB (e2 fEq (e2 fMod (e2 fAdd (e2 fAdd (e2 fAdd (e2 fIx (eVar 1) (eVar 5)) (e2 fIx (eVar 1) (eVar 6))) (e2 fIx (eVar 1) (e2 fSub (eVar 5) (eVar 6)))) (e2 fIx (eVar 1) (eC (.int 0)))) (eC (.int 2))) (eC (.int 1)))) (mRet (eC (.bool false))) mNext)
theorem law_seam_ok (W : Wd s t) {lot : List Nat} (hl : Lot s.length lot) : M__law_seam [tupN s, tupN t, tupN lot] = .ok (.bool (!(List.range (prodL s)).any (seamOdd s t lot))) := by
  have hp := W.prod
  have hpos := prod_pos W.pos
  have e : M__law_seam [tupN s, tupN t, tupN lot] = ((endOf (m__law_seam [.dat (tupN s), .dat (tupN t), .dat (tupN lot), .un, .un, .un, .un])).bind fun p => .ok p.1) := rfl
  rw [e]
  have em : m__law_seam = mSeq (mAsg (gmName 3) (eCall M__law_steps (aCons (eVar 0) aNil))) (mSeq (mAsg (gmName 4) (eCall M__law_settings (aCons (eVar 0) aNil))) (mSeq (mFor (imRng rng1 (aCons (eN fLen (aCons (eVar 4) aNil)) aNil)) (gmName 5) lsB) (mRet (eC (.bool true))))) := rfl
  obtain ⟨en', hf, v5, v6, rfl⟩ := find_rng (j := 5) (n := prodL s) (b := lsB) (r := fun k => if seamOdd s t lot k = true then some (.bool false) else none) (fun en => ∃ v5 v6, en = [.dat (tupN s), .dat (tupN t), .dat (tupN lot), .dat (.list ((spans s).map iD)), .dat (rowsD s), v5, v6]) (en := [.dat (tupN s), .dat (tupN t), .dat (tupN lot), .dat (.list ((spans s).map iD)), .dat (rowsD s), .un, .un]) ⟨.un, .un, rfl⟩ (by
    rintro k en hk ⟨v5, v6, rfl⟩
    obtain ⟨l1, _⟩ := part_le W (lot := lot) hk
    refine ⟨[.dat (tupN s), .dat (tupN t), .dat (tupN lot), .dat (.list ((spans s).map iD)), .dat (rowsD s), .dat (iD k), .dat (iD (partOn s lot k))], ?_, _, _, rfl⟩
    show lsB [.dat (tupN s), .dat (tupN t), .dat (tupN lot), .dat (.list ((spans s).map iD)), .dat (rowsD s), .dat (iD k), v6] = _
    have ho := on_ok W hl (LOT := tupN lot) rfl (x := digs s k) (digs_len s k) (ok_digs W k)
    rw [on_part hl] at ho
    unfold lsB
    rw [mSeq_nx (en1 := [.dat (tupN s), .dat (tupN t), .dat (tupN lot), .dat (.list ((spans s).map iD)), .dat (rowsD s), .dat (iD k), .dat (iD (partOn s lot k))]) (by simp only [mSeq_ap, mAsg_ap, mIf_ap, mDrop_ap, mRet_ap, mNext_ap, mFor_ap, imRng_ap, imSeq_ap, tmB_ap, tmNot_ap, tmTru_ap, tmAnd_ap, tmOr_ap, tmYes_ap, e1_ap, e2_ap, eN_ap, lN_ap, eL_ap, lLst_ap, eCall_ap, aCons_ap, aNil_ap, eVar_ap, eC_ap, eAnd_ap, eOr_ap, eNot_ap, eIsi_ap, eIf_ap, List.set_cons_succ, List.set_cons_zero, List.getElem?_cons_zero, List.getElem?_cons_succ, bind_ok, calm_ok, gmName_ap, tru_bool, itemsOf_list, itemsOf_tuple, Bool.not_true, Bool.not_false, Bool.false_eq_true, if_false, if_true, endOf, row_ix hk, ho])]
    have e0 : (PyData.int 0) = iD 0 := rfl
    have e1' : (PyData.int 1) = iD 1 := rfl
    have e2' : (PyData.int 2) = iD 2 := rfl
    simp only [mSeq_ap, mAsg_ap, mIf_ap, mDrop_ap, mRet_ap, mNext_ap, mFor_ap, imRng_ap, imSeq_ap, tmB_ap, tmNot_ap, tmTru_ap, tmAnd_ap, tmOr_ap, tmYes_ap, e1_ap, e2_ap, eN_ap, lN_ap, eL_ap, lLst_ap, eCall_ap, aCons_ap, aNil_ap, eVar_ap, eC_ap, eAnd_ap, eOr_ap, eNot_ap, eIsi_ap, eIf_ap, List.set_cons_succ, List.set_cons_zero, List.getElem?_cons_zero, List.getElem?_cons_succ, bind_ok, calm_ok, gmName_ap, tru_bool, itemsOf_list, itemsOf_tuple, Bool.not_true, Bool.not_false, Bool.false_eq_true, if_false, if_true, endOf, tab_ix W hk, tab_ix W (by omega : partOn s lot k < prodL s), fSub_N l1, tab_ix W (by omega : k - partOn s lot k < prodL s), e0, tab_ix W hpos, fAdd_N, e2', fMod_N (by omega : 0 < 2), e1', fEq_N]
    unfold seamOdd
    cases decide ((at0 t k + at0 t (partOn s lot k) + at0 t (k - partOn s lot k) + at0 t 0) % 2 = 1) <;> rfl)
  rw [find_if] at hf
  rw [em, mSeq_nx (en1 := [.dat (tupN s), .dat (tupN t), .dat (tupN lot), .dat (.list ((spans s).map iD)), .un, .un, .un]) (by simp only [mSeq_ap, mAsg_ap, mIf_ap, mDrop_ap, mRet_ap, mNext_ap, mFor_ap, imRng_ap, imSeq_ap, tmB_ap, tmNot_ap, tmTru_ap, tmAnd_ap, tmOr_ap, tmYes_ap, e1_ap, e2_ap, eN_ap, lN_ap, eL_ap, lLst_ap, eCall_ap, aCons_ap, aNil_ap, eVar_ap, eC_ap, eAnd_ap, eOr_ap, eNot_ap, eIsi_ap, eIf_ap, List.set_cons_succ, List.set_cons_zero, List.getElem?_cons_zero, List.getElem?_cons_succ, bind_ok, calm_ok, gmName_ap, tru_bool, itemsOf_list, itemsOf_tuple, Bool.not_true, Bool.not_false, Bool.false_eq_true, if_false, if_true, endOf, steps_ok W])]
  rw [mSeq_nx (en1 := [.dat (tupN s), .dat (tupN t), .dat (tupN lot), .dat (.list ((spans s).map iD)), .dat (rowsD s), .un, .un]) (by simp only [mSeq_ap, mAsg_ap, mIf_ap, mDrop_ap, mRet_ap, mNext_ap, mFor_ap, imRng_ap, imSeq_ap, tmB_ap, tmNot_ap, tmTru_ap, tmAnd_ap, tmOr_ap, tmYes_ap, e1_ap, e2_ap, eN_ap, lN_ap, eL_ap, lLst_ap, eCall_ap, aCons_ap, aNil_ap, eVar_ap, eC_ap, eAnd_ap, eOr_ap, eNot_ap, eIsi_ap, eIf_ap, List.set_cons_succ, List.set_cons_zero, List.getElem?_cons_zero, List.getElem?_cons_succ, bind_ok, calm_ok, gmName_ap, tru_bool, itemsOf_list, itemsOf_tuple, Bool.not_true, Bool.not_false, Bool.false_eq_true, if_false, if_true, endOf, settings_ok W])]
  rw [mSeq_fl (o := if (List.range (prodL s)).any (seamOdd s t lot) = true then some (.bool false) else none) (en1 := [.dat (tupN s), .dat (tupN t), .dat (tupN lot), .dat (.list ((spans s).map iD)), .dat (rowsD s), v5, v6]) (by simp only [mSeq_ap, mAsg_ap, mIf_ap, mDrop_ap, mRet_ap, mNext_ap, mFor_ap, imRng_ap, imSeq_ap, tmB_ap, tmNot_ap, tmTru_ap, tmAnd_ap, tmOr_ap, tmYes_ap, e1_ap, e2_ap, eN_ap, lN_ap, eL_ap, lLst_ap, eCall_ap, aCons_ap, aNil_ap, eVar_ap, eC_ap, eAnd_ap, eOr_ap, eNot_ap, eIsi_ap, eIf_ap, List.set_cons_succ, List.set_cons_zero, List.getElem?_cons_zero, List.getElem?_cons_succ, bind_ok, calm_ok, gmName_ap, tru_bool, itemsOf_list, itemsOf_tuple, Bool.not_true, Bool.not_false, Bool.false_eq_true, if_false, if_true, endOf, fLen_rows, rng1_nat (by omega : prodL s ≤ 100000), hf])]
  cases (List.range (prodL s)).any (seamOdd s t lot) <;> rfl
/-- one answer by both ways -/
theorem seam_two (W : Wd s t) {lot : List Nat} (hl : Lot s.length lot) : (List.range (prodL s)).any (seamOdd s t lot) = (prs s t).any (crosses lot) := by
  have key : SeamP s (at0 t) (inLot lot) ↔ ∀ k, k < prodL s → seamOdd s t lot k = false := by
    constructor
    · intro hs k hk
      obtain ⟨_, l2⟩ := part_le W (lot := lot) hk
      have := hs (fun h => dg s h k) (dg_ok W.pos)
      rw [pl_dg W.pos hk, ← l2] at this
      unfold seamOdd
      rw [decide_eq_false_iff_not]
      unfold partOn at this ⊢
      omega
    · intro f x ok
      have hk := pl_lt ok
      obtain ⟨_, l2⟩ := part_le W (lot := lot) hk
      have := f (pl s x) hk
      unfold seamOdd at this
      rw [decide_eq_false_iff_not, l2] at this
      unfold partOn at this
      have c1 : pl s (restr (inLot lot) fun h => dg s h (pl s x)) = pl s (restr (inLot lot) x) := restr_congr fun h hh => dg_pl W.pos ok hh
      have c2 : pl s (restr (fun h => !inLot lot h) fun h => dg s h (pl s x)) = pl s (restr (fun h => !inLot lot h) x) := restr_congr fun h hh => dg_pl W.pos ok hh
      rw [c1, c2] at this
      omega
  have key2 : SeamP s (at0 t) (inLot lot) ↔ ∀ p ∈ prs s t, crosses lot p = false := by
    constructor
    · intro hs p hp
      obtain ⟨h1, h2, h3⟩ := mem_prs.mp hp
      have hi : p.1 < s.length := by omega
      have q : p.1 ≠ p.2 := by omega
      have hk := (knit_of_spot W hi h2 q).mp h3
      unfold crosses
      cases a : decide (p.1 ∈ lot) with
      | true =>
        cases b : decide (p.2 ∈ lot) with
        | true => rfl
        | false => exact absurd hk (seam_no hs (i := p.1) (j := p.2) a b)
      | false =>
        cases b : decide (p.2 ∈ lot) with
        | true => exact absurd (hk.symm q) (seam_no hs (i := p.2) (j := p.1) b a)
        | false => rfl
    · intro f
      refine seam_of W.pos fun i j hi hj li lj hk => ?_
      have q : i ≠ j := fun z => by rw [z, lj] at li; cases li
      rcases Nat.lt_or_gt_of_ne q with r | r
      · have := f (i, j) (mem_prs.mpr ⟨r, hj, (knit_of_spot W hi hj q).mpr hk⟩)
        unfold crosses at this
        unfold inLot at li lj
        have li' : decide ((i, j).1 ∈ lot) = true := li
        have lj' : decide ((i, j).2 ∈ lot) = false := lj
        rw [li', lj'] at this
        cases this
      · have := f (j, i) (mem_prs.mpr ⟨r, hi, (knit_of_spot W hj hi (Ne.symm q)).mpr (hk.symm q)⟩)
        unfold crosses at this
        unfold inLot at li lj
        have li' : decide ((j, i).2 ∈ lot) = true := li
        have lj' : decide ((j, i).1 ∈ lot) = false := lj
        rw [li', lj'] at this
        cases this
  have a1 : (List.range (prodL s)).any (seamOdd s t lot) = false ↔ ∀ k, k < prodL s → seamOdd s t lot k = false := by
    rw [List.any_eq_false]
    exact ⟨fun f k hk => by simpa using f k (List.mem_range.mpr hk), fun f k hk => by rw [f k (List.mem_range.mp hk)]; exact Bool.false_ne_true⟩
  have a2 : (prs s t).any (crosses lot) = false ↔ ∀ p ∈ prs s t, crosses lot p = false := by
    rw [List.any_eq_false]
    exact ⟨fun f p hp => by simpa using f p hp, fun f p hp => by rw [f p hp]; exact Bool.false_ne_true⟩
  have : (List.range (prodL s)).any (seamOdd s t lot) = false ↔ (prs s t).any (crosses lot) = false := by rw [a1, a2, ← key, ← key2]
  cases x : (List.range (prodL s)).any (seamOdd s t lot) with
  | false => exact (this.mp x).symm
  | true =>
    cases y : (prs s t).any (crosses lot) with
    | true => rfl
    | false => rw [this.mpr y] at x; cases x
end
end K07
end

section
set_option Elab.async false
set_option linter.all false
set_option maxRecDepth 100000
set_option maxHeartbeats 4000000
/-! K07H: clumps by the program and by the law. -/
namespace K07
open PySem PySem.Spec PyProof.Rows L2 Mir Dg
theorem lLc_im {im im2 : Im} {vs : List Nat} {gm : Gm} {t : Mir.Tm} {m : Em} {en en2 : En} {p : List D × En} (h1 : im en = .ok p) (h2 : im2 en2 = .ok p) : lLc im vs gm t m en = lLc im2 vs gm t m en2 := by
  unfold lLc
  rw [h1, h2]
theorem fMin2_N (a b : Nat) : fMin2 [iD a, iD b] = .ok (iD (min a b)) := by
  show Rs.ok (PyData.int (if (b : Int) < (a : Int) then (b : Int) else (a : Int))) = _
  by_cases q : b < a
  · rw [if_pos (by omega), Nat.min_eq_right (by omega)]
  · rw [if_neg (by omega), Nat.min_eq_left (by omega)]
theorem fMax2_N (a b : Nat) : fMax2 [iD a, iD b] = .ok (iD (max a b)) := by
  show Rs.ok (PyData.int (if (b : Int) > (a : Int) then (b : Int) else (a : Int))) = _
  by_cases q : b > a
  · rw [if_pos (by omega), Nat.max_eq_right (by omega)]
  · rw [if_neg (by omega), Nat.max_eq_left (by omega)]
theorem eBIn_ok {m : Em} {i : Nat} {en : En} {xs : List Nat} {h : Nat} (hm : m en = .ok (iD h, en)) (ho : en[i]? = some (.own (.lst (xs.map iD)))) : eBIn m i en = .ok (.bool (decide (h ∈ xs)), en) := by
  have h0 : ownL en i = some (xs.map iD) := by unfold ownL; rw [ho]
  unfold eBIn
  rw [hm, bind_ok]
  dsimp only
  rw [h0]
  dsimp only
  have hc : okEq (iD h) (.list (xs.map iD)) = true := by unfold okEq; rw [shaped_int, shaped_listI]; rfl
  rw [if_pos hc, any_iD]
theorem joinL_len (lab : List Nat) (p : Nat × Nat) : (joinL lab p).length = lab.length := by unfold joinL; rw [List.length_map]
theorem fold_len : ∀ (ps : List (Nat × Nat)) (lab : List Nat), (ps.foldl joinL lab).length = lab.length
  | [], _ => rfl
  | p :: ps, lab => by rw [List.foldl_cons, fold_len ps, joinL_len]
def labAt (n : Nat) (ps : List (Nat × Nat)) (i : Nat) : List Nat := (ps.take i).foldl joinL (List.range n)
theorem labAt_len (n : Nat) (ps : List (Nat × Nat)) (i : Nat) : (labAt n ps i).length = n := by unfold labAt; rw [fold_len, List.length_range]
theorem labAt_succ {n : Nat} {ps : List (Nat × Nat)} {i : Nat} (h : i < ps.length) : labAt n ps (i + 1) = joinL (labAt n ps i) ps[i] := by
  unfold labAt
  rw [List.take_succ_eq_append_getElem h, List.foldl_append]
  rfl
theorem labAt_all (n : Nat) (ps : List (Nat × Nat)) : labAt n ps ps.length = labels n ps := by unfold labAt labels; rw [List.take_length]
theorem lab_ix {lab : List Nat} {h : Nat} (hh : h < lab.length) : fIx (.list (lab.map iD)) (iD h) = .ok (iD (at0 lab h)) := by rw [fIx_listN lab h hh, at0_get hh]
section
variable {s t : List Nat}
theorem prs_lt {p : Nat × Nat} (h : p ∈ prs s t) : p.1 < s.length ∧ p.2 < s.length := by
  obtain ⟨h1, h2, _⟩ := mem_prs.mp h
  omega
def Plain (v : SV) : Prop := v = .un ∨ ∃ d, v = .dat d
def jnM : Em := eIf (tmB (e2 fEq (eVar 6) (eVar 10))) (eVar 9) (eVar 6)
def jnB : Sm := mSeq (mAsg (gmName 9) (eN fMin2 (aCons (eBIx 2 (eVar 7)) (aCons (eBIx 2 (eVar 8)) aNil)))) (mSeq (mAsg (gmName 10) (eN fMax2 (aCons (eBIx 2 (eVar 7)) (aCons (eBIx 2 (eVar 8)) aNil)))) (mAsgO 2 (lLc (imSeq (eVar 2)) [6] (gmName 6) tmYes jnM)))
theorem jn_ok {S T P : D} {lab : List Nat} {p : Nat × Nat} {n : Nat} (hl : lab.length = n) (hn : n ≤ 6) (h1 : p.1 < n) (h2 : p.2 < n) (v4 v9 v10 : SV) : ∃ v9' v10', jnB [.dat S, .dat T, .own (.lst (lab.map iD)), .dat P, v4, .un, .un, .dat (iD p.1), .dat (iD p.2), v9, v10] = .ok (.nx, [.dat S, .dat T, .own (.lst ((joinL lab p).map iD)), .dat P, v4, .un, .un, .dat (iD p.1), .dat (iD p.2), v9', v10']) := by
  obtain ⟨i, j⟩ := p
  have h1' : i < n := h1
  have h2' : j < n := h2
  refine ⟨.dat (iD (min (at0 lab i) (at0 lab j))), .dat (iD (max (at0 lab i) (at0 lab j))), ?_⟩
  have bi : ∀ v9 v10, eBIx 2 (eVar 7) [.dat S, .dat T, .own (.lst (lab.map iD)), .dat P, v4, .un, .un, .dat (iD i), .dat (iD j), v9, v10] = .ok (iD (at0 lab i), [.dat S, .dat T, .own (.lst (lab.map iD)), .dat P, v4, .un, .un, .dat (iD i), .dat (iD j), v9, v10]) := fun v9 v10 => eBIx_ok (ds := lab.map iD) (k := (i : Int)) rfl rfl (by rw [atI_N lab i (by omega), at0_get (by omega)])
  have bj : ∀ v9 v10, eBIx 2 (eVar 8) [.dat S, .dat T, .own (.lst (lab.map iD)), .dat P, v4, .un, .un, .dat (iD i), .dat (iD j), v9, v10] = .ok (iD (at0 lab j), [.dat S, .dat T, .own (.lst (lab.map iD)), .dat P, v4, .un, .un, .dat (iD i), .dat (iD j), v9, v10]) := fun v9 v10 => eBIx_ok (ds := lab.map iD) (k := (j : Int)) rfl rfl (by rw [atI_N lab j (by omega), at0_get (by omega)])
  show jnB [.dat S, .dat T, .own (.lst (lab.map iD)), .dat P, v4, .un, .un, .dat (iD i), .dat (iD j), v9, v10] = _
  unfold jnB
  rw [mSeq_nx (en1 := [.dat S, .dat T, .own (.lst (lab.map iD)), .dat P, v4, .un, .un, .dat (iD i), .dat (iD j), .dat (iD (min (at0 lab i) (at0 lab j))), v10]) (by
    simp only [mAsg_ap, eN_ap, aCons_ap, aNil_ap, bi, bj, bind_ok, fMin2_N, calm_ok, gmName_ap, List.set_cons_succ, List.set_cons_zero])]
  rw [mSeq_nx (en1 := [.dat S, .dat T, .own (.lst (lab.map iD)), .dat P, v4, .un, .un, .dat (iD i), .dat (iD j), .dat (iD (min (at0 lab i) (at0 lab j))), .dat (iD (max (at0 lab i) (at0 lab j)))]) (by
    simp only [mAsg_ap, eN_ap, aCons_ap, aNil_ap, bi, bj, bind_ok, fMax2_N, calm_ok, gmName_ap, List.set_cons_succ, List.set_cons_zero])]
  have hc := lLc_marks (j := 6) (a := eVar 2) (t := tmYes) (m := jnM) (en := [.dat S, .dat T, .dat (.list (lab.map iD)), .dat P, v4, .un, .un, .dat (iD i), .dat (iD j), .dat (iD (min (at0 lab i) (at0 lab j))), .dat (iD (max (at0 lab i) (at0 lab j)))]) (ms := lab) (d0 := .list (lab.map iD)) (fun _ => true) (fun m => iD (if m = max (at0 lab i) (at0 lab j) then min (at0 lab i) (at0 lab j) else m)) rfl rfl (by show 6 < 11; omega) rfl (by omega) (fun m hm => ⟨rfl, fun _ => by
    unfold jnM
    simp only [mSeq_ap, mAsg_ap, mIf_ap, mDrop_ap, mRet_ap, mNext_ap, mFor_ap, imRng_ap, imSeq_ap, tmB_ap, tmNot_ap, tmTru_ap, tmAnd_ap, tmOr_ap, tmYes_ap, e1_ap, e2_ap, eN_ap, lN_ap, eL_ap, lLst_ap, eCall_ap, aCons_ap, aNil_ap, eVar_ap, eC_ap, eAnd_ap, eOr_ap, eNot_ap, eIsi_ap, eIf_ap, List.set_cons_succ, List.set_cons_zero, List.getElem?_cons_zero, List.getElem?_cons_succ, bind_ok, calm_ok, gmName_ap, tru_bool, itemsOf_list, itemsOf_tuple, Bool.not_true, Bool.not_false, Bool.false_eq_true, if_false, if_true, endOf, fEq_N]
    by_cases q : m = max (at0 lab i) (at0 lab j)
    · simp only [decide_eq_true q, if_true, if_pos q]
    · simp only [decide_eq_false q, Bool.false_eq_true, if_false, if_neg q]⟩)
  have em : (lab.filter fun _ => true).map (fun m => iD (if m = max (at0 lab i) (at0 lab j) then min (at0 lab i) (at0 lab j) else m)) = (joinL lab (i, j)).map iD := by
    rw [List.filter_eq_self.mpr fun _ _ => rfl]
    unfold joinL
    rw [List.map_map]
    rfl
  rw [em] at hc
  have hI := lLc_im (vs := [6]) (gm := gmName 6) (t := tmYes) (m := jnM) (im := imSeq (eVar 2)) (im2 := imSeq (eVar 2)) (en := [.dat S, .dat T, .own (.lst (lab.map iD)), .dat P, v4, .un, .un, .dat (iD i), .dat (iD j), .dat (iD (min (at0 lab i) (at0 lab j))), .dat (iD (max (at0 lab i) (at0 lab j)))]) (en2 := [.dat S, .dat T, .dat (.list (lab.map iD)), .dat P, v4, .un, .un, .dat (iD i), .dat (iD j), .dat (iD (min (at0 lab i) (at0 lab j))), .dat (iD (max (at0 lab i) (at0 lab j)))]) rfl rfl
  rw [mAsgO_ap, hI, hc]
  rfl
def clT : Mir.Tm := tmB (e2 fEq (eBIx 2 (eVar 4)) (eVar 6))
def clB : Sm := mIf (tmB (eBIn (eVar 6) 2)) (mApp 5 (eN fTuple (aCons (eL (lLc (imRng rng1 (aCons (eN fLen (aCons (eVar 0) aNil)) aNil)) [4] (gmName 4) clT (eVar 4))) aNil))) mNext
theorem clumps_ok (W : Wd s t) : M_clumps_of [tupN s, tupN t] = .ok (FD (clumps s.length (labels s.length (prs s t)))) := by
  have h6 := W.six
  have e : M_clumps_of [tupN s, tupN t] = ((endOf (m_clumps_of [.dat (tupN s), .dat (tupN t), .un, .un, .un, .un, .un, .un, .un, .un, .un])).bind fun p => .ok p.1) := rfl
  rw [e]
  have em : m_clumps_of = mSeq (mAsgO 2 (lLst aNil)) (mSeq (mAsg (gmName 3) (eCall M_knit_pairs (aCons (eVar 0) (aCons (eVar 1) aNil)))) (mSeq (mFor (imRng rng1 (aCons (eN fLen (aCons (eVar 0) aNil)) aNil)) (gmName 4) (mApp 2 (eVar 4))) (mSeq (mFor (imSeq (eVar 3)) (gmTup [7, 8]) jnB) (mSeq (mAsgO 5 (lLst aNil)) (mSeq (mFor (imRng rng1 (aCons (eN fLen (aCons (eVar 0) aNil)) aNil)) (gmName 6) clB) (mRet (eN fTuple (aCons (eVar 5) aNil)))))))) := rfl
  generalize hP : FD ((prs s t).map fun p => [p.1, p.2]) = P
  obtain ⟨en1, hf1, v4, rfl, hv4⟩ := for_rng (j := 4) (n := s.length) (b := mApp 2 (eVar 4)) (fun i en => ∃ v4, en = [.dat (tupN s), .dat (tupN t), .own (.lst ((List.range i).map iD)), .dat P, v4, .un, .un, .un, .un, .un, .un] ∧ Plain v4) (en := [.dat (tupN s), .dat (tupN t), .own (.lst []), .dat P, .un, .un, .un, .un, .un, .un, .un]) ⟨.un, rfl, .inl rfl⟩ (by
    rintro i en hi ⟨v4, rfl, _⟩
    refine ⟨.nx, [.dat (tupN s), .dat (tupN t), .own (.lst ((List.range (i + 1)).map iD)), .dat P, .dat (iD i), .un, .un, .un, .un, .un, .un], ?_, .inl rfl, _, rfl, .inr ⟨_, rfl⟩⟩
    show mApp 2 (eVar 4) [.dat (tupN s), .dat (tupN t), .own (.lst ((List.range i).map iD)), .dat P, .dat (iD i), .un, .un, .un, .un, .un, .un] = _
    rw [mApp_ok (ds := (List.range i).map iD) (d := iD i) rfl rfl (by rw [List.length_map, List.length_range]; show i < 100000; omega), List.range_succ, List.map_append]
    rfl)
  obtain ⟨en2, hf2, v7, v8, v9, v10, rfl⟩ := for_items (gm := gmTup [7, 8]) (b := jnB) (enc := pD) (fun i en => ∃ v7 v8 v9 v10, en = [.dat (tupN s), .dat (tupN t), .own (.lst ((labAt s.length (prs s t) i).map iD)), .dat P, v4, .un, .un, v7, v8, v9, v10]) (prs s t) (k := 0) (en := [.dat (tupN s), .dat (tupN t), .own (.lst ((List.range s.length).map iD)), .dat P, v4, .un, .un, .un, .un, .un, .un]) ⟨.un, .un, .un, .un, rfl⟩ (by
    rintro i hi en ⟨v7, v8, v9, v10, rfl⟩
    rw [Nat.zero_add, labAt_succ hi]
    obtain ⟨l1, l2⟩ := prs_lt (List.getElem_mem hi)
    obtain ⟨v9', v10', h⟩ := jn_ok (S := tupN s) (T := tupN t) (P := P) (labAt_len s.length (prs s t) i) h6 l1 l2 v4 v9 v10
    exact ⟨[.dat (tupN s), .dat (tupN t), .own (.lst ((labAt s.length (prs s t) i).map iD)), .dat P, v4, .un, .un, .dat (iD (prs s t)[i].1), .dat (iD (prs s t)[i].2), v9, v10], .nx, _, rfl, h, .inl rfl, _, _, v9', v10', rfl⟩)
  rw [Nat.zero_add, labAt_all] at hf2
  have hll : (labels s.length (prs s t)).length = s.length := by rw [← labAt_all, labAt_len]
  generalize hlab : labels s.length (prs s t) = lab at hf2 hll
  obtain ⟨en3, hf3, v6, rfl⟩ := for_rng (j := 6) (n := s.length) (b := clB) (fun i en => ∃ v6, en = [.dat (tupN s), .dat (tupN t), .own (.lst (lab.map iD)), .dat P, v4, .own (.lst ((((List.range i).filter fun m => decide (m ∈ lab)).map (clump s.length lab)).map tupN)), v6, v7, v8, v9, v10]) (en := [.dat (tupN s), .dat (tupN t), .own (.lst (lab.map iD)), .dat P, v4, .own (.lst []), .un, v7, v8, v9, v10]) ⟨.un, rfl⟩ (by
    rintro i en hi ⟨v6, rfl⟩
    refine ⟨.nx, [.dat (tupN s), .dat (tupN t), .own (.lst (lab.map iD)), .dat P, v4, .own (.lst ((((List.range (i + 1)).filter fun m => decide (m ∈ lab)).map (clump s.length lab)).map tupN)), .dat (iD i), v7, v8, v9, v10], ?_, .inl rfl, _, rfl⟩
    show clB [.dat (tupN s), .dat (tupN t), .own (.lst (lab.map iD)), .dat P, v4, .own (.lst ((((List.range i).filter fun m => decide (m ∈ lab)).map (clump s.length lab)).map tupN)), .dat (iD i), v7, v8, v9, v10] = _
    have hin := eBIn_ok (m := eVar 6) (i := 2) (en := [.dat (tupN s), .dat (tupN t), .own (.lst (lab.map iD)), .dat P, v4, .own (.lst ((((List.range i).filter fun m => decide (m ∈ lab)).map (clump s.length lab)).map tupN)), .dat (iD i), v7, v8, v9, v10]) (xs := lab) (h := i) rfl rfl
    have er : ((List.range (i + 1)).filter fun m => decide (m ∈ lab)).map (clump s.length lab) = ((List.range i).filter fun m => decide (m ∈ lab)).map (clump s.length lab) ++ if decide (i ∈ lab) = true then [clump s.length lab i] else [] := by
      rw [List.range_succ, List.filter_append, List.map_append]
      congr 1
      cases q : decide (i ∈ lab) <;> simp [q]
    unfold clB
    rw [mIf_ap, tmB_ap, hin, bind_ok, bind_ok, er]
    dsimp only
    cases q : decide (i ∈ lab) with
    | false => rw [if_neg Bool.false_ne_true, if_neg Bool.false_ne_true, List.append_nil]; rfl
    | true =>
      rw [if_pos rfl, if_pos rfl]
      have hn4 : noOwn [.dat (tupN s), .dat (tupN t), .own (.lst (lab.map iD)), .dat P, v4, .own (.lst ((((List.range i).filter fun m => decide (m ∈ lab)).map (clump s.length lab)).map tupN)), .dat (iD i), v7, v8, v9, v10] [4] = true := by
        rcases hv4 with rfl | ⟨d, rfl⟩ <;> rfl
      have hc := lLc_nat (j := 4) (a := aCons (eN fLen (aCons (eVar 0) aNil)) aNil) (t := clT) (m := eVar 4) (en := [.dat (tupN s), .dat (tupN t), .own (.lst (lab.map iD)), .dat P, v4, .own (.lst ((((List.range i).filter fun m => decide (m ∈ lab)).map (clump s.length lab)).map tupN)), .dat (iD i), v7, v8, v9, v10]) (n := s.length) (fun h => decide (at0 lab h = i)) iD (by simp only [mSeq_ap, mAsg_ap, mIf_ap, mDrop_ap, mRet_ap, mNext_ap, mFor_ap, imRng_ap, imSeq_ap, tmB_ap, tmNot_ap, tmTru_ap, tmAnd_ap, tmOr_ap, tmYes_ap, e1_ap, e2_ap, eN_ap, lN_ap, eL_ap, lLst_ap, eCall_ap, aCons_ap, aNil_ap, eVar_ap, eC_ap, eAnd_ap, eOr_ap, eNot_ap, eIsi_ap, eIf_ap, List.set_cons_succ, List.set_cons_zero, List.getElem?_cons_zero, List.getElem?_cons_succ, bind_ok, calm_ok, gmName_ap, tru_bool, itemsOf_list, itemsOf_tuple, Bool.not_true, Bool.not_false, Bool.false_eq_true, if_false, if_true, endOf, fLen_tupN]) (by show 4 < 11; omega) hn4 (by omega) (fun h hh => ⟨by
        have hb := eBIx_ok (i := 2) (m := eVar 4) (en := [.dat (tupN s), .dat (tupN t), .own (.lst (lab.map iD)), .dat P, .dat (.int (h : Int)), .own (.lst ((((List.range i).filter fun m => decide (m ∈ lab)).map (clump s.length lab)).map tupN)), .dat (iD i), v7, v8, v9, v10]) (ds := lab.map iD) (k := (h : Int)) (d := iD (at0 lab h)) rfl rfl (by rw [atI_N lab h (by omega), at0_get (by omega)])
        unfold clT
        simp only [tmB_ap, e2_ap, List.set_cons_succ, List.set_cons_zero, hb, bind_ok, eVar_ap, List.getElem?_cons_zero, List.getElem?_cons_succ, fEq_N, calm_ok], fun _ => rfl⟩)
      rw [mApp_ok (ds := (((List.range i).filter fun m => decide (m ∈ lab)).map (clump s.length lab)).map tupN) (d := tupN (clump s.length lab i)) rfl (by
        rw [eN_ap, aCons_ap, eL_ap, hc]
        rfl) (by
        rw [List.length_map, List.length_map]
        have := List.length_filter_le (fun m => decide (m ∈ lab)) (List.range i)
        rw [List.length_range] at this
        show _ < 100000
        omega), List.map_append]
      rfl)
  have hi : itemsOf P = .ok ((prs s t).map pD) := by
    rw [← hP]
    show Rs.ok (((prs s t).map fun p => [p.1, p.2]).map tupN) = _
    rw [List.map_map]
    rfl
  have hr := rng1_nat (by omega : s.length ≤ 100000)
  rw [em, mSeq_nx (en1 := [.dat (tupN s), .dat (tupN t), .own (.lst []), .un, .un, .un, .un, .un, .un, .un, .un]) rfl]
  rw [mSeq_nx (en1 := [.dat (tupN s), .dat (tupN t), .own (.lst []), .dat P, .un, .un, .un, .un, .un, .un, .un]) (by simp only [mSeq_ap, mAsg_ap, mIf_ap, mDrop_ap, mRet_ap, mNext_ap, mFor_ap, imRng_ap, imSeq_ap, tmB_ap, tmNot_ap, tmTru_ap, tmAnd_ap, tmOr_ap, tmYes_ap, e1_ap, e2_ap, eN_ap, lN_ap, eL_ap, lLst_ap, eCall_ap, aCons_ap, aNil_ap, eVar_ap, eC_ap, eAnd_ap, eOr_ap, eNot_ap, eIsi_ap, eIf_ap, List.set_cons_succ, List.set_cons_zero, List.getElem?_cons_zero, List.getElem?_cons_succ, bind_ok, calm_ok, gmName_ap, tru_bool, itemsOf_list, itemsOf_tuple, Bool.not_true, Bool.not_false, Bool.false_eq_true, if_false, if_true, endOf, knit_pairs_ok W, hP])]
  rw [mSeq_nx (en1 := [.dat (tupN s), .dat (tupN t), .own (.lst ((List.range s.length).map iD)), .dat P, v4, .un, .un, .un, .un, .un, .un]) (by simp only [mSeq_ap, mAsg_ap, mIf_ap, mDrop_ap, mRet_ap, mNext_ap, mFor_ap, imRng_ap, imSeq_ap, tmB_ap, tmNot_ap, tmTru_ap, tmAnd_ap, tmOr_ap, tmYes_ap, e1_ap, e2_ap, eN_ap, lN_ap, eL_ap, lLst_ap, eCall_ap, aCons_ap, aNil_ap, eVar_ap, eC_ap, eAnd_ap, eOr_ap, eNot_ap, eIsi_ap, eIf_ap, List.set_cons_succ, List.set_cons_zero, List.getElem?_cons_zero, List.getElem?_cons_succ, bind_ok, calm_ok, gmName_ap, tru_bool, itemsOf_list, itemsOf_tuple, Bool.not_true, Bool.not_false, Bool.false_eq_true, if_false, if_true, endOf, fLen_tupN, hr, hf1])]
  rw [mSeq_nx (en1 := [.dat (tupN s), .dat (tupN t), .own (.lst (lab.map iD)), .dat P, v4, .un, .un, v7, v8, v9, v10]) (by simp only [mSeq_ap, mAsg_ap, mIf_ap, mDrop_ap, mRet_ap, mNext_ap, mFor_ap, imRng_ap, imSeq_ap, tmB_ap, tmNot_ap, tmTru_ap, tmAnd_ap, tmOr_ap, tmYes_ap, e1_ap, e2_ap, eN_ap, lN_ap, eL_ap, lLst_ap, eCall_ap, aCons_ap, aNil_ap, eVar_ap, eC_ap, eAnd_ap, eOr_ap, eNot_ap, eIsi_ap, eIf_ap, List.set_cons_succ, List.set_cons_zero, List.getElem?_cons_zero, List.getElem?_cons_succ, bind_ok, calm_ok, gmName_ap, tru_bool, itemsOf_list, itemsOf_tuple, Bool.not_true, Bool.not_false, Bool.false_eq_true, if_false, if_true, endOf, hi, hf2])]
  rw [mSeq_nx (en1 := [.dat (tupN s), .dat (tupN t), .own (.lst (lab.map iD)), .dat P, v4, .own (.lst []), .un, v7, v8, v9, v10]) rfl]
  rw [mSeq_nx (en1 := [.dat (tupN s), .dat (tupN t), .own (.lst (lab.map iD)), .dat P, v4, .own (.lst ((clumps s.length lab).map tupN)), v6, v7, v8, v9, v10]) (by
    simp only [mSeq_ap, mAsg_ap, mIf_ap, mDrop_ap, mRet_ap, mNext_ap, mFor_ap, imRng_ap, imSeq_ap, tmB_ap, tmNot_ap, tmTru_ap, tmAnd_ap, tmOr_ap, tmYes_ap, e1_ap, e2_ap, eN_ap, lN_ap, eL_ap, lLst_ap, eCall_ap, aCons_ap, aNil_ap, eVar_ap, eC_ap, eAnd_ap, eOr_ap, eNot_ap, eIsi_ap, eIf_ap, List.set_cons_succ, List.set_cons_zero, List.getElem?_cons_zero, List.getElem?_cons_succ, bind_ok, calm_ok, gmName_ap, tru_bool, itemsOf_list, itemsOf_tuple, Bool.not_true, Bool.not_false, Bool.false_eq_true, if_false, if_true, endOf, fLen_tupN, hr, hf3]
    rfl)]
  rfl
/-! ### the law's classes -/
theorem clump_pos {n : Nat} {lab : List Nat} (hl : lab.length = n) (m : Nat) : decide (0 < (clump n lab m).length) = decide (m ∈ lab) := by
  refine decide_eq_decide.mpr ?_
  rw [List.length_pos_iff_exists_mem, mem_lab hl]
  exact ⟨fun ⟨h, hh⟩ => ⟨h, mem_clump.mp hh⟩, fun ⟨h, hh⟩ => ⟨h, mem_clump.mpr hh⟩⟩
theorem clumps_sorted {n : Nat} {lab : List Nat} {done : List (Nat × Nat)} (K : LabOk n lab done) : sortL (clumps n lab) = clumps n lab := by
  refine sorted_unique (sortL_perm _) (sortL_pair _) ?_
  unfold clumps
  rw [List.pairwise_map]
  refine List.Pairwise.imp_of_mem ?_ (List.pairwise_lt_range.filter fun m => decide (m ∈ lab))
  intro a b ha hb hab
  obtain ⟨_, a2⟩ := List.mem_filter.mp ha
  obtain ⟨_, b2⟩ := List.mem_filter.mp hb
  obtain ⟨r, hr⟩ := clump_head K (of_decide_eq_true a2)
  obtain ⟨q, hq⟩ := clump_head K (of_decide_eq_true b2)
  rw [hr, hq]
  unfold leL ltL
  rw [if_neg (by omega), decide_eq_false (by omega)]
  rfl
def jcB : Sm := mSeq (mAsg (gmName 7) (eN fMin2 (aCons (e2 fIx (eVar 2) (eVar 5)) (aCons (e2 fIx (eVar 2) (eVar 6)) aNil)))) (mSeq (mAsg (gmName 8) (eN fMax2 (aCons (e2 fIx (eVar 2) (eVar 5)) (aCons (e2 fIx (eVar 2) (eVar 6)) aNil)))) (mAsg (gmName 2) (eL (lLc (imSeq (eVar 2)) [4] (gmName 4) tmYes (eIf (tmB (e2 fEq (eVar 4) (eVar 8))) (eVar 7) (eVar 4))))))
theorem jc_ok {N P : D} {lab : List Nat} {p : Nat × Nat} {n : Nat} (hl : lab.length = n) (hn : n ≤ 6) (h1 : p.1 < n) (h2 : p.2 < n) (v7 v8 : SV) : ∃ v7' v8', jcB [.dat N, .dat P, .dat (.list (lab.map iD)), .un, .un, .dat (iD p.1), .dat (iD p.2), v7, v8, .un, .un] = .ok (.nx, [.dat N, .dat P, .dat (.list ((joinL lab p).map iD)), .un, .un, .dat (iD p.1), .dat (iD p.2), v7', v8', .un, .un]) := by
  obtain ⟨i, j⟩ := p
  have h1' : i < n := h1
  have h2' : j < n := h2
  refine ⟨.dat (iD (min (at0 lab i) (at0 lab j))), .dat (iD (max (at0 lab i) (at0 lab j))), ?_⟩
  have li := lab_ix (lab := lab) (h := i) (by omega)
  have lj := lab_ix (lab := lab) (h := j) (by omega)
  show jcB [.dat N, .dat P, .dat (.list (lab.map iD)), .un, .un, .dat (iD i), .dat (iD j), v7, v8, .un, .un] = _
  unfold jcB
  rw [mSeq_nx (en1 := [.dat N, .dat P, .dat (.list (lab.map iD)), .un, .un, .dat (iD i), .dat (iD j), .dat (iD (min (at0 lab i) (at0 lab j))), v8, .un, .un]) (by
    simp only [mSeq_ap, mAsg_ap, mIf_ap, mDrop_ap, mRet_ap, mNext_ap, mFor_ap, imRng_ap, imSeq_ap, tmB_ap, tmNot_ap, tmTru_ap, tmAnd_ap, tmOr_ap, tmYes_ap, e1_ap, e2_ap, eN_ap, lN_ap, eL_ap, lLst_ap, eCall_ap, aCons_ap, aNil_ap, eVar_ap, eC_ap, eAnd_ap, eOr_ap, eNot_ap, eIsi_ap, eIf_ap, List.set_cons_succ, List.set_cons_zero, List.getElem?_cons_zero, List.getElem?_cons_succ, bind_ok, calm_ok, gmName_ap, tru_bool, itemsOf_list, itemsOf_tuple, Bool.not_true, Bool.not_false, Bool.false_eq_true, if_false, if_true, endOf, li, lj, fMin2_N])]
  rw [mSeq_nx (en1 := [.dat N, .dat P, .dat (.list (lab.map iD)), .un, .un, .dat (iD i), .dat (iD j), .dat (iD (min (at0 lab i) (at0 lab j))), .dat (iD (max (at0 lab i) (at0 lab j))), .un, .un]) (by
    simp only [mSeq_ap, mAsg_ap, mIf_ap, mDrop_ap, mRet_ap, mNext_ap, mFor_ap, imRng_ap, imSeq_ap, tmB_ap, tmNot_ap, tmTru_ap, tmAnd_ap, tmOr_ap, tmYes_ap, e1_ap, e2_ap, eN_ap, lN_ap, eL_ap, lLst_ap, eCall_ap, aCons_ap, aNil_ap, eVar_ap, eC_ap, eAnd_ap, eOr_ap, eNot_ap, eIsi_ap, eIf_ap, List.set_cons_succ, List.set_cons_zero, List.getElem?_cons_zero, List.getElem?_cons_succ, bind_ok, calm_ok, gmName_ap, tru_bool, itemsOf_list, itemsOf_tuple, Bool.not_true, Bool.not_false, Bool.false_eq_true, if_false, if_true, endOf, li, lj, fMax2_N])]
  have hc := lLc_marks (j := 4) (a := eVar 2) (t := tmYes) (m := eIf (tmB (e2 fEq (eVar 4) (eVar 8))) (eVar 7) (eVar 4)) (en := [.dat N, .dat P, .dat (.list (lab.map iD)), .un, .un, .dat (iD i), .dat (iD j), .dat (iD (min (at0 lab i) (at0 lab j))), .dat (iD (max (at0 lab i) (at0 lab j))), .un, .un]) (ms := lab) (d0 := .list (lab.map iD)) (fun _ => true) (fun m => iD (if m = max (at0 lab i) (at0 lab j) then min (at0 lab i) (at0 lab j) else m)) rfl rfl (by show 4 < 11; omega) rfl (by omega) (fun m hm => ⟨rfl, fun _ => by
    simp only [mSeq_ap, mAsg_ap, mIf_ap, mDrop_ap, mRet_ap, mNext_ap, mFor_ap, imRng_ap, imSeq_ap, tmB_ap, tmNot_ap, tmTru_ap, tmAnd_ap, tmOr_ap, tmYes_ap, e1_ap, e2_ap, eN_ap, lN_ap, eL_ap, lLst_ap, eCall_ap, aCons_ap, aNil_ap, eVar_ap, eC_ap, eAnd_ap, eOr_ap, eNot_ap, eIsi_ap, eIf_ap, List.set_cons_succ, List.set_cons_zero, List.getElem?_cons_zero, List.getElem?_cons_succ, bind_ok, calm_ok, gmName_ap, tru_bool, itemsOf_list, itemsOf_tuple, Bool.not_true, Bool.not_false, Bool.false_eq_true, if_false, if_true, endOf, fEq_N]
    by_cases q : m = max (at0 lab i) (at0 lab j)
    · simp only [decide_eq_true q, if_true, if_pos q]
    · simp only [decide_eq_false q, Bool.false_eq_true, if_false, if_neg q]⟩)
  have em : (lab.filter fun _ => true).map (fun m => iD (if m = max (at0 lab i) (at0 lab j) then min (at0 lab i) (at0 lab j) else m)) = (joinL lab (i, j)).map iD := by
    rw [List.filter_eq_self.mpr fun _ _ => rfl]
    unfold joinL
    rw [List.map_map]
    rfl
  rw [em] at hc
  rw [mAsg_ap, eL_ap, hc]
  rfl
def ccB : Sm := mSeq (mAsg (gmName 9) (eN fTuple (aCons (eL (lLc (imRng rng1 (aCons (eVar 0) aNil)) [10] (gmName 10) (tmB (e2 fEq (e2 fIx (eVar 2) (eVar 10)) (eVar 4))) (eVar 10))) aNil))) (mIf (tmB (e2 fGt (eN fLen (aCons (eVar 9) aNil)) (eC (.int 0)))) (mApp 3 (eVar 9)) mNext)
theorem classes_ok {n : Nat} (hn : n ≤ 6) {ps : List (Nat × Nat)} (hp : ∀ p ∈ ps, p.1 < n ∧ p.2 < n) : M__law_classes [iD n, .list (ps.map pD)] = .ok (FD (clumps n (labels n ps))) := by
  have K := labels_ok hp
  have e : M__law_classes [iD n, .list (ps.map pD)] = ((endOf (m__law_classes [.dat (iD n), .dat (.list (ps.map pD)), .un, .un, .un, .un, .un, .un, .un, .un, .un])).bind fun p => .ok p.1) := rfl
  rw [e]
  have em : m__law_classes = mSeq (mAsg (gmName 2) (eL (lLstR1 (eVar 0)))) (mSeq (mFor (imSeq (eVar 1)) (gmTup [5, 6]) jcB) (mSeq (mAsgO 3 (lLst aNil)) (mSeq (mFor (imRng rng1 (aCons (eVar 0) aNil)) (gmName 4) ccB) (mRet (eN fTuple (aCons (eL (lN fSorted (aCons (eVar 3) aNil))) aNil)))))) := rfl
  obtain ⟨en2, hf2, v5, v6, v7, v8, rfl⟩ := for_items (gm := gmTup [5, 6]) (b := jcB) (enc := pD) (fun i en => ∃ v5 v6 v7 v8, en = [.dat (iD n), .dat (.list (ps.map pD)), .dat (.list ((labAt n ps i).map iD)), .un, .un, v5, v6, v7, v8, .un, .un]) ps (k := 0) (en := [.dat (iD n), .dat (.list (ps.map pD)), .dat (.list ((List.range n).map iD)), .un, .un, .un, .un, .un, .un, .un, .un]) ⟨.un, .un, .un, .un, rfl⟩ (by
    rintro i hi en ⟨v5, v6, v7, v8, rfl⟩
    rw [Nat.zero_add, labAt_succ hi]
    obtain ⟨l1, l2⟩ := hp _ (List.getElem_mem hi)
    obtain ⟨v7', v8', h⟩ := jc_ok (N := iD n) (P := .list (ps.map pD)) (labAt_len n ps i) hn l1 l2 v7 v8
    exact ⟨[.dat (iD n), .dat (.list (ps.map pD)), .dat (.list ((labAt n ps i).map iD)), .un, .un, .dat (iD ps[i].1), .dat (iD ps[i].2), v7, v8, .un, .un], .nx, _, rfl, h, .inl rfl, _, _, v7', v8', rfl⟩)
  rw [Nat.zero_add, labAt_all] at hf2
  have hll := K.len
  generalize hlab : labels n ps = lab at hf2 hll K
  obtain ⟨en3, hf3, v4, v9, rfl⟩ := for_rng (j := 4) (n := n) (b := ccB) (fun i en => ∃ v4 v9, en = [.dat (iD n), .dat (.list (ps.map pD)), .dat (.list (lab.map iD)), .own (.lst ((((List.range i).filter fun m => decide (m ∈ lab)).map (clump n lab)).map tupN)), v4, v5, v6, v7, v8, v9, .un]) (en := [.dat (iD n), .dat (.list (ps.map pD)), .dat (.list (lab.map iD)), .own (.lst []), .un, v5, v6, v7, v8, .un, .un]) ⟨.un, .un, rfl⟩ (by
    rintro i en hi ⟨v4, v9, rfl⟩
    have er : ((List.range (i + 1)).filter fun m => decide (m ∈ lab)).map (clump n lab) = ((List.range i).filter fun m => decide (m ∈ lab)).map (clump n lab) ++ if decide (i ∈ lab) = true then [clump n lab i] else [] := by
      rw [List.range_succ, List.filter_append, List.map_append]
      congr 1
      cases q : decide (i ∈ lab) <;> simp [q]
    refine ⟨.nx, [.dat (iD n), .dat (.list (ps.map pD)), .dat (.list (lab.map iD)), .own (.lst ((((List.range (i + 1)).filter fun m => decide (m ∈ lab)).map (clump n lab)).map tupN)), .dat (iD i), v5, v6, v7, v8, .dat (tupN (clump n lab i)), .un], ?_, .inl rfl, _, _, rfl⟩
    show ccB [.dat (iD n), .dat (.list (ps.map pD)), .dat (.list (lab.map iD)), .own (.lst ((((List.range i).filter fun m => decide (m ∈ lab)).map (clump n lab)).map tupN)), .dat (iD i), v5, v6, v7, v8, v9, .un] = _
    have hc := lLc_nat (j := 10) (a := aCons (eVar 0) aNil) (t := tmB (e2 fEq (e2 fIx (eVar 2) (eVar 10)) (eVar 4))) (m := eVar 10) (en := [.dat (iD n), .dat (.list (ps.map pD)), .dat (.list (lab.map iD)), .own (.lst ((((List.range i).filter fun m => decide (m ∈ lab)).map (clump n lab)).map tupN)), .dat (iD i), v5, v6, v7, v8, v9, .un]) (n := n) (fun h => decide (at0 lab h = i)) iD rfl (by show 10 < 11; omega) rfl (by omega) (fun h hh => ⟨by
      have lh : fIx (.list (lab.map iD)) (.int (h : Int)) = .ok (iD (at0 lab h)) := lab_ix (by omega)
      simp only [mSeq_ap, mAsg_ap, mIf_ap, mDrop_ap, mRet_ap, mNext_ap, mFor_ap, imRng_ap, imSeq_ap, tmB_ap, tmNot_ap, tmTru_ap, tmAnd_ap, tmOr_ap, tmYes_ap, e1_ap, e2_ap, eN_ap, lN_ap, eL_ap, lLst_ap, eCall_ap, aCons_ap, aNil_ap, eVar_ap, eC_ap, eAnd_ap, eOr_ap, eNot_ap, eIsi_ap, eIf_ap, List.set_cons_succ, List.set_cons_zero, List.getElem?_cons_zero, List.getElem?_cons_succ, bind_ok, calm_ok, gmName_ap, tru_bool, itemsOf_list, itemsOf_tuple, Bool.not_true, Bool.not_false, Bool.false_eq_true, if_false, if_true, endOf, lh, fEq_N], fun _ => rfl⟩)
    have h0 : fGt (iD (clump n lab i).length) (.int 0) = .ok (.bool (decide (i ∈ lab))) := by
      rw [show (PyData.int 0) = iD 0 from rfl, fGt_N, clump_pos hll]
    unfold ccB
    rw [mSeq_nx (en1 := [.dat (iD n), .dat (.list (ps.map pD)), .dat (.list (lab.map iD)), .own (.lst ((((List.range i).filter fun m => decide (m ∈ lab)).map (clump n lab)).map tupN)), .dat (iD i), v5, v6, v7, v8, .dat (tupN (clump n lab i)), .un]) (by
      rw [mAsg_ap, eN_ap, aCons_ap, eL_ap, hc]
      rfl)]
    have hg : tmB (e2 fGt (eN fLen (aCons (eVar 9) aNil)) (eC (.int 0))) [.dat (iD n), .dat (.list (ps.map pD)), .dat (.list (lab.map iD)), .own (.lst ((((List.range i).filter fun m => decide (m ∈ lab)).map (clump n lab)).map tupN)), .dat (iD i), v5, v6, v7, v8, .dat (tupN (clump n lab i)), .un] = .ok (decide (i ∈ lab), [.dat (iD n), .dat (.list (ps.map pD)), .dat (.list (lab.map iD)), .own (.lst ((((List.range i).filter fun m => decide (m ∈ lab)).map (clump n lab)).map tupN)), .dat (iD i), v5, v6, v7, v8, .dat (tupN (clump n lab i)), .un]) := by
      simp only [mSeq_ap, mAsg_ap, mIf_ap, mDrop_ap, mRet_ap, mNext_ap, mFor_ap, imRng_ap, imSeq_ap, tmB_ap, tmNot_ap, tmTru_ap, tmAnd_ap, tmOr_ap, tmYes_ap, e1_ap, e2_ap, eN_ap, lN_ap, eL_ap, lLst_ap, eCall_ap, aCons_ap, aNil_ap, eVar_ap, eC_ap, eAnd_ap, eOr_ap, eNot_ap, eIsi_ap, eIf_ap, List.set_cons_succ, List.set_cons_zero, List.getElem?_cons_zero, List.getElem?_cons_succ, bind_ok, calm_ok, gmName_ap, tru_bool, itemsOf_list, itemsOf_tuple, Bool.not_true, Bool.not_false, Bool.false_eq_true, if_false, if_true, endOf, fLen_tupN, h0]
    rw [mIf_ap, hg, bind_ok, er]
    dsimp only
    cases q : decide (i ∈ lab) with
    | false => rw [if_neg Bool.false_ne_true, if_neg Bool.false_ne_true, List.append_nil]; rfl
    | true =>
      rw [if_pos rfl, if_pos rfl, mApp_ok (ds := (((List.range i).filter fun m => decide (m ∈ lab)).map (clump n lab)).map tupN) (d := tupN (clump n lab i)) rfl rfl (by
        rw [List.length_map, List.length_map]
        have := List.length_filter_le (fun m => decide (m ∈ lab)) (List.range i)
        rw [List.length_range] at this
        show _ < 100000
        omega), List.map_append]
      rfl)
  rw [em, mSeq_nx (en1 := [.dat (iD n), .dat (.list (ps.map pD)), .dat (.list ((List.range n).map iD)), .un, .un, .un, .un, .un, .un, .un, .un]) (by
    have hL : lLstR1 (eVar 0) [.dat (iD n), .dat (.list (ps.map pD)), .un, .un, .un, .un, .un, .un, .un, .un, .un] = .ok ((List.range n).map iD, [.dat (iD n), .dat (.list (ps.map pD)), .un, .un, .un, .un, .un, .un, .un, .un, .un]) := by
      have : lLstR1 (eVar 0) [.dat (iD n), .dat (.list (ps.map pD)), .un, .un, .un, .un, .un, .un, .un, .un, .un] = (if okRg 0 (n : Int) = true then .ok (rgD 0 (n : Int), [.dat (iD n), .dat (.list (ps.map pD)), .un, .un, .un, .un, .un, .un, .un, .un, .un]) else .stk) := rfl
      rw [this, if_pos (by unfold okRg; simp; omega)]
      have : rgD 0 (n : Int) = (List.range n).map iD := by unfold rgD; simp
      rw [this]
    rw [mAsg_ap, eL_ap, hL]
    rfl)]
  rw [mSeq_nx (en1 := [.dat (iD n), .dat (.list (ps.map pD)), .dat (.list (lab.map iD)), .un, .un, v5, v6, v7, v8, .un, .un]) (by
    simp only [mSeq_ap, mAsg_ap, mIf_ap, mDrop_ap, mRet_ap, mNext_ap, mFor_ap, imRng_ap, imSeq_ap, tmB_ap, tmNot_ap, tmTru_ap, tmAnd_ap, tmOr_ap, tmYes_ap, e1_ap, e2_ap, eN_ap, lN_ap, eL_ap, lLst_ap, eCall_ap, aCons_ap, aNil_ap, eVar_ap, eC_ap, eAnd_ap, eOr_ap, eNot_ap, eIsi_ap, eIf_ap, List.set_cons_succ, List.set_cons_zero, List.getElem?_cons_zero, List.getElem?_cons_succ, bind_ok, calm_ok, gmName_ap, tru_bool, itemsOf_list, itemsOf_tuple, Bool.not_true, Bool.not_false, Bool.false_eq_true, if_false, if_true, endOf, hf2])]
  rw [mSeq_nx (en1 := [.dat (iD n), .dat (.list (ps.map pD)), .dat (.list (lab.map iD)), .own (.lst []), .un, v5, v6, v7, v8, .un, .un]) rfl]
  rw [mSeq_nx (en1 := [.dat (iD n), .dat (.list (ps.map pD)), .dat (.list (lab.map iD)), .own (.lst ((clumps n lab).map tupN)), v4, v5, v6, v7, v8, v9, .un]) (by
    simp only [mSeq_ap, mAsg_ap, mIf_ap, mDrop_ap, mRet_ap, mNext_ap, mFor_ap, imRng_ap, imSeq_ap, tmB_ap, tmNot_ap, tmTru_ap, tmAnd_ap, tmOr_ap, tmYes_ap, e1_ap, e2_ap, eN_ap, lN_ap, eL_ap, lLst_ap, eCall_ap, aCons_ap, aNil_ap, eVar_ap, eC_ap, eAnd_ap, eOr_ap, eNot_ap, eIsi_ap, eIf_ap, List.set_cons_succ, List.set_cons_zero, List.getElem?_cons_zero, List.getElem?_cons_succ, bind_ok, calm_ok, gmName_ap, tru_bool, itemsOf_list, itemsOf_tuple, Bool.not_true, Bool.not_false, Bool.false_eq_true, if_false, if_true, endOf, rng1_nat (by omega : n ≤ 100000), hf3]
    rfl)]
  have e3 : eVar 3 [.dat (iD n), .dat (.list (ps.map pD)), .dat (.list (lab.map iD)), .own (.lst ((clumps n lab).map tupN)), v4, v5, v6, v7, v8, v9, .un] = .ok (.list ((clumps n lab).map tupN), [.dat (iD n), .dat (.list (ps.map pD)), .dat (.list (lab.map iD)), .dat (.list ((clumps n lab).map tupN)), v4, v5, v6, v7, v8, v9, .un]) := rfl
  simp only [mRet_ap, eN_ap, aCons_ap, aNil_ap, eL_ap, lN_ap, e3, bind_ok, fSorted_tupN, clumps_sorted K, calm_ok, fTuple_list, endOf]
  rfl
end
end K07
end

section
set_option Elab.async false
set_option linter.all false
set_option maxRecDepth 100000
set_option maxHeartbeats 4000000
/-! K07I: the same thing; idle houses. -/
namespace K07
open PySem PySem.Spec PyProof.Rows L2 Mir Dg
/-! ### _law_same of a thing and itself -/
def smR (R : List D → Rs D) : Sm := mIf (tmNot (tmTru (eCall R (aCons (e2 fIx (eVar 0) (eVar 2)) (aCons (e2 fIx (eVar 1) (eVar 2)) aNil))))) (mRet (eC (.bool false))) mNext
theorem same_int (j : Nat) (i : Int) : MR__law_same (j + 1) [.int i, .int i] = .ok (.bool true) := by
  have e : MR__law_same (j + 1) [.int i, .int i] = ((endOf (m__law_same (MR__law_same j) [.dat (.int i), .dat (.int i), .un])).bind fun p => .ok p.1) := rfl
  rw [e]
  unfold m__law_same
  have h1 : isi .tup (.int i) = false := rfl
  have h2 : isi .bool (.int i) = false := rfl
  have h3 : isi .int (.int i) = true := rfl
  have h4 : fIs (.int i) .none = .ok (.bool false) := rfl
  simp only [mSeq_ap, mAsg_ap, mIf_ap, mDrop_ap, mRet_ap, mNext_ap, mFor_ap, imRng_ap, imSeq_ap, tmB_ap, tmNot_ap, tmTru_ap, tmAnd_ap, tmOr_ap, tmYes_ap, e1_ap, e2_ap, eN_ap, lN_ap, eL_ap, lLst_ap, eCall_ap, aCons_ap, aNil_ap, eVar_ap, eC_ap, eAnd_ap, eOr_ap, eNot_ap, eIsi_ap, eIf_ap, List.set_cons_succ, List.set_cons_zero, List.getElem?_cons_zero, List.getElem?_cons_succ, bind_ok, calm_ok, gmName_ap, tru_bool, itemsOf_list, itemsOf_tuple, Bool.not_true, Bool.not_false, Bool.false_eq_true, if_false, if_true, endOf, h1, h2, h3, h4, fEq_int, decide_true]
theorem same_bool (j : Nat) (b : Bool) : MR__law_same (j + 1) [.bool b, .bool b] = .ok (.bool true) := by
  have e : MR__law_same (j + 1) [.bool b, .bool b] = ((endOf (m__law_same (MR__law_same j) [.dat (.bool b), .dat (.bool b), .un])).bind fun p => .ok p.1) := rfl
  rw [e]
  unfold m__law_same
  have h1 : isi .tup (.bool b) = false := rfl
  have h2 : isi .bool (.bool b) = true := rfl
  have h4 : fIs (.bool b) .none = .ok (.bool false) := rfl
  simp only [mSeq_ap, mAsg_ap, mIf_ap, mDrop_ap, mRet_ap, mNext_ap, mFor_ap, imRng_ap, imSeq_ap, tmB_ap, tmNot_ap, tmTru_ap, tmAnd_ap, tmOr_ap, tmYes_ap, e1_ap, e2_ap, eN_ap, lN_ap, eL_ap, lLst_ap, eCall_ap, aCons_ap, aNil_ap, eVar_ap, eC_ap, eAnd_ap, eOr_ap, eNot_ap, eIsi_ap, eIf_ap, List.set_cons_succ, List.set_cons_zero, List.getElem?_cons_zero, List.getElem?_cons_succ, bind_ok, calm_ok, gmName_ap, tru_bool, itemsOf_list, itemsOf_tuple, Bool.not_true, Bool.not_false, Bool.false_eq_true, if_false, if_true, endOf, h1, h2, h4, fEq_bool, beq_self_eq_true]
theorem fIx_tuple {ds : List D} {i : Nat} (h : i < ds.length) : fIx (.tuple ds) (iD i) = .ok ds[i] := by
  have ha : atI ds (i : Int) = some ds[i] := by
    unfold atI ixN
    rw [if_pos (by omega), if_pos (by omega)]
    show ds[((i : Int)).toNat]? = _
    rw [Int.toNat_natCast, List.getElem?_eq_getElem h]
  show (match atI ds (i : Int) with
    | some z => Rs.ok z
    | none => .stk) = _
  rw [ha]
theorem same_tuple (j : Nat) (ds : List D) (hl : ds.length ≤ 1000) (h : ∀ d ∈ ds, MR__law_same j [d, d] = .ok (.bool true)) : MR__law_same (j + 1) [.tuple ds, .tuple ds] = .ok (.bool true) := by
  have e : MR__law_same (j + 1) [.tuple ds, .tuple ds] = ((endOf (m__law_same (MR__law_same j) [.dat (.tuple ds), .dat (.tuple ds), .un])).bind fun p => .ok p.1) := rfl
  rw [e]
  have h1 : isi .tup (.tuple ds) = true := rfl
  have hL : fLen [.tuple ds] = .ok (iD ds.length) := rfl
  obtain ⟨en', hf, v, rfl⟩ := for_rng (j := 2) (n := ds.length) (b := smR (MR__law_same j)) (fun _ en => ∃ v, en = [.dat (.tuple ds), .dat (.tuple ds), v]) (en := [.dat (.tuple ds), .dat (.tuple ds), .un]) ⟨.un, rfl⟩ (by
    rintro i en hi ⟨v, rfl⟩
    refine ⟨.nx, [.dat (.tuple ds), .dat (.tuple ds), .dat (iD i)], ?_, .inl rfl, _, rfl⟩
    show smR (MR__law_same j) [.dat (.tuple ds), .dat (.tuple ds), .dat (iD i)] = _
    unfold smR
    simp only [mSeq_ap, mAsg_ap, mIf_ap, mDrop_ap, mRet_ap, mNext_ap, mFor_ap, imRng_ap, imSeq_ap, tmB_ap, tmNot_ap, tmTru_ap, tmAnd_ap, tmOr_ap, tmYes_ap, e1_ap, e2_ap, eN_ap, lN_ap, eL_ap, lLst_ap, eCall_ap, aCons_ap, aNil_ap, eVar_ap, eC_ap, eAnd_ap, eOr_ap, eNot_ap, eIsi_ap, eIf_ap, List.set_cons_succ, List.set_cons_zero, List.getElem?_cons_zero, List.getElem?_cons_succ, bind_ok, calm_ok, gmName_ap, tru_bool, itemsOf_list, itemsOf_tuple, Bool.not_true, Bool.not_false, Bool.false_eq_true, if_false, if_true, endOf, fIx_tuple hi, h _ (List.getElem_mem hi)])
  unfold m__law_same
  have hf' : forGo (gmName 2) (mIf (tmNot (tmTru (eCall (MR__law_same j) (aCons (e2 fIx (eVar 0) (eVar 2)) (aCons (e2 fIx (eVar 1) (eVar 2)) aNil))))) (mRet (eC (.bool false))) mNext) ((List.range ds.length).map fun i : Nat => PyData.int (i : Nat)) [.dat (.tuple ds), .dat (.tuple ds), .un] = .ok (.nx, [.dat (.tuple ds), .dat (.tuple ds), v]) := hf
  simp only [mSeq_ap, mAsg_ap, mIf_ap, mDrop_ap, mRet_ap, mNext_ap, mFor_ap, imRng_ap, imSeq_ap, tmB_ap, tmNot_ap, tmTru_ap, tmAnd_ap, tmOr_ap, tmYes_ap, e1_ap, e2_ap, eN_ap, lN_ap, eL_ap, lLst_ap, eCall_ap, aCons_ap, aNil_ap, eVar_ap, eC_ap, eAnd_ap, eOr_ap, eNot_ap, eIsi_ap, eIf_ap, List.set_cons_succ, List.set_cons_zero, List.getElem?_cons_zero, List.getElem?_cons_succ, bind_ok, calm_ok, gmName_ap, tru_bool, itemsOf_list, itemsOf_tuple, Bool.not_true, Bool.not_false, Bool.false_eq_true, if_false, if_true, endOf, h1, hL, fNe_N, decide_true, rng1_nat (by omega : ds.length ≤ 100000), hf']
theorem same_tupN (j : Nat) (xs : List Nat) (hl : xs.length ≤ 1000) : MR__law_same (j + 2) [tupN xs, tupN xs] = .ok (.bool true) :=
  same_tuple (j + 1) (xs.map iD) (by rw [List.length_map]; exact hl) fun d hd => by
    obtain ⟨x, _, rfl⟩ := List.mem_map.mp hd
    exact same_int j _
theorem same_FD (F : List (List Nat)) (hl : F.length ≤ 1000) (h : ∀ a ∈ F, a.length ≤ 1000) : M__law_same [FD F, FD F] = .ok (.bool true) :=
  same_tuple 5 (F.map tupN) (by rw [List.length_map]; exact hl) fun d hd => by
    obtain ⟨x, hx, rfl⟩ := List.mem_map.mp hd
    exact same_tupN 3 x (h x hx)
theorem same_tup (xs : List Nat) (hl : xs.length ≤ 1000) : M__law_same [tupN xs, tupN xs] = .ok (.bool true) := same_tupN 4 xs hl
theorem same_b (b : Bool) : M__law_same [.bool b, .bool b] = .ok (.bool true) := same_bool 5 b
theorem same_N (n : Nat) : M__law_same [iD n, iD n] = .ok (.bool true) := same_int 5 _
section
variable {s t : List Nat}
/-! ### idle houses -/
def restH (n h : Nat) : List Nat := (List.range n).filter fun k => !decide (k = h)
def idD (s t : List Nat) (h p c : Nat) : Bool := !decide (at0 t (p + c * sp s h) = at0 t p)
def id2 (s t : List Nat) (h p : Nat) : Option D := (rngN 1 (sz s h)).findSome? fun c => if idD s t h p c = true then some (.bool false) else none
def idN (s t : List Nat) (h : Nat) : Option D := (corner s (restH s.length h)).findSome? (id2 s t h)
def idB2 : Sm := mIf (tmB (e2 fNe (e2 fIx (eVar 1) (e2 fAdd (eVar 4) (e2 fMul (eVar 5) (eVar 3)))) (e2 fIx (eVar 1) (eVar 4)))) (mRet (eC (.bool false))) mNext
def idB1 : Sm := mFor (imRng rng2 (aCons (eC (.int 1)) (aCons (e2 fIx (eVar 0) (eVar 2)) aNil))) (gmName 5) idB2
theorem corner_h (W : Wd s t) {h p : Nat} (hh : h < s.length) : p ∈ corner s (restH s.length h) ↔ p < prodL s ∧ dg s h p = 0 := by
  have hl : Lot s.length (restH s.length h) := lot_filter _ _
  rw [mem_corner' W.pos hl.nd hl.lt]
  have hm : ∀ k, k ∈ restH s.length h ↔ k < s.length ∧ k ≠ h := fun k => by
    unfold restH
    rw [List.mem_filter, List.mem_range, Bool.not_eq_true', decide_eq_false_iff_not]
  constructor
  · rintro ⟨h1, h2⟩
    exact ⟨h1, h2 h hh fun z => ((hm h).mp z).2 rfl⟩
  · rintro ⟨h1, h2⟩
    refine ⟨h1, fun k hk hn => ?_⟩
    by_cases q : k = h
    · subst q; exact h2
    · exact absurd ((hm k).mpr ⟨hk, q⟩) hn
theorem one_up (W : Wd s t) {h p c : Nat} (hh : h < s.length) (hp : p < prodL s) (h0 : dg s h p = 0) (hc : c < sz s h) : p + c * sp s h < prodL s ∧ dg s h (p + c * sp s h) = c := by
  have ok : Ok s (fun k => dg s k p) := dg_ok W.pos
  have e := pl_up (s := s) (x := fun k => dg s k p) (i := h) (a := c) hh (by rw [h0]; omega)
  rw [pl_dg W.pos hp, h0, Nat.sub_zero] at e
  have l := pl_lt (ok.upd hc)
  rw [e] at l
  have d := dg_pl W.pos (ok.upd hc) hh
  rw [e, upd_at] at d
  exact ⟨l, d⟩
theorem one_down (W : Wd s t) {h k : Nat} (hh : h < s.length) (hk : k < prodL s) : dg s h k * sp s h ≤ k ∧ dg s h (k - dg s h k * sp s h) = 0 := by
  have ok : Ok s (fun i => dg s i k) := dg_ok W.pos
  have e := pl_upd (s := s) (x := fun i => dg s i k) (i := h) (a := 0) hh
  rw [pl_dg W.pos hk, Nat.zero_mul, Nat.add_zero] at e
  have hz := sz_pos W.pos hh
  have d := dg_pl W.pos (ok.upd hz) hh
  rw [upd_at] at d
  have e2 : pl s (upd (fun i => dg s i k) h 0) = k - dg s h k * sp s h := by
    have e' : pl s (upd (fun i => dg s i k) h 0) + dg s h k * sp s h = k := e
    omega
  rw [e2] at d
  have e' : pl s (upd (fun i => dg s i k) h 0) + dg s h k * sp s h = k := e
  exact ⟨by omega, d⟩
theorem is_idle_ok (W : Wd s t) {h : Nat} (hh : h < s.length) : M__is_idle [tupN s, tupN t, iD h] = .ok (.bool (idN s t h).isNone) := by
  have h6 := W.six
  have hp := W.prod
  have b1 := sz_le W.pos hh
  have b2 := sp_le W.pos hh
  have e : M__is_idle [tupN s, tupN t, iD h] = ((endOf (m__is_idle [.dat (tupN s), .dat (tupN t), .dat (iD h), .un, .un, .un, .un])).bind fun p => .ok p.1) := rfl
  rw [e]
  have em : m__is_idle = mSeq (mAsg (gmName 3) (e2 fIx (eCall M_spans_of (aCons (eVar 0) aNil)) (eVar 2))) (mSeq (mFor (imSeq (eCall M_corner_places (aCons (eVar 0) (aCons (eL (lLc (imRng rng1 (aCons (eN fLen (aCons (eVar 0) aNil)) aNil)) [6] (gmName 6) (tmB (e2 fNe (eVar 6) (eVar 2))) (eVar 6))) aNil)))) (gmName 4) idB1) (mRet (eC (.bool true)))) := rfl
  have hl : Lot s.length (restH s.length h) := lot_filter _ _
  have hc := lLc_nat (j := 6) (a := aCons (eN fLen (aCons (eVar 0) aNil)) aNil) (t := tmB (e2 fNe (eVar 6) (eVar 2))) (m := eVar 6) (en := [.dat (tupN s), .dat (tupN t), .dat (iD h), .dat (iD (sp s h)), .un, .un, .un]) (n := s.length) (fun k => !decide (k = h)) iD (by simp only [mSeq_ap, mAsg_ap, mIf_ap, mDrop_ap, mRet_ap, mNext_ap, mFor_ap, imRng_ap, imSeq_ap, tmB_ap, tmNot_ap, tmTru_ap, tmAnd_ap, tmOr_ap, tmYes_ap, e1_ap, e2_ap, eN_ap, lN_ap, eL_ap, lLst_ap, eCall_ap, aCons_ap, aNil_ap, eVar_ap, eC_ap, eAnd_ap, eOr_ap, eNot_ap, eIsi_ap, eIf_ap, List.set_cons_succ, List.set_cons_zero, List.getElem?_cons_zero, List.getElem?_cons_succ, bind_ok, calm_ok, gmName_ap, tru_bool, itemsOf_list, itemsOf_tuple, Bool.not_true, Bool.not_false, Bool.false_eq_true, if_false, if_true, endOf, fLen_tupN]) (by show 6 < 7; omega) rfl (by omega) (fun k hk => ⟨by
    have e8 : (PyData.int (k : Int)) = iD k := rfl
    simp only [mSeq_ap, mAsg_ap, mIf_ap, mDrop_ap, mRet_ap, mNext_ap, mFor_ap, imRng_ap, imSeq_ap, tmB_ap, tmNot_ap, tmTru_ap, tmAnd_ap, tmOr_ap, tmYes_ap, e1_ap, e2_ap, eN_ap, lN_ap, eL_ap, lLst_ap, eCall_ap, aCons_ap, aNil_ap, eVar_ap, eC_ap, eAnd_ap, eOr_ap, eNot_ap, eIsi_ap, eIf_ap, List.set_cons_succ, List.set_cons_zero, List.getElem?_cons_zero, List.getElem?_cons_succ, bind_ok, calm_ok, gmName_ap, tru_bool, itemsOf_list, itemsOf_tuple, Bool.not_true, Bool.not_false, Bool.false_eq_true, if_false, if_true, endOf, e8, fNe_N], fun _ => rfl⟩)
  have hr : rng2 [.int 1, iD (sz s h)] = .ok ((rngN 1 (sz s h)).map iD) := rng2_N 1 (sz s h) (by omega) (by omega)
  obtain ⟨en', hf, v4, v5, rfl⟩ := for_find (gm := gmName 4) (b := idB1) (enc := iD) (r := id2 s t h) (fun en => ∃ v4 v5, en = [.dat (tupN s), .dat (tupN t), .dat (iD h), .dat (iD (sp s h)), v4, v5, .un]) (corner s (restH s.length h)) (en := [.dat (tupN s), .dat (tupN t), .dat (iD h), .dat (iD (sp s h)), .un, .un, .un]) ⟨_, _, rfl⟩ (by
    rintro p hpm en ⟨v4, v5, rfl⟩
    obtain ⟨hpp, h0⟩ := (corner_h W hh).mp hpm
    obtain ⟨en', hf, v5', rfl⟩ := find_rng2 (j := 5) (a := 1) (b := sz s h) (bd := idB2) (r := fun c => if idD s t h p c = true then some (.bool false) else none) (fun en => ∃ v5, en = [.dat (tupN s), .dat (tupN t), .dat (iD h), .dat (iD (sp s h)), .dat (iD p), v5, .un]) (en := [.dat (tupN s), .dat (tupN t), .dat (iD h), .dat (iD (sp s h)), .dat (iD p), v5, .un]) ⟨v5, rfl⟩ (by
      rintro c en hc1 hc2 ⟨v5, rfl⟩
      obtain ⟨l1, _⟩ := one_up W hh hpp h0 hc2
      refine ⟨[.dat (tupN s), .dat (tupN t), .dat (iD h), .dat (iD (sp s h)), .dat (iD p), .dat (iD c), .un], ?_, _, rfl⟩
      show idB2 [.dat (tupN s), .dat (tupN t), .dat (iD h), .dat (iD (sp s h)), .dat (iD p), .dat (iD c), .un] = _
      unfold idB2
      simp only [mSeq_ap, mAsg_ap, mIf_ap, mDrop_ap, mRet_ap, mNext_ap, mFor_ap, imRng_ap, imSeq_ap, tmB_ap, tmNot_ap, tmTru_ap, tmAnd_ap, tmOr_ap, tmYes_ap, e1_ap, e2_ap, eN_ap, lN_ap, eL_ap, lLst_ap, eCall_ap, aCons_ap, aNil_ap, eVar_ap, eC_ap, eAnd_ap, eOr_ap, eNot_ap, eIsi_ap, eIf_ap, List.set_cons_succ, List.set_cons_zero, List.getElem?_cons_zero, List.getElem?_cons_succ, bind_ok, calm_ok, gmName_ap, tru_bool, itemsOf_list, itemsOf_tuple, Bool.not_true, Bool.not_false, Bool.false_eq_true, if_false, if_true, endOf, fMul_N (by omega : c < 2 ^ 62) (by omega : sp s h < 2 ^ 62), fAdd_N, tab_ix W l1, tab_ix W hpp, fNe_N]
      unfold idD
      cases decide (at0 t (p + c * sp s h) = at0 t p) <;> rfl)
    refine ⟨[.dat (tupN s), .dat (tupN t), .dat (iD h), .dat (iD (sp s h)), .dat (iD p), v5, .un], [.dat (tupN s), .dat (tupN t), .dat (iD h), .dat (iD (sp s h)), .dat (iD p), v5', .un], rfl, ?_, _, _, rfl⟩
    unfold idB1
    simp only [mSeq_ap, mAsg_ap, mIf_ap, mDrop_ap, mRet_ap, mNext_ap, mFor_ap, imRng_ap, imSeq_ap, tmB_ap, tmNot_ap, tmTru_ap, tmAnd_ap, tmOr_ap, tmYes_ap, e1_ap, e2_ap, eN_ap, lN_ap, eL_ap, lLst_ap, eCall_ap, aCons_ap, aNil_ap, eVar_ap, eC_ap, eAnd_ap, eOr_ap, eNot_ap, eIsi_ap, eIf_ap, List.set_cons_succ, List.set_cons_zero, List.getElem?_cons_zero, List.getElem?_cons_succ, bind_ok, calm_ok, gmName_ap, tru_bool, itemsOf_list, itemsOf_tuple, Bool.not_true, Bool.not_false, Bool.false_eq_true, if_false, if_true, endOf, sz_ix hh, hr, hf]
    rfl)
  rw [em, mSeq_nx (en1 := [.dat (tupN s), .dat (tupN t), .dat (iD h), .dat (iD (sp s h)), .un, .un, .un]) (by simp only [mSeq_ap, mAsg_ap, mIf_ap, mDrop_ap, mRet_ap, mNext_ap, mFor_ap, imRng_ap, imSeq_ap, tmB_ap, tmNot_ap, tmTru_ap, tmAnd_ap, tmOr_ap, tmYes_ap, e1_ap, e2_ap, eN_ap, lN_ap, eL_ap, lLst_ap, eCall_ap, aCons_ap, aNil_ap, eVar_ap, eC_ap, eAnd_ap, eOr_ap, eNot_ap, eIsi_ap, eIf_ap, List.set_cons_succ, List.set_cons_zero, List.getElem?_cons_zero, List.getElem?_cons_succ, bind_ok, calm_ok, gmName_ap, tru_bool, itemsOf_list, itemsOf_tuple, Bool.not_true, Bool.not_false, Bool.false_eq_true, if_false, if_true, endOf, spans_of_ok W, sp_ix W hh])]
  rw [mSeq_fl (o := idN s t h) (en1 := [.dat (tupN s), .dat (tupN t), .dat (iD h), .dat (iD (sp s h)), v4, v5, .un]) (by
    have hq : PyData.list (((List.range s.length).filter fun k => !decide (k = h)).map iD) = .list ((restH s.length h).map iD) := rfl
    simp only [mSeq_ap, mAsg_ap, mIf_ap, mDrop_ap, mRet_ap, mNext_ap, mFor_ap, imRng_ap, imSeq_ap, tmB_ap, tmNot_ap, tmTru_ap, tmAnd_ap, tmOr_ap, tmYes_ap, e1_ap, e2_ap, eN_ap, lN_ap, eL_ap, lLst_ap, eCall_ap, aCons_ap, aNil_ap, eVar_ap, eC_ap, eAnd_ap, eOr_ap, eNot_ap, eIsi_ap, eIf_ap, List.set_cons_succ, List.set_cons_zero, List.getElem?_cons_zero, List.getElem?_cons_succ, bind_ok, calm_ok, gmName_ap, tru_bool, itemsOf_list, itemsOf_tuple, Bool.not_true, Bool.not_false, Bool.false_eq_true, if_false, if_true, endOf, hc, hq, corner_ok W hl (LOT := .list ((restH s.length h).map iD)) rfl, hf]
    rfl)]
  cases hx : idN s t h with
  | none => rfl
  | some d =>
    obtain ⟨p, _, h1⟩ := List.exists_of_findSome?_eq_some hx
    obtain ⟨c, _, h2⟩ := List.exists_of_findSome?_eq_some h1
    split at h2
    · rw [← Option.some.inj h2]
      rfl
    · cases h2
def idL (s t : List Nat) (h : Nat) : Bool := decide (((List.range (prodL s)).filter fun k => !decide (at0 t k = at0 t (k - dg s h k * sp s h))).length = 0)
theorem idle_two (W : Wd s t) {h : Nat} (hh : h < s.length) : (idN s t h).isNone = idL s t h := by
  have a1 : (idN s t h).isNone = true ↔ ∀ p ∈ corner s (restH s.length h), ∀ c ∈ rngN 1 (sz s h), idD s t h p c = false := by
    unfold idN
    rw [Option.isNone_iff_eq_none, List.findSome?_eq_none_iff]
    constructor
    · intro f p hp c hc
      have := f p hp
      unfold id2 at this
      rw [List.findSome?_eq_none_iff] at this
      have := this c hc
      split at this
      · cases this
      · rename_i q
        simpa using q
    · intro f p hp
      unfold id2
      rw [List.findSome?_eq_none_iff]
      intro c hc
      rw [f p hp c hc]
      rfl
  have a2 : idL s t h = true ↔ ∀ k, k < prodL s → at0 t k = at0 t (k - dg s h k * sp s h) := by
    unfold idL
    rw [decide_eq_true_eq, List.length_eq_zero_iff, List.filter_eq_nil_iff]
    constructor
    · intro f k hk
      have := f k (List.mem_range.mpr hk)
      simpa using this
    · intro f k hk
      rw [← f k (List.mem_range.mp hk)]
      simp
  apply Bool.eq_iff_iff.mpr
  rw [a1, a2]
  constructor
  · intro f k hk
    by_cases q : dg s h k = 0
    · rw [q, Nat.zero_mul, Nat.sub_zero]
    · obtain ⟨l1, l2⟩ := one_down W hh hk
      have hd : dg s h k < sz s h := dg_ok W.pos h hh
      have := f (k - dg s h k * sp s h) ((corner_h W hh).mpr ⟨by omega, l2⟩) (dg s h k) (mem_rngN.mpr ⟨by omega, hd⟩)
      unfold idD at this
      rw [Nat.sub_add_cancel l1] at this
      simpa using this
  · intro f p hp c hc
    obtain ⟨h1, h2⟩ := (corner_h W hh).mp hp
    obtain ⟨c1, c2⟩ := mem_rngN.mp hc
    obtain ⟨l1, l2⟩ := one_up W hh h1 h2 c2
    have := f _ l1
    rw [l2, Nat.add_sub_cancel] at this
    unfold idD
    rw [decide_eq_true this]
    rfl
def idleT (s t : List Nat) : List Nat := (List.range s.length).filter (idL s t)
theorem idle_houses_ok (W : Wd s t) : M_idle_houses [tupN s, tupN t] = .ok (tupN (idleT s t)) := by
  have h6 := W.six
  have e : M_idle_houses [tupN s, tupN t] = ((endOf (m_idle_houses [.dat (tupN s), .dat (tupN t), .un])).bind fun p => .ok p.1) := rfl
  rw [e]
  unfold m_idle_houses
  have hc := lLc_nat (j := 2) (a := aCons (eN fLen (aCons (eVar 0) aNil)) aNil) (t := tmTru (eCall M__is_idle (aCons (eVar 0) (aCons (eVar 1) (aCons (eVar 2) aNil))))) (m := eVar 2) (en := [.dat (tupN s), .dat (tupN t), .un]) (n := s.length) (idL s t) iD (by simp only [mSeq_ap, mAsg_ap, mIf_ap, mDrop_ap, mRet_ap, mNext_ap, mFor_ap, imRng_ap, imSeq_ap, tmB_ap, tmNot_ap, tmTru_ap, tmAnd_ap, tmOr_ap, tmYes_ap, e1_ap, e2_ap, eN_ap, lN_ap, eL_ap, lLst_ap, eCall_ap, aCons_ap, aNil_ap, eVar_ap, eC_ap, eAnd_ap, eOr_ap, eNot_ap, eIsi_ap, eIf_ap, List.set_cons_succ, List.set_cons_zero, List.getElem?_cons_zero, List.getElem?_cons_succ, bind_ok, calm_ok, gmName_ap, tru_bool, itemsOf_list, itemsOf_tuple, Bool.not_true, Bool.not_false, Bool.false_eq_true, if_false, if_true, endOf, fLen_tupN]) (by show 2 < 3; omega) rfl (by omega) (fun h hh => ⟨by
    have := is_idle_ok W hh
    rw [idle_two W hh] at this
    have this' : M__is_idle [tupN s, tupN t, .int (h : Int)] = .ok (.bool (idL s t h)) := this
    simp only [mSeq_ap, mAsg_ap, mIf_ap, mDrop_ap, mRet_ap, mNext_ap, mFor_ap, imRng_ap, imSeq_ap, tmB_ap, tmNot_ap, tmTru_ap, tmAnd_ap, tmOr_ap, tmYes_ap, e1_ap, e2_ap, eN_ap, lN_ap, eL_ap, lLst_ap, eCall_ap, aCons_ap, aNil_ap, eVar_ap, eC_ap, eAnd_ap, eOr_ap, eNot_ap, eIsi_ap, eIf_ap, List.set_cons_succ, List.set_cons_zero, List.getElem?_cons_zero, List.getElem?_cons_succ, bind_ok, calm_ok, gmName_ap, tru_bool, itemsOf_list, itemsOf_tuple, Bool.not_true, Bool.not_false, Bool.false_eq_true, if_false, if_true, endOf, this'], fun _ => rfl⟩)
  have hd : PyData.tuple (((List.range s.length).filter (idL s t)).map iD) = tupN (idleT s t) := rfl
  simp only [mSeq_ap, mAsg_ap, mIf_ap, mDrop_ap, mRet_ap, mNext_ap, mFor_ap, imRng_ap, imSeq_ap, tmB_ap, tmNot_ap, tmTru_ap, tmAnd_ap, tmOr_ap, tmYes_ap, e1_ap, e2_ap, eN_ap, lN_ap, eL_ap, lLst_ap, eCall_ap, aCons_ap, aNil_ap, eVar_ap, eC_ap, eAnd_ap, eOr_ap, eNot_ap, eIsi_ap, eIf_ap, List.set_cons_succ, List.set_cons_zero, List.getElem?_cons_zero, List.getElem?_cons_succ, bind_ok, calm_ok, gmName_ap, tru_bool, itemsOf_list, itemsOf_tuple, Bool.not_true, Bool.not_false, Bool.false_eq_true, if_false, if_true, endOf, is_sizes_ok W, is_table_ok W, want_true, hc, fTuple_list, hd]
def ilB : Sm := mIf (tmB (e2 fEq (eN fSum (aCons (eL (lLc (imRng rng1 (aCons (eN fLen (aCons (eVar 3) aNil)) aNil)) [6] (gmName 6) (tmB (e2 fNe (e2 fIx (eVar 1) (eVar 6)) (e2 fIx (eVar 1) (e2 fSub (eVar 6) (e2 fMul (e2 fIx (e2 fIx (eVar 3) (eVar 6)) (eVar 5)) (e2 fIx (eVar 2) (eVar 5))))))) (eC (.int 1)))) aNil)) (eC (.int 0)))) (mApp 4 (eVar 5)) mNext
theorem law_idle_ok (W : Wd s t) : M__law_idle [tupN s, tupN t] = .ok (tupN (idleT s t)) := by
  have h6 := W.six
  have hp := W.prod
  have e : M__law_idle [tupN s, tupN t] = ((endOf (m__law_idle [.dat (tupN s), .dat (tupN t), .un, .un, .un, .un, .un])).bind fun p => .ok p.1) := rfl
  rw [e]
  have em : m__law_idle = mSeq (mAsg (gmName 2) (eCall M__law_steps (aCons (eVar 0) aNil))) (mSeq (mAsg (gmName 3) (eCall M__law_settings (aCons (eVar 0) aNil))) (mSeq (mAsgO 4 (lLst aNil)) (mSeq (mFor (imRng rng1 (aCons (eN fLen (aCons (eVar 0) aNil)) aNil)) (gmName 5) ilB) (mRet (eN fTuple (aCons (eVar 4) aNil)))))) := rfl
  obtain ⟨en', hf, v5, rfl⟩ := for_rng (j := 5) (n := s.length) (b := ilB) (fun i en => ∃ v5, en = [.dat (tupN s), .dat (tupN t), .dat (.list ((spans s).map iD)), .dat (rowsD s), .own (.lst (((List.range i).filter (idL s t)).map iD)), v5, .un]) (en := [.dat (tupN s), .dat (tupN t), .dat (.list ((spans s).map iD)), .dat (rowsD s), .own (.lst []), .un, .un]) ⟨.un, rfl⟩ (by
    rintro h en hh ⟨v5, rfl⟩
    have er : ((List.range (h + 1)).filter (idL s t)).map iD = ((List.range h).filter (idL s t)).map iD ++ if idL s t h = true then [iD h] else [] := by
      rw [List.range_succ, List.filter_append, List.map_append]
      congr 1
      cases q : idL s t h <;> simp [q]
    refine ⟨.nx, [.dat (tupN s), .dat (tupN t), .dat (.list ((spans s).map iD)), .dat (rowsD s), .own (.lst (((List.range (h + 1)).filter (idL s t)).map iD)), .dat (iD h), .un], ?_, .inl rfl, _, rfl⟩
    show ilB [.dat (tupN s), .dat (tupN t), .dat (.list ((spans s).map iD)), .dat (rowsD s), .own (.lst (((List.range h).filter (idL s t)).map iD)), .dat (iD h), .un] = _
    have b1 := sp_le W.pos hh
    have b2 := sz_le W.pos hh
    have hc := lLc_nat (j := 6) (a := aCons (eN fLen (aCons (eVar 3) aNil)) aNil) (t := tmB (e2 fNe (e2 fIx (eVar 1) (eVar 6)) (e2 fIx (eVar 1) (e2 fSub (eVar 6) (e2 fMul (e2 fIx (e2 fIx (eVar 3) (eVar 6)) (eVar 5)) (e2 fIx (eVar 2) (eVar 5))))))) (m := eC (.int 1)) (en := [.dat (tupN s), .dat (tupN t), .dat (.list ((spans s).map iD)), .dat (rowsD s), .own (.lst (((List.range h).filter (idL s t)).map iD)), .dat (iD h), .un]) (n := prodL s) (fun k => !decide (at0 t k = at0 t (k - dg s h k * sp s h))) (fun _ => iD 1) (by simp only [mSeq_ap, mAsg_ap, mIf_ap, mDrop_ap, mRet_ap, mNext_ap, mFor_ap, imRng_ap, imSeq_ap, tmB_ap, tmNot_ap, tmTru_ap, tmAnd_ap, tmOr_ap, tmYes_ap, e1_ap, e2_ap, eN_ap, lN_ap, eL_ap, lLst_ap, eCall_ap, aCons_ap, aNil_ap, eVar_ap, eC_ap, eAnd_ap, eOr_ap, eNot_ap, eIsi_ap, eIf_ap, List.set_cons_succ, List.set_cons_zero, List.getElem?_cons_zero, List.getElem?_cons_succ, bind_ok, calm_ok, gmName_ap, tru_bool, itemsOf_list, itemsOf_tuple, Bool.not_true, Bool.not_false, Bool.false_eq_true, if_false, if_true, endOf, fLen_rows]) (by show 6 < 7; omega) rfl (by omega) (fun k hk => ⟨by
      have e8 : (PyData.int (k : Int)) = iD k := rfl
      have hd : dg s h k < sz s h := dg_ok W.pos h hh
      obtain ⟨l1, _⟩ := one_down W hh hk
      simp only [mSeq_ap, mAsg_ap, mIf_ap, mDrop_ap, mRet_ap, mNext_ap, mFor_ap, imRng_ap, imSeq_ap, tmB_ap, tmNot_ap, tmTru_ap, tmAnd_ap, tmOr_ap, tmYes_ap, e1_ap, e2_ap, eN_ap, lN_ap, eL_ap, lLst_ap, eCall_ap, aCons_ap, aNil_ap, eVar_ap, eC_ap, eAnd_ap, eOr_ap, eNot_ap, eIsi_ap, eIf_ap, List.set_cons_succ, List.set_cons_zero, List.getElem?_cons_zero, List.getElem?_cons_succ, bind_ok, calm_ok, gmName_ap, tru_bool, itemsOf_list, itemsOf_tuple, Bool.not_true, Bool.not_false, Bool.false_eq_true, if_false, if_true, endOf, e8, tab_ix W hk, row_ix hk, dig_ix hh, sp_ix W hh, fMul_N (by omega : dg s h k < 2 ^ 62) (by omega : sp s h < 2 ^ 62), fSub_N l1, tab_ix W (by omega : k - dg s h k * sp s h < prodL s), fNe_N], fun _ => rfl⟩)
    have hs : fSum [.list (((List.range (prodL s)).filter fun k => !decide (at0 t k = at0 t (k - dg s h k * sp s h))).map fun _ => iD 1)] = .ok (iD ((List.range (prodL s)).filter fun k => !decide (at0 t k = at0 t (k - dg s h k * sp s h))).length) := by
      have : ∀ l : List Nat, l.map (fun _ => iD 1) = (l.map fun _ => 1).map iD := fun l => by rw [List.map_map]; rfl
      rw [this, fSum_N]
      congr 2
      have : ∀ l : List Nat, (l.map fun _ => 1).sum = l.length := fun l => by
        induction l with
        | nil => rfl
        | cons a l ih => rw [List.map_cons, List.sum_cons, ih, List.length_cons]; omega
      rw [this]
    have e0 : (PyData.int 0) = iD 0 := rfl
    have hg : tmB (e2 fEq (eN fSum (aCons (eL (lLc (imRng rng1 (aCons (eN fLen (aCons (eVar 3) aNil)) aNil)) [6] (gmName 6) (tmB (e2 fNe (e2 fIx (eVar 1) (eVar 6)) (e2 fIx (eVar 1) (e2 fSub (eVar 6) (e2 fMul (e2 fIx (e2 fIx (eVar 3) (eVar 6)) (eVar 5)) (e2 fIx (eVar 2) (eVar 5))))))) (eC (.int 1)))) aNil)) (eC (.int 0))) [.dat (tupN s), .dat (tupN t), .dat (.list ((spans s).map iD)), .dat (rowsD s), .own (.lst (((List.range h).filter (idL s t)).map iD)), .dat (iD h), .un] = .ok (idL s t h, [.dat (tupN s), .dat (tupN t), .dat (.list ((spans s).map iD)), .dat (rowsD s), .own (.lst (((List.range h).filter (idL s t)).map iD)), .dat (iD h), .un]) := by
      rw [tmB_ap, e2_ap, eN_ap, aCons_ap, eL_ap, hc, bind_ok, bind_ok, aNil_ap, bind_ok, bind_ok]
      dsimp only
      rw [hs, calm_ok, bind_ok, bind_ok, eC_ap, bind_ok]
      dsimp only
      rw [e0, fEq_N, calm_ok, bind_ok, bind_ok]
      rfl
    unfold ilB
    rw [mIf_ap, hg, bind_ok, er]
    dsimp only
    cases q : idL s t h with
    | false => rw [if_neg Bool.false_ne_true, if_neg Bool.false_ne_true, List.append_nil]; rfl
    | true =>
      rw [if_pos rfl, if_pos rfl, mApp_ok (ds := ((List.range h).filter (idL s t)).map iD) (d := iD h) rfl rfl (by
        rw [List.length_map]
        have := List.length_filter_le (idL s t) (List.range h)
        rw [List.length_range] at this
        show _ < 100000
        omega)]
      rfl)
  rw [em, mSeq_nx (en1 := [.dat (tupN s), .dat (tupN t), .dat (.list ((spans s).map iD)), .un, .un, .un, .un]) (by simp only [mSeq_ap, mAsg_ap, mIf_ap, mDrop_ap, mRet_ap, mNext_ap, mFor_ap, imRng_ap, imSeq_ap, tmB_ap, tmNot_ap, tmTru_ap, tmAnd_ap, tmOr_ap, tmYes_ap, e1_ap, e2_ap, eN_ap, lN_ap, eL_ap, lLst_ap, eCall_ap, aCons_ap, aNil_ap, eVar_ap, eC_ap, eAnd_ap, eOr_ap, eNot_ap, eIsi_ap, eIf_ap, List.set_cons_succ, List.set_cons_zero, List.getElem?_cons_zero, List.getElem?_cons_succ, bind_ok, calm_ok, gmName_ap, tru_bool, itemsOf_list, itemsOf_tuple, Bool.not_true, Bool.not_false, Bool.false_eq_true, if_false, if_true, endOf, steps_ok W])]
  rw [mSeq_nx (en1 := [.dat (tupN s), .dat (tupN t), .dat (.list ((spans s).map iD)), .dat (rowsD s), .un, .un, .un]) (by simp only [mSeq_ap, mAsg_ap, mIf_ap, mDrop_ap, mRet_ap, mNext_ap, mFor_ap, imRng_ap, imSeq_ap, tmB_ap, tmNot_ap, tmTru_ap, tmAnd_ap, tmOr_ap, tmYes_ap, e1_ap, e2_ap, eN_ap, lN_ap, eL_ap, lLst_ap, eCall_ap, aCons_ap, aNil_ap, eVar_ap, eC_ap, eAnd_ap, eOr_ap, eNot_ap, eIsi_ap, eIf_ap, List.set_cons_succ, List.set_cons_zero, List.getElem?_cons_zero, List.getElem?_cons_succ, bind_ok, calm_ok, gmName_ap, tru_bool, itemsOf_list, itemsOf_tuple, Bool.not_true, Bool.not_false, Bool.false_eq_true, if_false, if_true, endOf, settings_ok W])]
  rw [mSeq_nx (en1 := [.dat (tupN s), .dat (tupN t), .dat (.list ((spans s).map iD)), .dat (rowsD s), .own (.lst []), .un, .un]) rfl]
  rw [mSeq_nx (en1 := [.dat (tupN s), .dat (tupN t), .dat (.list ((spans s).map iD)), .dat (rowsD s), .own (.lst ((idleT s t).map iD)), v5, .un]) (by
    simp only [mSeq_ap, mAsg_ap, mIf_ap, mDrop_ap, mRet_ap, mNext_ap, mFor_ap, imRng_ap, imSeq_ap, tmB_ap, tmNot_ap, tmTru_ap, tmAnd_ap, tmOr_ap, tmYes_ap, e1_ap, e2_ap, eN_ap, lN_ap, eL_ap, lLst_ap, eCall_ap, aCons_ap, aNil_ap, eVar_ap, eC_ap, eAnd_ap, eOr_ap, eNot_ap, eIsi_ap, eIf_ap, List.set_cons_succ, List.set_cons_zero, List.getElem?_cons_zero, List.getElem?_cons_succ, bind_ok, calm_ok, gmName_ap, tru_bool, itemsOf_list, itemsOf_tuple, Bool.not_true, Bool.not_false, Bool.false_eq_true, if_false, if_true, endOf, fLen_tupN, rng1_nat (by omega : s.length ≤ 100000), hf]
    rfl)]
  rfl
end
end K07
end

section
set_option Elab.async false
set_option linter.all false
set_option maxRecDepth 100000
set_option maxHeartbeats 4000000
/-! K07J: fours: is_four, four_settings, is_odd; _law_four_right. -/
namespace K07
open PySem PySem.Spec PyProof.Rows L2 Mir Dg
section
variable {s t : List Nat}
/-! ### settings -/
def zpD (p : Nat × Nat) : D := .tuple [iD p.1, iD p.2]
theorem zip_N : ∀ xs ys : List Nat, zipD (xs.map iD) (ys.map iD) = (xs.zip ys).map zpD
  | [], ys => by unfold zipD; simp
  | x :: xs, [] => by unfold zipD; simp
  | x :: xs, y :: ys => by
    rw [List.map_cons, List.map_cons, zipD, zip_N xs ys, List.zip_cons_cons, List.map_cons]
    rfl
def sfM : Em := eAnd (eCall M_number_fits (aCons (eVar 2) aNil)) (e2 fLt (eVar 2) (eVar 3))
theorem sf_go {S T : D} : ∀ ps : List (Nat × Nat), (∀ p ∈ ps, p.1 < p.2) → lcGo [2, 3] (gmTup [2, 3]) tmYes sfM (ps.map zpD) [.dat S, .dat T, .un, .un] = .ok ((ps.map fun _ => true).map PyData.bool, [.dat S, .dat T, .un, .un])
  | [], _ => rfl
  | p :: ps, h => by
    have h1 := h p List.mem_cons_self
    have ih := sf_go (S := S) (T := T) ps fun q hq => h q (List.mem_cons_of_mem _ hq)
    rw [List.map_cons]
    unfold lcGo
    have eg : gmTup [2, 3] (zpD p) [.dat S, .dat T, .un, .un] = .ok [.dat S, .dat T, .dat (iD p.1), .dat (iD p.2)] := rfl
    have em : sfM [.dat S, .dat T, .dat (iD p.1), .dat (iD p.2)] = .ok (.bool true, [.dat S, .dat T, .dat (iD p.1), .dat (iD p.2)]) := by
      unfold sfM
      simp only [mSeq_ap, mAsg_ap, mIf_ap, mDrop_ap, mRet_ap, mNext_ap, mFor_ap, imRng_ap, imSeq_ap, tmB_ap, tmNot_ap, tmTru_ap, tmAnd_ap, tmOr_ap, tmYes_ap, e1_ap, e2_ap, eN_ap, lN_ap, eL_ap, lLst_ap, eCall_ap, aCons_ap, aNil_ap, eVar_ap, eC_ap, eAnd_ap, eOr_ap, eNot_ap, eIsi_ap, eIf_ap, List.set_cons_succ, List.set_cons_zero, List.getElem?_cons_zero, List.getElem?_cons_succ, bind_ok, calm_ok, gmName_ap, tru_bool, itemsOf_list, itemsOf_tuple, Bool.not_true, Bool.not_false, Bool.false_eq_true, if_false, if_true, endOf, number_nat, fLt_N, decide_eq_true h1]
    rw [eg, calm_ok, bind_ok, tmYes_ap, calm_ok, bind_ok, if_pos rfl, em, calm_ok, bind_ok]
    have ew : wipeE [.dat S, .dat T, .dat (iD p.1), .dat (iD p.2)] [2, 3] = [.dat S, .dat T, .un, .un] := rfl
    dsimp only
    rw [ew, ih]
    rfl
theorem setting_fits_ok (W : Wd s t) {x : List Nat} (hx : x.length = s.length) (ok : Ok s (at0 x)) : M_setting_fits [tupN s, tupN x] = .ok (.bool true) := by
  have h6 := W.six
  have e : M_setting_fits [tupN s, tupN x] = ((endOf (m_setting_fits [.dat (tupN s), .dat (tupN x), .un, .un])).bind fun p => .ok p.1) := rfl
  rw [e]
  have ht : isi .tup (tupN x) = true := rfl
  have hall : ∀ p ∈ x.zip s, p.1 < p.2 := fun p hp => by
    obtain ⟨i, hi, e⟩ := List.mem_iff_getElem.mp hp
    rw [List.length_zip] at hi
    rw [← e, List.getElem_zip]
    have := ok i (by omega)
    rw [at0_get (by omega)] at this
    show x[i] < s[i]
    rw [get_sz (by omega : i < s.length)]
    exact this
  have hc : lLc (imRng zipM (aCons (eVar 1) (aCons (eVar 0) aNil))) [2, 3] (gmTup [2, 3]) tmYes sfM [.dat (tupN s), .dat (tupN x), .un, .un] = .ok (((x.zip s).map fun _ => true).map PyData.bool, [.dat (tupN s), .dat (tupN x), .un, .un]) := by
    unfold lLc
    have hI : imRng zipM (aCons (eVar 1) (aCons (eVar 0) aNil)) [.dat (tupN s), .dat (tupN x), .un, .un] = .ok ((x.zip s).map zpD, [.dat (tupN s), .dat (tupN x), .un, .un]) := by
      rw [← zip_N]
      rfl
    rw [hI, bind_ok, if_pos ⟨rfl, by rw [List.length_map, List.length_zip]; show _ ≤ 100000; omega⟩]
    have ew : wipeE [.dat (tupN s), .dat (tupN x), .un, .un] [2, 3] = [.dat (tupN s), .dat (tupN x), .un, .un] := rfl
    dsimp only
    rw [ew, sf_go _ hall]
    rfl
  have em : m_setting_fits = mSeq (mIf (tmOr (tmNot (tmTru (eIsi .tup (eVar 1)))) (tmB (e2 fNe (eN fLen (aCons (eVar 1) aNil)) (eN fLen (aCons (eVar 0) aNil))))) (mRet (eC (.bool false))) mNext) (mRet (eN fAll (aCons (eL (lLc (imRng zipM (aCons (eVar 1) (aCons (eVar 0) aNil))) [2, 3] (gmTup [2, 3]) tmYes sfM)) aNil))) := rfl
  have ha : ((x.zip s).map fun _ => true).all id = true := by simp
  rw [em]
  simp only [mSeq_ap, mAsg_ap, mIf_ap, mDrop_ap, mRet_ap, mNext_ap, mFor_ap, imRng_ap, imSeq_ap, tmB_ap, tmNot_ap, tmTru_ap, tmAnd_ap, tmOr_ap, tmYes_ap, e1_ap, e2_ap, eN_ap, lN_ap, eL_ap, lLst_ap, eCall_ap, aCons_ap, aNil_ap, eVar_ap, eC_ap, eAnd_ap, eOr_ap, eNot_ap, eIsi_ap, eIf_ap, List.set_cons_succ, List.set_cons_zero, List.getElem?_cons_zero, List.getElem?_cons_succ, bind_ok, calm_ok, gmName_ap, tru_bool, itemsOf_list, itemsOf_tuple, Bool.not_true, Bool.not_false, Bool.false_eq_true, if_false, if_true, endOf, ht, fLen_tupN, hx, fNe_N, decide_true, hc, fAll, boolsOf_map, ha]
theorem is_setting_ok (W : Wd s t) {x : List Nat} (hx : x.length = s.length) (ok : Ok s (at0 x)) : M_is_setting [tupN s, tupN x] = .ok (.bool true) := by
  have e : M_is_setting [tupN s, tupN x] = ((endOf (m_is_setting [.dat (tupN s), .dat (tupN x)])).bind fun p => .ok p.1) := rfl
  rw [e]
  unfold m_is_setting
  simp only [mSeq_ap, mAsg_ap, mIf_ap, mDrop_ap, mRet_ap, mNext_ap, mFor_ap, imRng_ap, imSeq_ap, tmB_ap, tmNot_ap, tmTru_ap, tmAnd_ap, tmOr_ap, tmYes_ap, e1_ap, e2_ap, eN_ap, lN_ap, eL_ap, lLst_ap, eCall_ap, aCons_ap, aNil_ap, eVar_ap, eC_ap, eAnd_ap, eOr_ap, eNot_ap, eIsi_ap, eIf_ap, List.set_cons_succ, List.set_cons_zero, List.getElem?_cons_zero, List.getElem?_cons_succ, bind_ok, calm_ok, gmName_ap, tru_bool, itemsOf_list, itemsOf_tuple, Bool.not_true, Bool.not_false, Bool.false_eq_true, if_false, if_true, endOf, sizes_fit_ok W.pos W.ne (by have := W.six; omega), want_true, setting_fits_ok W hx ok]
theorem is_change_ok (W : Wd s t) {x : List Nat} (hx : x.length = s.length) {h c : Nat} (hh : h < s.length) (hc : c < sz s h) (hn : c ≠ at0 x h) : M__is_change [tupN s, tupN x, iD h, iD c] = .ok (.bool true) := by
  have e : M__is_change [tupN s, tupN x, iD h, iD c] = ((endOf (m__is_change [.dat (tupN s), .dat (tupN x), .dat (iD h), .dat (iD c)])).bind fun p => .ok p.1) := rfl
  rw [e]
  unfold m__is_change
  have i2 := fIx_tupN x h (by omega)
  rw [← at0_get] at i2
  have hg : decide (s.length ≤ h) = false := decide_eq_false (by omega)
  simp only [mSeq_ap, mAsg_ap, mIf_ap, mDrop_ap, mRet_ap, mNext_ap, mFor_ap, imRng_ap, imSeq_ap, tmB_ap, tmNot_ap, tmTru_ap, tmAnd_ap, tmOr_ap, tmYes_ap, e1_ap, e2_ap, eN_ap, lN_ap, eL_ap, lLst_ap, eCall_ap, aCons_ap, aNil_ap, eVar_ap, eC_ap, eAnd_ap, eOr_ap, eNot_ap, eIsi_ap, eIf_ap, List.set_cons_succ, List.set_cons_zero, List.getElem?_cons_zero, List.getElem?_cons_succ, bind_ok, calm_ok, gmName_ap, tru_bool, itemsOf_list, itemsOf_tuple, Bool.not_true, Bool.not_false, Bool.false_eq_true, if_false, if_true, endOf, is_number_nat, fLen_tupN, fGe_N, hg, sz_ix hh, fLt_N, decide_eq_true hc, i2, fNe_N, decide_eq_false hn]
/-- what is changed at one house -/
theorem at0_set {x : List Nat} {h c k : Nat} (hh : h < x.length) : at0 (x.set h c) k = upd (at0 x) h c k := by
  unfold at0 Dg.upd
  show (x.set h c).getD k 0 = if k = h then c else x.getD k 0
  rw [List.getD_eq_getElem?_getD, List.getD_eq_getElem?_getD, List.getElem?_set]
  by_cases q : h = k
  · subst q
    rw [if_pos rfl, if_pos hh, if_pos rfl]
    rfl
  · rw [if_neg q, if_neg (Ne.symm q)]
theorem at0_set' {x : List Nat} {h c : Nat} (hh : h < x.length) : at0 (x.set h c) = upd (at0 x) h c := funext fun k => at0_set hh
theorem cut_lo (ds : List D) (h : Nat) (hh : h ≤ ds.length) : cutD ds none (some (h : Int)) = ds.take h := by
  unfold Mir.cutD
  rw [HT.sIx_none, HT.sIx_nat, Nat.min_eq_left hh, Nat.sub_zero, List.drop_zero]
theorem cut_hi (ds : List D) (h : Nat) (hh : h ≤ ds.length) : cutD ds (some (h : Int)) none = ds.drop h := by
  unfold Mir.cutD
  rw [HT.sIx_none, HT.sIx_nat, Nat.min_eq_left hh, List.take_of_length_le (by rw [List.length_drop]; omega)]
theorem changed_ok {x : List Nat} {h c : Nat} (hh : h < x.length) (hl : x.length ≤ 1000) : M__changed [tupN x, iD h, iD c] = .ok (tupN (x.set h c)) := by
  have e : M__changed [tupN x, iD h, iD c] = ((endOf (m__changed [.dat (tupN x), .dat (iD h), .dat (iD c)])).bind fun p => .ok p.1) := rfl
  rw [e]
  have h1 : eSl (eVar 0) oNone (oSome (eVar 1)) [.dat (tupN x), .dat (iD h), .dat (iD c)] = .ok (tupN (x.take h), [.dat (tupN x), .dat (iD h), .dat (iD c)]) := by
    have : eSl (eVar 0) oNone (oSome (eVar 1)) [.dat (tupN x), .dat (iD h), .dat (iD c)] = .ok (.tuple (cutD (x.map iD) none (some (h : Int))), [.dat (tupN x), .dat (iD h), .dat (iD c)]) := rfl
    rw [this, cut_lo _ _ (by rw [List.length_map]; omega), ← List.map_take]
    rfl
  have h2 : eSl (eVar 0) (oSome (e2 fAdd (eVar 1) (eC (.int 1)))) oNone [.dat (tupN x), .dat (iD h), .dat (iD c)] = .ok (tupN (x.drop (h + 1)), [.dat (tupN x), .dat (iD h), .dat (iD c)]) := by
    have : eSl (eVar 0) (oSome (e2 fAdd (eVar 1) (eC (.int 1)))) oNone [.dat (tupN x), .dat (iD h), .dat (iD c)] = .ok (.tuple (cutD (x.map iD) (some ((h + 1 : Nat) : Int)) none), [.dat (tupN x), .dat (iD h), .dat (iD c)]) := rfl
    rw [this, cut_hi _ _ (by rw [List.length_map]; omega), ← List.map_drop]
    rfl
  have h3 : eTup (aCons (eVar 2) aNil) [.dat (tupN x), .dat (iD h), .dat (iD c)] = .ok (.tuple [iD c], [.dat (tupN x), .dat (iD h), .dat (iD c)]) := rfl
  have h4 : fAdd (tupN (x.take h)) (.tuple [iD c]) = .ok (tupN (x.take h ++ [c])) := fAdd_tup _ _ (by rw [List.length_take]; omega)
  have h5 : fAdd (tupN (x.take h ++ [c])) (tupN (x.drop (h + 1))) = .ok (tupN (x.set h c)) := by
    have : fAdd (tupN (x.take h ++ [c])) (tupN (x.drop (h + 1))) = (if ((x.take h ++ [c]).map iD).length + ((x.drop (h + 1)).map iD).length ≤ big then Rs.ok (PyData.tuple ((x.take h ++ [c]).map iD ++ (x.drop (h + 1)).map iD)) else .stk) := rfl
    rw [this, if_pos (by
      rw [List.length_map, List.length_map, List.length_append, List.length_take, List.length_drop]
      show _ + 1 + _ ≤ 100000
      omega), ← List.map_append]
    have : x.take h ++ [c] ++ x.drop (h + 1) = x.set h c := by
      rw [List.set_eq_take_append_cons_drop, if_pos hh, List.append_assoc]
      rfl
    rw [this]
    rfl
  unfold m__changed
  simp only [mRet_ap, e2_ap, h1, h2, h3, h4, h5, bind_ok, calm_ok, endOf]
/-! ### a four that stands at noughts -/
structure Four (s t : List Nat) (i j p a b : Nat) : Prop where
  hi : i < s.length
  hj : j < s.length
  ne : i ≠ j
  A : Away s i j p
  a1 : 1 ≤ a
  a2 : a < sz s i
  b1 : 1 ≤ b
  b2 : b < sz s j
  odd : oddP s t i j p a b = true
def told (s : List Nat) (i j p a b : Nat) : D := .tuple [tupN (digs s p), iD i, iD a, iD j, iD b]
variable {i j p a b : Nat}
theorem dig_i (X : Four s t i j p a b) : at0 (digs s p) i = 0 := by rw [at0_digs X.hi]; exact X.A.zi
theorem dig_j (X : Four s t i j p a b) : at0 (digs s p) j = 0 := by rw [at0_digs X.hj]; exact X.A.zj
theorem is_four_ok (W : Wd s t) (X : Four s t i j p a b) : M_is_four [tupN s, told s i j p a b] = .ok (.bool true) := by
  have e : M_is_four [tupN s, told s i j p a b] = ((endOf (m_is_four [.dat (tupN s), .dat (told s i j p a b), .un, .un, .un, .un, .un])).bind fun p => .ok p.1) := rfl
  rw [e]
  unfold m_is_four
  have ht : isi .tup (told s i j p a b) = true := rfl
  have hl : fLen [told s i j p a b] = .ok (iD 5) := rfl
  have h0 : fIx (told s i j p a b) (.int 0) = .ok (tupN (digs s p)) := rfl
  have e5 : (PyData.int 5) = iD 5 := rfl
  have hg : gmTup [2, 3, 4, 5, 6] (told s i j p a b) [.dat (tupN s), .dat (told s i j p a b), .un, .un, .un, .un, .un] = .ok [.dat (tupN s), .dat (told s i j p a b), .dat (tupN (digs s p)), .dat (iD i), .dat (iD a), .dat (iD j), .dat (iD b)] := rfl
  have c1 := is_change_ok W (digs_len s p) X.hi X.a2 (by rw [dig_i X]; have := X.a1; omega)
  have c2 := is_change_ok W (digs_len s p) X.hj X.b2 (by rw [dig_j X]; have := X.b1; omega)
  simp only [mSeq_ap, mAsg_ap, mIf_ap, mDrop_ap, mRet_ap, mNext_ap, mFor_ap, imRng_ap, imSeq_ap, tmB_ap, tmNot_ap, tmTru_ap, tmAnd_ap, tmOr_ap, tmYes_ap, e1_ap, e2_ap, eN_ap, lN_ap, eL_ap, lLst_ap, eCall_ap, aCons_ap, aNil_ap, eVar_ap, eC_ap, eAnd_ap, eOr_ap, eNot_ap, eIsi_ap, eIf_ap, List.set_cons_succ, List.set_cons_zero, List.getElem?_cons_zero, List.getElem?_cons_succ, bind_ok, calm_ok, gmName_ap, tru_bool, itemsOf_list, itemsOf_tuple, Bool.not_true, Bool.not_false, Bool.false_eq_true, if_false, if_true, endOf, is_sizes_ok W, want_true, ht, hl, e5, fNe_N, decide_true, h0, is_setting_ok W (digs_len s p) (ok_digs W p), hg, c1, c2, decide_eq_false X.ne]
theorem four_settings_ok (W : Wd s t) (X : Four s t i j p a b) : M_four_settings [tupN s, told s i j p a b] = .ok (.tuple [tupN (digs s p), tupN ((digs s p).set i a), tupN ((digs s p).set j b), tupN (((digs s p).set i a).set j b)]) := by
  have h6 := W.six
  have e : M_four_settings [tupN s, told s i j p a b] = ((endOf (m_four_settings [.dat (tupN s), .dat (told s i j p a b), .un, .un, .un, .un, .un, .un])).bind fun p => .ok p.1) := rfl
  rw [e]
  unfold m_four_settings
  have hg : gmTup [3, 4, 5, 6, 7] (told s i j p a b) [.dat (tupN s), .dat (told s i j p a b), .un, .un, .un, .un, .un, .un] = .ok [.dat (tupN s), .dat (told s i j p a b), .un, .dat (tupN (digs s p)), .dat (iD i), .dat (iD a), .dat (iD j), .dat (iD b)] := rfl
  have hl := digs_len s p
  have hz : ([tupN (digs s p), tupN ((digs s p).set i a), tupN ((digs s p).set j b), tupN (((digs s p).set i a).set j b)] : List D).length ≤ big := by show 4 ≤ 100000; omega
  have c1 := changed_ok (x := digs s p) (h := i) (c := a) (by rw [hl]; exact X.hi) (by omega)
  have c2 := changed_ok (x := digs s p) (h := j) (c := b) (by rw [hl]; exact X.hj) (by omega)
  have c3 := changed_ok (x := (digs s p).set i a) (h := j) (c := b) (by rw [List.length_set, hl]; exact X.hj) (by rw [List.length_set]; omega)
  simp only [mSeq_ap, mAsg_ap, mIf_ap, mDrop_ap, mRet_ap, mNext_ap, mFor_ap, imRng_ap, imSeq_ap, tmB_ap, tmNot_ap, tmTru_ap, tmAnd_ap, tmOr_ap, tmYes_ap, e1_ap, e2_ap, eN_ap, lN_ap, eL_ap, lLst_ap, eCall_ap, aCons_ap, aNil_ap, eVar_ap, eC_ap, eAnd_ap, eOr_ap, eNot_ap, eIsi_ap, eIf_ap, List.set_cons_succ, List.set_cons_zero, List.getElem?_cons_zero, List.getElem?_cons_succ, bind_ok, calm_ok, gmName_ap, tru_bool, itemsOf_list, itemsOf_tuple, Bool.not_true, Bool.not_false, Bool.false_eq_true, if_false, if_true, endOf, is_sizes_ok W, want_true, is_four_ok W X, hg, c1, c2, c3, eTup_ap, if_pos hz]
theorem odd_four_sum (W : Wd s t) (X : Four s t i j p a b) : (at0 t p + at0 t (p + a * sp s i) + at0 t (p + b * sp s j) + at0 t (p + a * sp s i + b * sp s j)) % 2 = 1 := of_decide_eq_true X.odd
theorem is_odd_ok (W : Wd s t) (X : Four s t i j p a b) : M_is_odd [tupN s, tupN t, told s i j p a b] = .ok (.bool true) := by
  have e : M_is_odd [tupN s, tupN t, told s i j p a b] = ((endOf (m_is_odd [.dat (tupN s), .dat (tupN t), .dat (told s i j p a b), .un, .un])).bind fun p => .ok p.1) := rfl
  rw [e]
  have hl := digs_len s p
  have ok0 := ok_digs W p
  have hii : i < (digs s p).length := by rw [hl]; exact X.hi
  have hjj : j < (digs s p).length := by rw [hl]; exact X.hj
  have p0 : pl s (at0 (digs s p)) = p := by
    have : pl s (at0 (digs s p)) = pl s fun h => dg s h p := pl_congr fun h hh => at0_digs hh
    rw [this, pl_dg W.pos X.A.lt]
  have di := dig_i X
  have dj := dig_j X
  have p1 : pl s (upd (at0 (digs s p)) i a) = p + a * sp s i := by rw [pl_up X.hi (by rw [di]; omega), p0, di, Nat.sub_zero]
  have p2 : pl s (upd (at0 (digs s p)) j b) = p + b * sp s j := by rw [pl_up X.hj (by rw [dj]; omega), p0, dj, Nat.sub_zero]
  have p3 : pl s (upd (upd (at0 (digs s p)) i a) j b) = p + a * sp s i + b * sp s j := by
    have : upd (at0 (digs s p)) i a j = 0 := by rw [Dg.upd_ne (Ne.symm X.ne)]; exact dj
    rw [pl_up X.hj (by rw [this]; omega), p1, this, Nat.sub_zero]
  obtain ⟨l1, l2, l3⟩ := away_lt W X.hi X.hj X.ne X.A X.a2 X.b2
  have b0 := place_by_ok W hl ok0
  rw [p0] at b0
  have b1 := place_by_ok W (x := (digs s p).set i a) (by rw [List.length_set, hl]) (by rw [at0_set' hii]; exact ok0.upd X.a2)
  rw [at0_set' hii, p1] at b1
  have b2 := place_by_ok W (x := (digs s p).set j b) (by rw [List.length_set, hl]) (by rw [at0_set' hjj]; exact ok0.upd X.b2)
  rw [at0_set' hjj, p2] at b2
  have b3 := place_by_ok W (x := ((digs s p).set i a).set j b) (by rw [List.length_set, List.length_set, hl]) (by rw [at0_set' (by rw [List.length_set]; exact hjj), at0_set' hii]; exact (ok0.upd X.a2).upd X.b2)
  rw [at0_set' (by rw [List.length_set]; exact hjj), at0_set' hii, p3] at b3
  have t0 := bit_at W (b := p)
  have t1 := bit_at W (b := p + a * sp s i)
  have t2 := bit_at W (b := p + b * sp s j)
  have t3 := bit_at W (b := p + a * sp s i + b * sp s j)
  have hs := odd_four_sum W X
  let bd : Sm := mAsg (gmName 3) (e2 fXor (eVar 3) (e2 fIx (eVar 1) (eCall M_place_by (aCons (eVar 0) (aCons (eVar 4) aNil)))))
  have st : ∀ (q x : Nat) (y : List Nat) (v : SV), q < 2 → x < prodL s → M_place_by [tupN s, tupN y] = .ok (iD x) → bd [.dat (tupN s), .dat (tupN t), .dat (told s i j p a b), .dat (iD q), .dat (tupN y)] = .ok (.nx, [.dat (tupN s), .dat (tupN t), .dat (told s i j p a b), .dat (iD ((q + at0 t x) % 2)), .dat (tupN y)]) := fun q x y v hq hx hb => by
    have := bit_at W (b := x)
    simp only [bd, mSeq_ap, mAsg_ap, mIf_ap, mDrop_ap, mRet_ap, mNext_ap, mFor_ap, imRng_ap, imSeq_ap, tmB_ap, tmNot_ap, tmTru_ap, tmAnd_ap, tmOr_ap, tmYes_ap, e1_ap, e2_ap, eN_ap, lN_ap, eL_ap, lLst_ap, eCall_ap, aCons_ap, aNil_ap, eVar_ap, eC_ap, eAnd_ap, eOr_ap, eNot_ap, eIsi_ap, eIf_ap, List.set_cons_succ, List.set_cons_zero, List.getElem?_cons_zero, List.getElem?_cons_succ, bind_ok, calm_ok, gmName_ap, tru_bool, itemsOf_list, itemsOf_tuple, Bool.not_true, Bool.not_false, Bool.false_eq_true, if_false, if_true, endOf, hb, tab_ix W hx, fXor_bit hq this]
  have hf : forGo (gmName 4) bd [tupN (digs s p), tupN ((digs s p).set i a), tupN ((digs s p).set j b), tupN (((digs s p).set i a).set j b)] [.dat (tupN s), .dat (tupN t), .dat (told s i j p a b), .dat (iD 0), .un] = .ok (.nx, [.dat (tupN s), .dat (tupN t), .dat (told s i j p a b), .dat (iD 1), .dat (tupN (((digs s p).set i a).set j b))]) := by
    have m2 : ∀ n : Nat, n % 2 < 2 := fun n => Nat.mod_lt _ (by omega)
    unfold forGo
    rw [gmName_ap, calm_ok, bind_ok]
    show ((bd [.dat (tupN s), .dat (tupN t), .dat (told s i j p a b), .dat (iD 0), .dat (tupN (digs s p))]).bind _) = _
    rw [st 0 p _ .un (by omega) X.A.lt b0, bind_ok]
    dsimp only
    unfold forGo
    rw [gmName_ap, calm_ok, bind_ok]
    show ((bd [.dat (tupN s), .dat (tupN t), .dat (told s i j p a b), .dat (iD ((0 + at0 t p) % 2)), .dat (tupN ((digs s p).set i a))]).bind _) = _
    rw [st _ _ _ .un (m2 _) l1 b1, bind_ok]
    dsimp only
    unfold forGo
    rw [gmName_ap, calm_ok, bind_ok]
    show ((bd [.dat (tupN s), .dat (tupN t), .dat (told s i j p a b), .dat (iD (((0 + at0 t p) % 2 + at0 t (p + a * sp s i)) % 2)), .dat (tupN ((digs s p).set j b))]).bind _) = _
    rw [st _ _ _ .un (m2 _) l2 b2, bind_ok]
    dsimp only
    unfold forGo
    rw [gmName_ap, calm_ok, bind_ok]
    show ((bd [.dat (tupN s), .dat (tupN t), .dat (told s i j p a b), .dat (iD ((((0 + at0 t p) % 2 + at0 t (p + a * sp s i)) % 2 + at0 t (p + b * sp s j)) % 2)), .dat (tupN (((digs s p).set i a).set j b))]).bind _) = _
    rw [st _ _ _ .un (m2 _) l3 b3, bind_ok]
    dsimp only
    unfold forGo
    have : ((((0 + at0 t p) % 2 + at0 t (p + a * sp s i)) % 2 + at0 t (p + b * sp s j)) % 2 + at0 t (p + a * sp s i + b * sp s j)) % 2 = 1 := by omega
    rw [this]
  have em : m_is_odd = mSeq (mDrop (eCall M_a_want (aCons (eCall M_is_sizes (aCons (eVar 0) aNil)) (aCons (eC (.str "sizes")) aNil)))) (mSeq (mDrop (eCall M_a_want (aCons (eCall M_is_table (aCons (eVar 0) (aCons (eVar 1) aNil))) (aCons (eC (.str "table")) aNil)))) (mSeq (mDrop (eCall M_a_want (aCons (eCall M_is_four (aCons (eVar 0) (aCons (eVar 2) aNil))) (aCons (eC (.str "four")) aNil)))) (mSeq (mAsg (gmName 3) (eC (.int 0))) (mSeq (mFor (imSeq (eCall M_four_settings (aCons (eVar 0) (aCons (eVar 2) aNil)))) (gmName 4) bd) (mRet (e2 fEq (eVar 3) (eC (.int 1)))))))) := rfl
  rw [em, mSeq_nx (en1 := [.dat (tupN s), .dat (tupN t), .dat (told s i j p a b), .un, .un]) (by simp only [mSeq_ap, mAsg_ap, mIf_ap, mDrop_ap, mRet_ap, mNext_ap, mFor_ap, imRng_ap, imSeq_ap, tmB_ap, tmNot_ap, tmTru_ap, tmAnd_ap, tmOr_ap, tmYes_ap, e1_ap, e2_ap, eN_ap, lN_ap, eL_ap, lLst_ap, eCall_ap, aCons_ap, aNil_ap, eVar_ap, eC_ap, eAnd_ap, eOr_ap, eNot_ap, eIsi_ap, eIf_ap, List.set_cons_succ, List.set_cons_zero, List.getElem?_cons_zero, List.getElem?_cons_succ, bind_ok, calm_ok, gmName_ap, tru_bool, itemsOf_list, itemsOf_tuple, Bool.not_true, Bool.not_false, Bool.false_eq_true, if_false, if_true, endOf, is_sizes_ok W, want_true])]
  rw [mSeq_nx (en1 := [.dat (tupN s), .dat (tupN t), .dat (told s i j p a b), .un, .un]) (by simp only [mSeq_ap, mAsg_ap, mIf_ap, mDrop_ap, mRet_ap, mNext_ap, mFor_ap, imRng_ap, imSeq_ap, tmB_ap, tmNot_ap, tmTru_ap, tmAnd_ap, tmOr_ap, tmYes_ap, e1_ap, e2_ap, eN_ap, lN_ap, eL_ap, lLst_ap, eCall_ap, aCons_ap, aNil_ap, eVar_ap, eC_ap, eAnd_ap, eOr_ap, eNot_ap, eIsi_ap, eIf_ap, List.set_cons_succ, List.set_cons_zero, List.getElem?_cons_zero, List.getElem?_cons_succ, bind_ok, calm_ok, gmName_ap, tru_bool, itemsOf_list, itemsOf_tuple, Bool.not_true, Bool.not_false, Bool.false_eq_true, if_false, if_true, endOf, is_table_ok W, want_true])]
  rw [mSeq_nx (en1 := [.dat (tupN s), .dat (tupN t), .dat (told s i j p a b), .un, .un]) (by simp only [mSeq_ap, mAsg_ap, mIf_ap, mDrop_ap, mRet_ap, mNext_ap, mFor_ap, imRng_ap, imSeq_ap, tmB_ap, tmNot_ap, tmTru_ap, tmAnd_ap, tmOr_ap, tmYes_ap, e1_ap, e2_ap, eN_ap, lN_ap, eL_ap, lLst_ap, eCall_ap, aCons_ap, aNil_ap, eVar_ap, eC_ap, eAnd_ap, eOr_ap, eNot_ap, eIsi_ap, eIf_ap, List.set_cons_succ, List.set_cons_zero, List.getElem?_cons_zero, List.getElem?_cons_succ, bind_ok, calm_ok, gmName_ap, tru_bool, itemsOf_list, itemsOf_tuple, Bool.not_true, Bool.not_false, Bool.false_eq_true, if_false, if_true, endOf, is_four_ok W X, want_true])]
  rw [mSeq_nx (en1 := [.dat (tupN s), .dat (tupN t), .dat (told s i j p a b), .dat (iD 0), .un]) rfl]
  rw [mSeq_nx (en1 := [.dat (tupN s), .dat (tupN t), .dat (told s i j p a b), .dat (iD 1), .dat (tupN (((digs s p).set i a).set j b))]) (by simp only [mSeq_ap, mAsg_ap, mIf_ap, mDrop_ap, mRet_ap, mNext_ap, mFor_ap, imRng_ap, imSeq_ap, tmB_ap, tmNot_ap, tmTru_ap, tmAnd_ap, tmOr_ap, tmYes_ap, e1_ap, e2_ap, eN_ap, lN_ap, eL_ap, lLst_ap, eCall_ap, aCons_ap, aNil_ap, eVar_ap, eC_ap, eAnd_ap, eOr_ap, eNot_ap, eIsi_ap, eIf_ap, List.set_cons_succ, List.set_cons_zero, List.getElem?_cons_zero, List.getElem?_cons_succ, bind_ok, calm_ok, gmName_ap, tru_bool, itemsOf_list, itemsOf_tuple, Bool.not_true, Bool.not_false, Bool.false_eq_true, if_false, if_true, endOf, four_settings_ok W X, hf])]
  have e1' : (PyData.int 1) = iD 1 := rfl
  simp only [mSeq_ap, mAsg_ap, mIf_ap, mDrop_ap, mRet_ap, mNext_ap, mFor_ap, imRng_ap, imSeq_ap, tmB_ap, tmNot_ap, tmTru_ap, tmAnd_ap, tmOr_ap, tmYes_ap, e1_ap, e2_ap, eN_ap, lN_ap, eL_ap, lLst_ap, eCall_ap, aCons_ap, aNil_ap, eVar_ap, eC_ap, eAnd_ap, eOr_ap, eNot_ap, eIsi_ap, eIf_ap, List.set_cons_succ, List.set_cons_zero, List.getElem?_cons_zero, List.getElem?_cons_succ, bind_ok, calm_ok, gmName_ap, tru_bool, itemsOf_list, itemsOf_tuple, Bool.not_true, Bool.not_false, Bool.false_eq_true, if_false, if_true, endOf, e1', fEq_N, decide_true]
end
end K07
end

section
set_option Elab.async false
set_option linter.all false
set_option maxRecDepth 100000
set_option maxHeartbeats 4000000
/-! K07K: _law_four_right; the inner loop of _law_pairs_right. -/
namespace K07
open PySem PySem.Spec PyProof.Rows L2 Mir Dg
section
variable {s t : List Nat} {i j p a b : Nat}
def frA : Sm := mSeq (mAsg (gmName 10) (e2 fIx (e2 fIx (eVar 4) (eC (.int 0))) (eVar 5))) (mIf (tmOr (tmNot (tmTru (eIsi .int (eVar 10)))) (tmOr (tmTru (eIsi .bool (eVar 10))) (tmOr (tmB (e2 fLt (eVar 10) (eC (.int 0)))) (tmB (e2 fGe (eVar 10) (e2 fIx (eVar 0) (eVar 5))))))) (mRet (eC (.bool false))) mNext)
def frB : Sm := mIf (tmOr (tmNot (tmTru (eIsi .int (eVar 10)))) (tmOr (tmTru (eIsi .bool (eVar 10))) (tmOr (tmB (e2 fLt (eVar 10) (eC (.int 0)))) (tmOr (tmB (e2 fGe (eVar 10) (e2 fIx (eVar 0) (eVar 11)))) (tmB (e2 fEq (eVar 10) (e2 fIx (e2 fIx (eVar 4) (eC (.int 0))) (eVar 11)))))))) (mRet (eC (.bool false))) mNext
theorem isi_nat (n : Nat) : isi .int (iD n) = true := rfl
theorem isi_natb (n : Nat) : isi .bool (iD n) = false := rfl
theorem told0 : fIx (told s i j p a b) (.int 0) = .ok (tupN (digs s p)) := rfl
theorem lt_zero (n : Nat) : fLt (iD n) (.int 0) = .ok (.bool false) := by rw [show (PyData.int 0) = iD 0 from rfl, fLt_N, decide_eq_false (by omega)]
theorem frB_ok {h c : Nat} (hh : h < s.length) (hc : c < sz s h) (hn : c ≠ dg s h p) (v5 v6 v7 v8 v9 : SV) : frB [.dat (tupN s), .dat (tupN t), .dat (iD i), .dat (iD j), .dat (told s i j p a b), v5, v6, v7, v8, v9, .dat (iD c), .dat (iD h)] = .ok (.nx, [.dat (tupN s), .dat (tupN t), .dat (iD i), .dat (iD j), .dat (told s i j p a b), v5, v6, v7, v8, v9, .dat (iD c), .dat (iD h)]) := by
  have hg : decide (sz s h ≤ c) = false := decide_eq_false (by omega)
  unfold frB
  simp only [mSeq_ap, mAsg_ap, mIf_ap, mDrop_ap, mRet_ap, mNext_ap, mFor_ap, imRng_ap, imSeq_ap, tmB_ap, tmNot_ap, tmTru_ap, tmAnd_ap, tmOr_ap, tmYes_ap, e1_ap, e2_ap, eN_ap, lN_ap, eL_ap, lLst_ap, eCall_ap, aCons_ap, aNil_ap, eVar_ap, eC_ap, eAnd_ap, eOr_ap, eNot_ap, eIsi_ap, eIf_ap, List.set_cons_succ, List.set_cons_zero, List.getElem?_cons_zero, List.getElem?_cons_succ, bind_ok, calm_ok, gmName_ap, tru_bool, itemsOf_list, itemsOf_tuple, Bool.not_true, Bool.not_false, Bool.false_eq_true, if_false, if_true, endOf, isi_nat, isi_natb, lt_zero, sz_ix hh, fGe_N, hg, told0, dig_ix hh, fEq_N, decide_eq_false hn]
theorem four_right_ok (W : Wd s t) (X : Four s t i j p a b) : M__law_four_right [tupN s, tupN t, iD i, iD j, told s i j p a b] = .ok (.bool true) := by
  have h6 := W.six
  have hp := W.prod
  have e : M__law_four_right [tupN s, tupN t, iD i, iD j, told s i j p a b] = ((endOf (m__law_four_right [.dat (tupN s), .dat (tupN t), .dat (iD i), .dat (iD j), .dat (told s i j p a b), .un, .un, .un, .un, .un, .un, .un])).bind fun p => .ok p.1) := rfl
  rw [e]
  have ht : isi .tup (told s i j p a b) = true := rfl
  have ht2 : isi .tup (tupN (digs s p)) = true := rfl
  have hl : fLen [told s i j p a b] = .ok (iD 5) := rfl
  have e5 : (PyData.int 5) = iD 5 := rfl
  have x1 : fIx (told s i j p a b) (.int 1) = .ok (iD i) := rfl
  have x2 : fIx (told s i j p a b) (.int 2) = .ok (iD a) := rfl
  have x3 : fIx (told s i j p a b) (.int 3) = .ok (iD j) := rfl
  have x4 : fIx (told s i j p a b) (.int 4) = .ok (iD b) := rfl
  obtain ⟨en1, hf1, v5, v10, rfl⟩ := for_rng (j := 5) (n := s.length) (b := frA) (fun _ en => ∃ v5 v10, en = [.dat (tupN s), .dat (tupN t), .dat (iD i), .dat (iD j), .dat (told s i j p a b), v5, .un, .un, .un, .un, v10, .un]) (en := [.dat (tupN s), .dat (tupN t), .dat (iD i), .dat (iD j), .dat (told s i j p a b), .un, .un, .un, .un, .un, .un, .un]) ⟨_, _, rfl⟩ (by
    rintro k en hk ⟨v5, v10, rfl⟩
    refine ⟨.nx, [.dat (tupN s), .dat (tupN t), .dat (iD i), .dat (iD j), .dat (told s i j p a b), .dat (iD k), .un, .un, .un, .un, .dat (iD (dg s k p)), .un], ?_, .inl rfl, _, _, rfl⟩
    show frA [.dat (tupN s), .dat (tupN t), .dat (iD i), .dat (iD j), .dat (told s i j p a b), .dat (iD k), .un, .un, .un, .un, v10, .un] = _
    have hd : dg s k p < sz s k := dg_ok W.pos k hk
    have hg : decide (sz s k ≤ dg s k p) = false := decide_eq_false (by omega)
    unfold frA
    simp only [mSeq_ap, mAsg_ap, mIf_ap, mDrop_ap, mRet_ap, mNext_ap, mFor_ap, imRng_ap, imSeq_ap, tmB_ap, tmNot_ap, tmTru_ap, tmAnd_ap, tmOr_ap, tmYes_ap, e1_ap, e2_ap, eN_ap, lN_ap, eL_ap, lLst_ap, eCall_ap, aCons_ap, aNil_ap, eVar_ap, eC_ap, eAnd_ap, eOr_ap, eNot_ap, eIsi_ap, eIf_ap, List.set_cons_succ, List.set_cons_zero, List.getElem?_cons_zero, List.getElem?_cons_succ, bind_ok, calm_ok, gmName_ap, tru_bool, itemsOf_list, itemsOf_tuple, Bool.not_true, Bool.not_false, Bool.false_eq_true, if_false, if_true, endOf, told0, dig_ix hk, isi_nat, isi_natb, lt_zero, sz_ix hk, fGe_N, hg])
  have hf2 : forGo (gmTup [11, 10]) frB [.tuple [iD i, iD a], .tuple [iD j, iD b]] [.dat (tupN s), .dat (tupN t), .dat (iD i), .dat (iD j), .dat (told s i j p a b), v5, .un, .un, .un, .un, v10, .un] = .ok (.nx, [.dat (tupN s), .dat (tupN t), .dat (iD i), .dat (iD j), .dat (told s i j p a b), v5, .un, .un, .un, .un, .dat (iD b), .dat (iD j)]) := by
    unfold forGo
    have g1 : gmTup [11, 10] (.tuple [iD i, iD a]) [.dat (tupN s), .dat (tupN t), .dat (iD i), .dat (iD j), .dat (told s i j p a b), v5, .un, .un, .un, .un, v10, .un] = .ok [.dat (tupN s), .dat (tupN t), .dat (iD i), .dat (iD j), .dat (told s i j p a b), v5, .un, .un, .un, .un, .dat (iD a), .dat (iD i)] := rfl
    rw [g1, calm_ok, bind_ok, frB_ok X.hi X.a2 (by rw [X.A.zi]; have := X.a1; omega), bind_ok]
    dsimp only
    unfold forGo
    have g2 : gmTup [11, 10] (.tuple [iD j, iD b]) [.dat (tupN s), .dat (tupN t), .dat (iD i), .dat (iD j), .dat (told s i j p a b), v5, .un, .un, .un, .un, .dat (iD a), .dat (iD i)] = .ok [.dat (tupN s), .dat (tupN t), .dat (iD i), .dat (iD j), .dat (told s i j p a b), v5, .un, .un, .un, .un, .dat (iD b), .dat (iD j)] := rfl
    rw [g2, calm_ok, bind_ok, frB_ok X.hj X.b2 (by rw [X.A.zj]; have := X.b1; omega), bind_ok]
    rfl
  have em : m__law_four_right = mSeq (mIf (tmOr (tmNot (tmTru (eIsi .tup (eVar 4)))) (tmOr (tmB (e2 fNe (eN fLen (aCons (eVar 4) aNil)) (eC (.int 5)))) (tmOr (tmNot (tmTru (eIsi .tup (e2 fIx (eVar 4) (eC (.int 0)))))) (tmB (e2 fNe (eN fLen (aCons (e2 fIx (eVar 4) (eC (.int 0))) aNil)) (eN fLen (aCons (eVar 0) aNil))))))) (mRet (eC (.bool false))) mNext) (mSeq (mIf (tmOr (tmNot (tmTru (eCall M__law_same (aCons (e2 fIx (eVar 4) (eC (.int 1))) (aCons (eVar 2) aNil))))) (tmNot (tmTru (eCall M__law_same (aCons (e2 fIx (eVar 4) (eC (.int 3))) (aCons (eVar 3) aNil)))))) (mRet (eC (.bool false))) mNext) (mSeq (mFor (imRng rng1 (aCons (eN fLen (aCons (eVar 0) aNil)) aNil)) (gmName 5) frA) (mSeq (mFor (imSeq (eTup (aCons (eTup (aCons (eVar 2) (aCons (e2 fIx (eVar 4) (eC (.int 2))) aNil))) (aCons (eTup (aCons (eVar 3) (aCons (e2 fIx (eVar 4) (eC (.int 4))) aNil))) aNil)))) (gmTup [11, 10]) frB) (mSeq (mAsg (gmName 6) (eCall M__law_steps (aCons (eVar 0) aNil))) (mSeq (mAsg (gmName 7) (eCall M__law_on (aCons (eVar 0) (aCons (eVar 6) (aCons (eL (lLstR1 (eN fLen (aCons (eVar 0) aNil)))) (aCons (e2 fIx (eVar 4) (eC (.int 0))) aNil)))))) (mSeq (mAsg (gmName 8) (e2 fMul (e2 fSub (e2 fIx (eVar 4) (eC (.int 2))) (e2 fIx (e2 fIx (eVar 4) (eC (.int 0))) (eVar 2))) (e2 fIx (eVar 6) (eVar 2)))) (mSeq (mAsg (gmName 9) (e2 fMul (e2 fSub (e2 fIx (eVar 4) (eC (.int 4))) (e2 fIx (e2 fIx (eVar 4) (eC (.int 0))) (eVar 3))) (e2 fIx (eVar 6) (eVar 3)))) (mRet (eAnd (eCall M__law_odd_sum (aCons (eVar 1) (aCons (eVar 7) (aCons (eVar 8) (aCons (eVar 9) aNil))))) (eCall M__law_same (aCons (eCall M_is_odd (aCons (eVar 0) (aCons (eVar 1) (aCons (eVar 4) aNil)))) (aCons (eC (.bool true)) aNil)))))))))))) := rfl
  rw [em, mSeq_nx (en1 := [.dat (tupN s), .dat (tupN t), .dat (iD i), .dat (iD j), .dat (told s i j p a b), .un, .un, .un, .un, .un, .un, .un]) (by
    simp only [mSeq_ap, mAsg_ap, mIf_ap, mDrop_ap, mRet_ap, mNext_ap, mFor_ap, imRng_ap, imSeq_ap, tmB_ap, tmNot_ap, tmTru_ap, tmAnd_ap, tmOr_ap, tmYes_ap, e1_ap, e2_ap, eN_ap, lN_ap, eL_ap, lLst_ap, eCall_ap, aCons_ap, aNil_ap, eVar_ap, eC_ap, eAnd_ap, eOr_ap, eNot_ap, eIsi_ap, eIf_ap, List.set_cons_succ, List.set_cons_zero, List.getElem?_cons_zero, List.getElem?_cons_succ, bind_ok, calm_ok, gmName_ap, tru_bool, itemsOf_list, itemsOf_tuple, Bool.not_true, Bool.not_false, Bool.false_eq_true, if_false, if_true, endOf, ht, hl, e5, fNe_N, decide_true, told0, ht2, fLen_tupN, digs_len])]
  rw [mSeq_nx (en1 := [.dat (tupN s), .dat (tupN t), .dat (iD i), .dat (iD j), .dat (told s i j p a b), .un, .un, .un, .un, .un, .un, .un]) (by
    simp only [mSeq_ap, mAsg_ap, mIf_ap, mDrop_ap, mRet_ap, mNext_ap, mFor_ap, imRng_ap, imSeq_ap, tmB_ap, tmNot_ap, tmTru_ap, tmAnd_ap, tmOr_ap, tmYes_ap, e1_ap, e2_ap, eN_ap, lN_ap, eL_ap, lLst_ap, eCall_ap, aCons_ap, aNil_ap, eVar_ap, eC_ap, eAnd_ap, eOr_ap, eNot_ap, eIsi_ap, eIf_ap, List.set_cons_succ, List.set_cons_zero, List.getElem?_cons_zero, List.getElem?_cons_succ, bind_ok, calm_ok, gmName_ap, tru_bool, itemsOf_list, itemsOf_tuple, Bool.not_true, Bool.not_false, Bool.false_eq_true, if_false, if_true, endOf, x1, x3, same_N])]
  rw [mSeq_nx (en1 := [.dat (tupN s), .dat (tupN t), .dat (iD i), .dat (iD j), .dat (told s i j p a b), v5, .un, .un, .un, .un, v10, .un]) (by
    simp only [mSeq_ap, mAsg_ap, mIf_ap, mDrop_ap, mRet_ap, mNext_ap, mFor_ap, imRng_ap, imSeq_ap, tmB_ap, tmNot_ap, tmTru_ap, tmAnd_ap, tmOr_ap, tmYes_ap, e1_ap, e2_ap, eN_ap, lN_ap, eL_ap, lLst_ap, eCall_ap, aCons_ap, aNil_ap, eVar_ap, eC_ap, eAnd_ap, eOr_ap, eNot_ap, eIsi_ap, eIf_ap, List.set_cons_succ, List.set_cons_zero, List.getElem?_cons_zero, List.getElem?_cons_succ, bind_ok, calm_ok, gmName_ap, tru_bool, itemsOf_list, itemsOf_tuple, Bool.not_true, Bool.not_false, Bool.false_eq_true, if_false, if_true, endOf, fLen_tupN, rng1_nat (by omega : s.length ≤ 100000), hf1])]
  have b2 : ∀ x y : D, ([x, y].length ≤ big) = True := fun _ _ => eq_true (by show 2 ≤ 100000; omega)
  rw [mSeq_nx (en1 := [.dat (tupN s), .dat (tupN t), .dat (iD i), .dat (iD j), .dat (told s i j p a b), v5, .un, .un, .un, .un, .dat (iD b), .dat (iD j)]) (by
    simp only [mSeq_ap, mAsg_ap, mIf_ap, mDrop_ap, mRet_ap, mNext_ap, mFor_ap, imRng_ap, imSeq_ap, tmB_ap, tmNot_ap, tmTru_ap, tmAnd_ap, tmOr_ap, tmYes_ap, e1_ap, e2_ap, eN_ap, lN_ap, eL_ap, lLst_ap, eCall_ap, aCons_ap, aNil_ap, eVar_ap, eC_ap, eAnd_ap, eOr_ap, eNot_ap, eIsi_ap, eIf_ap, List.set_cons_succ, List.set_cons_zero, List.getElem?_cons_zero, List.getElem?_cons_succ, bind_ok, calm_ok, gmName_ap, tru_bool, itemsOf_list, itemsOf_tuple, Bool.not_true, Bool.not_false, Bool.false_eq_true, if_false, if_true, endOf, eTup_ap, x2, x4, b2, hf2])]
  rw [mSeq_nx (en1 := [.dat (tupN s), .dat (tupN t), .dat (iD i), .dat (iD j), .dat (told s i j p a b), v5, .dat (.list ((spans s).map iD)), .un, .un, .un, .dat (iD b), .dat (iD j)]) (by simp only [mSeq_ap, mAsg_ap, mIf_ap, mDrop_ap, mRet_ap, mNext_ap, mFor_ap, imRng_ap, imSeq_ap, tmB_ap, tmNot_ap, tmTru_ap, tmAnd_ap, tmOr_ap, tmYes_ap, e1_ap, e2_ap, eN_ap, lN_ap, eL_ap, lLst_ap, eCall_ap, aCons_ap, aNil_ap, eVar_ap, eC_ap, eAnd_ap, eOr_ap, eNot_ap, eIsi_ap, eIf_ap, List.set_cons_succ, List.set_cons_zero, List.getElem?_cons_zero, List.getElem?_cons_succ, bind_ok, calm_ok, gmName_ap, tru_bool, itemsOf_list, itemsOf_tuple, Bool.not_true, Bool.not_false, Bool.false_eq_true, if_false, if_true, endOf, steps_ok W])]
  have hL : lLstR1 (eN fLen (aCons (eVar 0) aNil)) [.dat (tupN s), .dat (tupN t), .dat (iD i), .dat (iD j), .dat (told s i j p a b), v5, .dat (.list ((spans s).map iD)), .un, .un, .un, .dat (iD b), .dat (iD j)] = .ok ((List.range s.length).map iD, [.dat (tupN s), .dat (tupN t), .dat (iD i), .dat (iD j), .dat (told s i j p a b), v5, .dat (.list ((spans s).map iD)), .un, .un, .un, .dat (iD b), .dat (iD j)]) := by
    have hn : eN fLen (aCons (eVar 0) aNil) [.dat (tupN s), .dat (tupN t), .dat (iD i), .dat (iD j), .dat (told s i j p a b), v5, .dat (.list ((spans s).map iD)), .un, .un, .un, .dat (iD b), .dat (iD j)] = .ok (iD s.length, [.dat (tupN s), .dat (tupN t), .dat (iD i), .dat (iD j), .dat (told s i j p a b), v5, .dat (.list ((spans s).map iD)), .un, .un, .un, .dat (iD b), .dat (iD j)]) := by simp only [mSeq_ap, mAsg_ap, mIf_ap, mDrop_ap, mRet_ap, mNext_ap, mFor_ap, imRng_ap, imSeq_ap, tmB_ap, tmNot_ap, tmTru_ap, tmAnd_ap, tmOr_ap, tmYes_ap, e1_ap, e2_ap, eN_ap, lN_ap, eL_ap, lLst_ap, eCall_ap, aCons_ap, aNil_ap, eVar_ap, eC_ap, eAnd_ap, eOr_ap, eNot_ap, eIsi_ap, eIf_ap, List.set_cons_succ, List.set_cons_zero, List.getElem?_cons_zero, List.getElem?_cons_succ, bind_ok, calm_ok, gmName_ap, tru_bool, itemsOf_list, itemsOf_tuple, Bool.not_true, Bool.not_false, Bool.false_eq_true, if_false, if_true, endOf, fLen_tupN]
    unfold lLstR1
    rw [hn, bind_ok]
    dsimp only
    rw [if_pos (by unfold okRg; simp; omega)]
    have : rgD 0 (s.length : Int) = (List.range s.length).map iD := by unfold rgD; simp
    rw [this]
  have hon := on_ok W (lot := List.range s.length) (List.Sublist.refl _) (LOT := .list ((List.range s.length).map iD)) rfl (x := digs s p) (digs_len s p) (ok_digs W p)
  have hpl : onL s (List.range s.length) (at0 (digs s p)) = p := by
    unfold onL
    rw [← pl_sum]
    have : pl s (at0 (digs s p)) = pl s fun h => dg s h p := pl_congr fun h hh => at0_digs hh
    rw [this, pl_dg W.pos X.A.lt]
  rw [hpl] at hon
  rw [mSeq_nx (en1 := [.dat (tupN s), .dat (tupN t), .dat (iD i), .dat (iD j), .dat (told s i j p a b), v5, .dat (.list ((spans s).map iD)), .dat (iD p), .un, .un, .dat (iD b), .dat (iD j)]) (by simp only [mSeq_ap, mAsg_ap, mIf_ap, mDrop_ap, mRet_ap, mNext_ap, mFor_ap, imRng_ap, imSeq_ap, tmB_ap, tmNot_ap, tmTru_ap, tmAnd_ap, tmOr_ap, tmYes_ap, e1_ap, e2_ap, eN_ap, lN_ap, eL_ap, lLst_ap, eCall_ap, aCons_ap, aNil_ap, eVar_ap, eC_ap, eAnd_ap, eOr_ap, eNot_ap, eIsi_ap, eIf_ap, List.set_cons_succ, List.set_cons_zero, List.getElem?_cons_zero, List.getElem?_cons_succ, bind_ok, calm_ok, gmName_ap, tru_bool, itemsOf_list, itemsOf_tuple, Bool.not_true, Bool.not_false, Bool.false_eq_true, if_false, if_true, endOf, hL, told0, hon])]
  have q1 := sz_le W.pos X.hi
  have q2 := sp_le W.pos X.hi
  have q3 := sz_le W.pos X.hj
  have q4 := sp_le W.pos X.hj
  have a2 := X.a2
  have b2' := X.b2
  have zi := X.A.zi
  have zj := X.A.zj
  have sa : fSub (iD a) (iD (dg s i p)) = .ok (iD a) := by rw [zi, fSub_N (Nat.zero_le _), Nat.sub_zero]
  have sb : fSub (iD b) (iD (dg s j p)) = .ok (iD b) := by rw [zj, fSub_N (Nat.zero_le _), Nat.sub_zero]
  rw [mSeq_nx (en1 := [.dat (tupN s), .dat (tupN t), .dat (iD i), .dat (iD j), .dat (told s i j p a b), v5, .dat (.list ((spans s).map iD)), .dat (iD p), .dat (iD (a * sp s i)), .un, .dat (iD b), .dat (iD j)]) (by
    simp only [mSeq_ap, mAsg_ap, mIf_ap, mDrop_ap, mRet_ap, mNext_ap, mFor_ap, imRng_ap, imSeq_ap, tmB_ap, tmNot_ap, tmTru_ap, tmAnd_ap, tmOr_ap, tmYes_ap, e1_ap, e2_ap, eN_ap, lN_ap, eL_ap, lLst_ap, eCall_ap, aCons_ap, aNil_ap, eVar_ap, eC_ap, eAnd_ap, eOr_ap, eNot_ap, eIsi_ap, eIf_ap, List.set_cons_succ, List.set_cons_zero, List.getElem?_cons_zero, List.getElem?_cons_succ, bind_ok, calm_ok, gmName_ap, tru_bool, itemsOf_list, itemsOf_tuple, Bool.not_true, Bool.not_false, Bool.false_eq_true, if_false, if_true, endOf, x2, told0, dig_ix X.hi, sa, sp_ix W X.hi, fMul_N (by omega : a < 2 ^ 62) (by omega : sp s i < 2 ^ 62)])]
  rw [mSeq_nx (en1 := [.dat (tupN s), .dat (tupN t), .dat (iD i), .dat (iD j), .dat (told s i j p a b), v5, .dat (.list ((spans s).map iD)), .dat (iD p), .dat (iD (a * sp s i)), .dat (iD (b * sp s j)), .dat (iD b), .dat (iD j)]) (by
    simp only [mSeq_ap, mAsg_ap, mIf_ap, mDrop_ap, mRet_ap, mNext_ap, mFor_ap, imRng_ap, imSeq_ap, tmB_ap, tmNot_ap, tmTru_ap, tmAnd_ap, tmOr_ap, tmYes_ap, e1_ap, e2_ap, eN_ap, lN_ap, eL_ap, lLst_ap, eCall_ap, aCons_ap, aNil_ap, eVar_ap, eC_ap, eAnd_ap, eOr_ap, eNot_ap, eIsi_ap, eIf_ap, List.set_cons_succ, List.set_cons_zero, List.getElem?_cons_zero, List.getElem?_cons_succ, bind_ok, calm_ok, gmName_ap, tru_bool, itemsOf_list, itemsOf_tuple, Bool.not_true, Bool.not_false, Bool.false_eq_true, if_false, if_true, endOf, x4, told0, dig_ix X.hj, sb, sp_ix W X.hj, fMul_N (by omega : b < 2 ^ 62) (by omega : sp s j < 2 ^ 62)])]
  obtain ⟨l1, l2, l3⟩ := away_lt W X.hi X.hj X.ne X.A X.a2 X.b2
  have ho := odd_sum_ok W l1 l2 l3
  rw [decide_eq_true (odd_four_sum W X)] at ho
  simp only [mSeq_ap, mAsg_ap, mIf_ap, mDrop_ap, mRet_ap, mNext_ap, mFor_ap, imRng_ap, imSeq_ap, tmB_ap, tmNot_ap, tmTru_ap, tmAnd_ap, tmOr_ap, tmYes_ap, e1_ap, e2_ap, eN_ap, lN_ap, eL_ap, lLst_ap, eCall_ap, aCons_ap, aNil_ap, eVar_ap, eC_ap, eAnd_ap, eOr_ap, eNot_ap, eIsi_ap, eIf_ap, List.set_cons_succ, List.set_cons_zero, List.getElem?_cons_zero, List.getElem?_cons_succ, bind_ok, calm_ok, gmName_ap, tru_bool, itemsOf_list, itemsOf_tuple, Bool.not_true, Bool.not_false, Bool.false_eq_true, if_false, if_true, endOf, ho, is_odd_ok W X, same_b]
/-! ### both ways round a pair -/
def prB4 : Sm := mSeq (mIf (tmNot (tmTru (eCall M__law_same (aCons (eCall M_are_knit (aCons (eVar 0) (aCons (eVar 1) (aCons (eVar 13) (aCons (eVar 14) aNil))))) (aCons (eVar 12) aNil))))) (mRet (eC (.bool false))) mNext) (mSeq (mAsg (gmName 15) (eCall M_odd_four (aCons (eVar 0) (aCons (eVar 1) (aCons (eVar 13) (aCons (eVar 14) aNil)))))) (mSeq (mIf (tmAnd (tmNot (tmTru (eVar 12))) (tmB (e2 fIsNot (eVar 15) (eC .none)))) (mRet (eC (.bool false))) mNext) (mIf (tmAnd (tmTru (eVar 12)) (tmNot (tmTru (eCall M__law_four_right (aCons (eVar 0) (aCons (eVar 1) (aCons (eVar 13) (aCons (eVar 14) (aCons (eVar 15) aNil))))))))) (mRet (eC (.bool false))) mNext)))
theorem prB4_ok (W : Wd s t) (hi : i < s.length) (hj : j < s.length) (q : i ≠ j) (v2 v3 v4 v5 v6 v7 v8 v9 v10 v11 v15 v16 : SV) : ∃ v15', prB4 [.dat (tupN s), .dat (tupN t), v2, v3, v4, v5, v6, v7, v8, v9, v10, v11, .dat (.bool (kb s t i j)), .dat (iD i), .dat (iD j), v15, v16] = .ok (.nx, [.dat (tupN s), .dat (tupN t), v2, v3, v4, v5, v6, v7, v8, v9, v10, v11, .dat (.bool (kb s t i j)), .dat (iD i), .dat (iD j), v15', v16]) := by
  cases hx : spot s t i j with
  | none =>
    have hk : kb s t i j = false := by unfold kb; rw [hx]; rfl
    have h1 := are_knit_ok W hi hj q
    rw [hk] at h1 ⊢
    have hn : fIsNot .none .none = .ok (.bool false) := rfl
    refine ⟨.dat .none, ?_⟩
    unfold prB4
    simp only [mSeq_ap, mAsg_ap, mIf_ap, mDrop_ap, mRet_ap, mNext_ap, mFor_ap, imRng_ap, imSeq_ap, tmB_ap, tmNot_ap, tmTru_ap, tmAnd_ap, tmOr_ap, tmYes_ap, e1_ap, e2_ap, eN_ap, lN_ap, eL_ap, lLst_ap, eCall_ap, aCons_ap, aNil_ap, eVar_ap, eC_ap, eAnd_ap, eOr_ap, eNot_ap, eIsi_ap, eIf_ap, List.set_cons_succ, List.set_cons_zero, List.getElem?_cons_zero, List.getElem?_cons_succ, bind_ok, calm_ok, gmName_ap, tru_bool, itemsOf_list, itemsOf_tuple, Bool.not_true, Bool.not_false, Bool.false_eq_true, if_false, if_true, endOf, h1, same_b, odd_four_none W hi hj q hx, hn]
  | some d =>
    obtain ⟨p, a, b, rfl, hm, a1, a2, b1, b2, ho⟩ := spot_is hx
    have X : Four s t i j p a b := ⟨hi, hj, q, (away_of W hi hj).mp hm, a1, a2, b1, b2, ho⟩
    have hk : kb s t i j = true := by unfold kb; rw [hx]; rfl
    have h1 := are_knit_ok W hi hj q
    rw [hk] at h1 ⊢
    have h2 : M_odd_four [tupN s, tupN t, iD i, iD j] = .ok (told s i j p a b) := odd_four_some W hi hj q hx
    refine ⟨.dat (told s i j p a b), ?_⟩
    unfold prB4
    simp only [mSeq_ap, mAsg_ap, mIf_ap, mDrop_ap, mRet_ap, mNext_ap, mFor_ap, imRng_ap, imSeq_ap, tmB_ap, tmNot_ap, tmTru_ap, tmAnd_ap, tmOr_ap, tmYes_ap, e1_ap, e2_ap, eN_ap, lN_ap, eL_ap, lLst_ap, eCall_ap, aCons_ap, aNil_ap, eVar_ap, eC_ap, eAnd_ap, eOr_ap, eNot_ap, eIsi_ap, eIf_ap, List.set_cons_succ, List.set_cons_zero, List.getElem?_cons_zero, List.getElem?_cons_succ, bind_ok, calm_ok, gmName_ap, tru_bool, itemsOf_list, itemsOf_tuple, Bool.not_true, Bool.not_false, Bool.false_eq_true, if_false, if_true, endOf, h1, same_b, h2, four_right_ok W X]
end
end K07
end

section
set_option Elab.async false
set_option linter.all false
set_option maxRecDepth 100000
set_option maxHeartbeats 4000000
/-! K07L: _law_pairs_right. -/
namespace K07
open PySem PySem.Spec PyProof.Rows L2 Mir Dg
def prCol : Sm := mIf (tmB (e2 fLt (eVar 4) (eVar 7))) (mSeq (mAsg (gmName 12) (eCall M__law_knit (aCons (eVar 0) (aCons (eVar 1) (aCons (eVar 4) (aCons (eVar 7) aNil)))))) (mSeq (mIf (tmTru (eVar 12)) (mApp 3 (eTup (aCons (eVar 4) (aCons (eVar 7) aNil)))) mNext) (mFor (imSeq (eTup (aCons (eTup (aCons (eVar 4) (aCons (eVar 7) aNil))) (aCons (eTup (aCons (eVar 7) (aCons (eVar 4) aNil))) aNil)))) (gmTup [13, 14]) (mSeq (mIf (tmNot (tmTru (eCall M__law_same (aCons (eCall M_are_knit (aCons (eVar 0) (aCons (eVar 1) (aCons (eVar 13) (aCons (eVar 14) aNil))))) (aCons (eVar 12) aNil))))) (mRet (eC (.bool false))) mNext) (mSeq (mAsg (gmName 15) (eCall M_odd_four (aCons (eVar 0) (aCons (eVar 1) (aCons (eVar 13) (aCons (eVar 14) aNil)))))) (mSeq (mIf (tmAnd (tmNot (tmTru (eVar 12))) (tmB (e2 fIsNot (eVar 15) (eC .none)))) (mRet (eC (.bool false))) mNext) (mIf (tmAnd (tmTru (eVar 12)) (tmNot (tmTru (eCall M__law_four_right (aCons (eVar 0) (aCons (eVar 1) (aCons (eVar 13) (aCons (eVar 14) (aCons (eVar 15) aNil))))))))) (mRet (eC (.bool false))) mNext))))))) mNext
def prRow : Sm := mFor (imRng rng1 (aCons (eVar 2) aNil)) (gmName 7) prCol
def prClump : Sm := mSeq (mAsg (gmName 11) (eN fLen (aCons (eL (lLc (imSeq (eVar 9)) [16] (gmName 16) (tmB (e2 fIn (eVar 16) (eVar 6))) (eVar 16))) aNil))) (mIf (tmB (eChain fLt fLt (eC (.int 0)) (eVar 11) (eN fLen (aCons (eVar 9) aNil)))) (mAsg (gmName 8) (e2 fAdd (eVar 8) (eC (.int 1)))) mNext)
def prLots : Sm := mSeq (mAsg (gmName 8) (eC (.int 0))) (mSeq (mFor (imSeq (eVar 5)) (gmName 9) prClump) (mSeq (mAsg (gmName 10) (eCall M__law_seam (aCons (eVar 0) (aCons (eVar 1) (aCons (eVar 6) aNil))))) (mIf (tmOr (tmB (e2 fNe (eVar 10) (e2 fEq (eVar 8) (eC (.int 0))))) (tmNot (tmTru (eCall M__law_same (aCons (eCall M_is_seam (aCons (eVar 0) (aCons (eVar 1) (aCons (eVar 6) aNil)))) (aCons (eVar 10) aNil)))))) (mRet (eC (.bool false))) mNext)))
section
variable {s t : List Nat}
theorem prCol_eq : prCol = mIf (tmB (e2 fLt (eVar 4) (eVar 7))) (mSeq (mAsg (gmName 12) (eCall M__law_knit (aCons (eVar 0) (aCons (eVar 1) (aCons (eVar 4) (aCons (eVar 7) aNil)))))) (mSeq (mIf (tmTru (eVar 12)) (mApp 3 (eTup (aCons (eVar 4) (aCons (eVar 7) aNil)))) mNext) (mFor (imSeq (eTup (aCons (eTup (aCons (eVar 4) (aCons (eVar 7) aNil))) (aCons (eTup (aCons (eVar 7) (aCons (eVar 4) aNil))) aNil)))) (gmTup [13, 14]) prB4))) mNext := rfl
def pick (s t : List Nat) (i j : Nat) : Bool := decide (i < j) && kb s t i j
theorem both_ok (W : Wd s t) {i j : Nat} (hi : i < s.length) (hj : j < s.length) (q : i ≠ j) (v2 v3 v4 v5 v6 v7 v8 v9 v10 v11 v13 v14 v15 v16 : SV) : ∃ v13' v14' v15', forGo (gmTup [13, 14]) prB4 [.tuple [iD i, iD j], .tuple [iD j, iD i]] [.dat (tupN s), .dat (tupN t), v2, v3, v4, v5, v6, v7, v8, v9, v10, v11, .dat (.bool (kb s t i j)), v13, v14, v15, v16] = .ok (.nx, [.dat (tupN s), .dat (tupN t), v2, v3, v4, v5, v6, v7, v8, v9, v10, v11, .dat (.bool (kb s t i j)), v13', v14', v15', v16]) := by
  obtain ⟨w, h1⟩ := prB4_ok W hi hj q v2 v3 v4 v5 v6 v7 v8 v9 v10 v11 v15 v16
  obtain ⟨w', h2⟩ := prB4_ok W hj hi (Ne.symm q) v2 v3 v4 v5 v6 v7 v8 v9 v10 v11 w v16
  rw [← kb_symm W hi hj q] at h2
  refine ⟨.dat (iD j), .dat (iD i), w', ?_⟩
  unfold forGo
  have g1 : gmTup [13, 14] (.tuple [iD i, iD j]) [.dat (tupN s), .dat (tupN t), v2, v3, v4, v5, v6, v7, v8, v9, v10, v11, .dat (.bool (kb s t i j)), v13, v14, v15, v16] = .ok [.dat (tupN s), .dat (tupN t), v2, v3, v4, v5, v6, v7, v8, v9, v10, v11, .dat (.bool (kb s t i j)), .dat (iD i), .dat (iD j), v15, v16] := rfl
  rw [g1, calm_ok, bind_ok, h1, bind_ok]
  dsimp only
  unfold forGo
  have g2 : gmTup [13, 14] (.tuple [iD j, iD i]) [.dat (tupN s), .dat (tupN t), v2, v3, v4, v5, v6, v7, v8, v9, v10, v11, .dat (.bool (kb s t i j)), .dat (iD i), .dat (iD j), w, v16] = .ok [.dat (tupN s), .dat (tupN t), v2, v3, v4, v5, v6, v7, v8, v9, v10, v11, .dat (.bool (kb s t i j)), .dat (iD j), .dat (iD i), w, v16] := rfl
  rw [g2, calm_ok, bind_ok, h2, bind_ok]
  rfl
theorem col_ok (W : Wd s t) {i j : Nat} (hi : i < s.length) (hj : j < s.length) {acc : List (Nat × Nat)} (ha : acc.length ≤ 1000) (v12 v13 v14 v15 : SV) : ∃ v12' v13' v14' v15', prCol [.dat (tupN s), .dat (tupN t), .dat (iD s.length), .own (.lst (acc.map pD)), .dat (iD i), .un, .un, .dat (iD j), .un, .un, .un, .un, v12, v13, v14, v15, .un] = .ok (.nx, [.dat (tupN s), .dat (tupN t), .dat (iD s.length), .own (.lst ((acc ++ if pick s t i j = true then [(i, j)] else []).map pD)), .dat (iD i), .un, .un, .dat (iD j), .un, .un, .un, .un, v12', v13', v14', v15', .un]) := by
  rw [prCol_eq]
  by_cases q : i < j
  · have hp : pick s t i j = kb s t i j := by unfold pick; rw [decide_eq_true q]; rfl
    obtain ⟨v13', v14', v15', h⟩ := both_ok W hi hj (by omega : i ≠ j) (.dat (iD s.length)) (.own (.lst ((acc ++ if pick s t i j = true then [(i, j)] else []).map pD))) (.dat (iD i)) .un .un (.dat (iD j)) .un .un .un .un v13 v14 v15 .un
    refine ⟨.dat (.bool (kb s t i j)), v13', v14', v15', ?_⟩
    have hk := knit_ok W hi hj (by omega : i ≠ j)
    rw [kn_kb W hi hj (by omega : i ≠ j)] at hk
    have hg : tmB (e2 fLt (eVar 4) (eVar 7)) [.dat (tupN s), .dat (tupN t), .dat (iD s.length), .own (.lst (acc.map pD)), .dat (iD i), .un, .un, .dat (iD j), .un, .un, .un, .un, v12, v13, v14, v15, .un] = .ok (true, [.dat (tupN s), .dat (tupN t), .dat (iD s.length), .own (.lst (acc.map pD)), .dat (iD i), .un, .un, .dat (iD j), .un, .un, .un, .un, v12, v13, v14, v15, .un]) := by
      simp only [mSeq_ap, mAsg_ap, mIf_ap, mDrop_ap, mRet_ap, mNext_ap, mFor_ap, imRng_ap, imSeq_ap, tmB_ap, tmNot_ap, tmTru_ap, tmAnd_ap, tmOr_ap, tmYes_ap, e1_ap, e2_ap, eN_ap, lN_ap, eL_ap, lLst_ap, eCall_ap, aCons_ap, aNil_ap, eVar_ap, eC_ap, eAnd_ap, eOr_ap, eNot_ap, eIsi_ap, eIf_ap, List.set_cons_succ, List.set_cons_zero, List.getElem?_cons_zero, List.getElem?_cons_succ, bind_ok, calm_ok, gmName_ap, tru_bool, itemsOf_list, itemsOf_tuple, Bool.not_true, Bool.not_false, Bool.false_eq_true, if_false, if_true, endOf, fLt_N, decide_eq_true q]
    rw [mIf_ap, hg, bind_ok, if_pos rfl]
    rw [mSeq_nx (en1 := [.dat (tupN s), .dat (tupN t), .dat (iD s.length), .own (.lst (acc.map pD)), .dat (iD i), .un, .un, .dat (iD j), .un, .un, .un, .un, .dat (.bool (kb s t i j)), v13, v14, v15, .un]) (by simp only [mSeq_ap, mAsg_ap, mIf_ap, mDrop_ap, mRet_ap, mNext_ap, mFor_ap, imRng_ap, imSeq_ap, tmB_ap, tmNot_ap, tmTru_ap, tmAnd_ap, tmOr_ap, tmYes_ap, e1_ap, e2_ap, eN_ap, lN_ap, eL_ap, lLst_ap, eCall_ap, aCons_ap, aNil_ap, eVar_ap, eC_ap, eAnd_ap, eOr_ap, eNot_ap, eIsi_ap, eIf_ap, List.set_cons_succ, List.set_cons_zero, List.getElem?_cons_zero, List.getElem?_cons_succ, bind_ok, calm_ok, gmName_ap, tru_bool, itemsOf_list, itemsOf_tuple, Bool.not_true, Bool.not_false, Bool.false_eq_true, if_false, if_true, endOf, hk])]
    rw [mSeq_nx (en1 := [.dat (tupN s), .dat (tupN t), .dat (iD s.length), .own (.lst ((acc ++ if pick s t i j = true then [(i, j)] else []).map pD)), .dat (iD i), .un, .un, .dat (iD j), .un, .un, .un, .un, .dat (.bool (kb s t i j)), v13, v14, v15, .un]) (by
      have ht : tmTru (eVar 12) [.dat (tupN s), .dat (tupN t), .dat (iD s.length), .own (.lst (acc.map pD)), .dat (iD i), .un, .un, .dat (iD j), .un, .un, .un, .un, .dat (.bool (kb s t i j)), v13, v14, v15, .un] = .ok (kb s t i j, [.dat (tupN s), .dat (tupN t), .dat (iD s.length), .own (.lst (acc.map pD)), .dat (iD i), .un, .un, .dat (iD j), .un, .un, .un, .un, .dat (.bool (kb s t i j)), v13, v14, v15, .un]) := rfl
      rw [mIf_ap, ht, bind_ok, hp]
      dsimp only
      cases kb s t i j with
      | false => rw [if_neg Bool.false_ne_true, if_neg Bool.false_ne_true, List.append_nil]; rfl
      | true =>
        rw [if_pos rfl, if_pos rfl, mApp_ok (ds := acc.map pD) (d := tupN [i, j]) rfl rfl (by rw [List.length_map]; show _ < 100000; omega), List.map_append]
        rfl)]
    have hI : imSeq (eTup (aCons (eTup (aCons (eVar 4) (aCons (eVar 7) aNil))) (aCons (eTup (aCons (eVar 7) (aCons (eVar 4) aNil))) aNil))) [.dat (tupN s), .dat (tupN t), .dat (iD s.length), .own (.lst ((acc ++ if pick s t i j = true then [(i, j)] else []).map pD)), .dat (iD i), .un, .un, .dat (iD j), .un, .un, .un, .un, .dat (.bool (kb s t i j)), v13, v14, v15, .un] = .ok ([.tuple [iD i, iD j], .tuple [iD j, iD i]], [.dat (tupN s), .dat (tupN t), .dat (iD s.length), .own (.lst ((acc ++ if pick s t i j = true then [(i, j)] else []).map pD)), .dat (iD i), .un, .un, .dat (iD j), .un, .un, .un, .un, .dat (.bool (kb s t i j)), v13, v14, v15, .un]) := rfl
    rw [mFor_ap, hI, bind_ok]
    exact h
  · have hp : pick s t i j = false := by unfold pick; rw [decide_eq_false q]; rfl
    refine ⟨v12, v13, v14, v15, ?_⟩
    have hg : tmB (e2 fLt (eVar 4) (eVar 7)) [.dat (tupN s), .dat (tupN t), .dat (iD s.length), .own (.lst (acc.map pD)), .dat (iD i), .un, .un, .dat (iD j), .un, .un, .un, .un, v12, v13, v14, v15, .un] = .ok (false, [.dat (tupN s), .dat (tupN t), .dat (iD s.length), .own (.lst (acc.map pD)), .dat (iD i), .un, .un, .dat (iD j), .un, .un, .un, .un, v12, v13, v14, v15, .un]) := by
      simp only [mSeq_ap, mAsg_ap, mIf_ap, mDrop_ap, mRet_ap, mNext_ap, mFor_ap, imRng_ap, imSeq_ap, tmB_ap, tmNot_ap, tmTru_ap, tmAnd_ap, tmOr_ap, tmYes_ap, e1_ap, e2_ap, eN_ap, lN_ap, eL_ap, lLst_ap, eCall_ap, aCons_ap, aNil_ap, eVar_ap, eC_ap, eAnd_ap, eOr_ap, eNot_ap, eIsi_ap, eIf_ap, List.set_cons_succ, List.set_cons_zero, List.getElem?_cons_zero, List.getElem?_cons_succ, bind_ok, calm_ok, gmName_ap, tru_bool, itemsOf_list, itemsOf_tuple, Bool.not_true, Bool.not_false, Bool.false_eq_true, if_false, if_true, endOf, fLt_N, decide_eq_false q]
    rw [mIf_ap, hg, bind_ok, if_neg Bool.false_ne_true, hp, if_neg Bool.false_ne_true, List.append_nil]
    rfl
theorem rowP_pick {i : Nat} (hi : i < s.length) : ((List.range s.length).filter (pick s t i)).map (fun j => (i, j)) = rowP s t i := by
  unfold rowP
  congr 1
  refine List.Perm.eq_of_pairwise (le := fun a b => a ≤ b) ?_ ?_ ?_ ?_
  · intro a b _ _ h1 h2; omega
  · exact (List.pairwise_lt_range.filter _).imp fun q => by omega
  · refine List.Pairwise.filter _ ?_
    unfold rngN
    rw [List.pairwise_map]
    exact List.pairwise_lt_range.imp fun q => by omega
  · have nd : (rngN (i + 1) s.length).Nodup := by
      unfold rngN
      rw [List.nodup_iff_pairwise_ne, List.pairwise_map]
      exact List.pairwise_lt_range.imp fun q => by omega
    refine (List.perm_ext_iff_of_nodup (List.nodup_range.filter _) (nd.filter _)).mpr fun x => ?_
    rw [List.mem_filter, List.mem_filter, List.mem_range, mem_rngN]
    unfold pick
    rw [Bool.and_eq_true, decide_eq_true_eq]
    constructor
    · rintro ⟨h1, h2, h3⟩; exact ⟨⟨by omega, h1⟩, h3⟩
    · rintro ⟨⟨h1, h2⟩, h3⟩; exact ⟨h2, by omega, h3⟩
theorem row_ok (W : Wd s t) {i : Nat} (hi : i < s.length) {acc : List (Nat × Nat)} (ha : acc.length ≤ 500) (v7 v12 v13 v14 v15 : SV) : ∃ v7' v12' v13' v14' v15', prRow [.dat (tupN s), .dat (tupN t), .dat (iD s.length), .own (.lst (acc.map pD)), .dat (iD i), .un, .un, v7, .un, .un, .un, .un, v12, v13, v14, v15, .un] = .ok (.nx, [.dat (tupN s), .dat (tupN t), .dat (iD s.length), .own (.lst ((acc ++ rowP s t i).map pD)), .dat (iD i), .un, .un, v7', .un, .un, .un, .un, v12', v13', v14', v15', .un]) := by
  have h6 := W.six
  obtain ⟨en', hf, v7', v12', v13', v14', v15', rfl⟩ := for_rng (j := 7) (n := s.length) (b := prCol) (fun j en => ∃ v7 v12 v13 v14 v15, en = [.dat (tupN s), .dat (tupN t), .dat (iD s.length), .own (.lst ((acc ++ ((List.range j).filter (pick s t i)).map fun j => (i, j)).map pD)), .dat (iD i), .un, .un, v7, .un, .un, .un, .un, v12, v13, v14, v15, .un]) (en := [.dat (tupN s), .dat (tupN t), .dat (iD s.length), .own (.lst (acc.map pD)), .dat (iD i), .un, .un, v7, .un, .un, .un, .un, v12, v13, v14, v15, .un]) ⟨v7, v12, v13, v14, v15, by simp⟩ (by
    rintro j en hj ⟨v7, v12, v13, v14, v15, rfl⟩
    have hl : (acc ++ ((List.range j).filter (pick s t i)).map fun j => (i, j)).length ≤ 1000 := by
      rw [List.length_append, List.length_map]
      have := List.length_filter_le (pick s t i) (List.range j)
      rw [List.length_range] at this
      omega
    obtain ⟨v12', v13', v14', v15', h⟩ := col_ok W hi hj hl v12 v13 v14 v15
    have er : (acc ++ ((List.range (j + 1)).filter (pick s t i)).map fun j => (i, j)) = (acc ++ ((List.range j).filter (pick s t i)).map fun j => (i, j)) ++ if pick s t i j = true then [(i, j)] else [] := by
      rw [List.range_succ, List.filter_append, List.map_append, List.append_assoc]
      congr 2
      cases q : pick s t i j <;> simp [q]
    rw [er]
    exact ⟨.nx, _, h, .inl rfl, _, v12', v13', v14', v15', rfl⟩)
  rw [rowP_pick hi] at hf
  refine ⟨v7', v12', v13', v14', v15', ?_⟩
  unfold prRow
  simp only [mSeq_ap, mAsg_ap, mIf_ap, mDrop_ap, mRet_ap, mNext_ap, mFor_ap, imRng_ap, imSeq_ap, tmB_ap, tmNot_ap, tmTru_ap, tmAnd_ap, tmOr_ap, tmYes_ap, e1_ap, e2_ap, eN_ap, lN_ap, eL_ap, lLst_ap, eCall_ap, aCons_ap, aNil_ap, eVar_ap, eC_ap, eAnd_ap, eOr_ap, eNot_ap, eIsi_ap, eIf_ap, List.set_cons_succ, List.set_cons_zero, List.getElem?_cons_zero, List.getElem?_cons_succ, bind_ok, calm_ok, gmName_ap, tru_bool, itemsOf_list, itemsOf_tuple, Bool.not_true, Bool.not_false, Bool.false_eq_true, if_false, if_true, endOf, rng1_nat (by omega : s.length ≤ 100000), hf]
/-! ### lots -/
theorem eChain_N {a b c : Em} {en : En} {x y z : Nat} (ha : a en = .ok (iD x, en)) (hb : b en = .ok (iD y, en)) (hc : c en = .ok (iD z, en)) : eChain fLt fLt a b c en = .ok (.bool (decide (x < y) && decide (y < z)), en) := by
  unfold eChain
  rw [ha, bind_ok]
  dsimp only
  rw [hb, bind_ok]
  dsimp only
  rw [fLt_N, calm_ok, bind_ok]
  cases decide (x < y) with
  | false => rfl
  | true =>
    dsimp only
    rw [hc, bind_ok]
    dsimp only
    rw [fLt_N, calm_ok, bind_ok]
    rfl
theorem clump_step {n : Nat} {lot c : List Nat} {k : Nat} {P C : D} (hc : c.length ≤ 100) (v4 v7 v10 v11 v12 v13 v14 v15 : SV) : ∃ v11', prClump [.dat (tupN s), .dat (tupN t), .dat (iD n), .dat P, v4, .dat C, .dat (tupN lot), v7, .dat (iD k), .dat (tupN c), v10, v11, v12, v13, v14, v15, .un] = .ok (.nx, [.dat (tupN s), .dat (tupN t), .dat (iD n), .dat P, v4, .dat C, .dat (tupN lot), v7, .dat (iD (k + if cut lot c = true then 1 else 0)), .dat (tupN c), v10, v11', v12, v13, v14, v15, .un]) := by
  refine ⟨.dat (iD (inL lot c)), ?_⟩
  have hcm := lLc_marks (j := 16) (a := eVar 9) (t := tmB (e2 fIn (eVar 16) (eVar 6))) (m := eVar 16) (en := [.dat (tupN s), .dat (tupN t), .dat (iD n), .dat P, v4, .dat C, .dat (tupN lot), v7, .dat (iD k), .dat (tupN c), v10, v11, v12, v13, v14, v15, .un]) (ms := c) (d0 := tupN c) (fun h => decide (h ∈ lot)) iD rfl rfl (by show 16 < 17; omega) rfl (by omega) (fun h hm => ⟨by simp only [mSeq_ap, mAsg_ap, mIf_ap, mDrop_ap, mRet_ap, mNext_ap, mFor_ap, imRng_ap, imSeq_ap, tmB_ap, tmNot_ap, tmTru_ap, tmAnd_ap, tmOr_ap, tmYes_ap, e1_ap, e2_ap, eN_ap, lN_ap, eL_ap, lLst_ap, eCall_ap, aCons_ap, aNil_ap, eVar_ap, eC_ap, eAnd_ap, eOr_ap, eNot_ap, eIsi_ap, eIf_ap, List.set_cons_succ, List.set_cons_zero, List.getElem?_cons_zero, List.getElem?_cons_succ, bind_ok, calm_ok, gmName_ap, tru_bool, itemsOf_list, itemsOf_tuple, Bool.not_true, Bool.not_false, Bool.false_eq_true, if_false, if_true, endOf, in_tup], fun _ => rfl⟩)
  unfold prClump
  rw [mSeq_nx (en1 := [.dat (tupN s), .dat (tupN t), .dat (iD n), .dat P, v4, .dat C, .dat (tupN lot), v7, .dat (iD k), .dat (tupN c), v10, .dat (iD (inL lot c)), v12, v13, v14, v15, .un]) (by
    simp only [mSeq_ap, mAsg_ap, mIf_ap, mDrop_ap, mRet_ap, mNext_ap, mFor_ap, imRng_ap, imSeq_ap, tmB_ap, tmNot_ap, tmTru_ap, tmAnd_ap, tmOr_ap, tmYes_ap, e1_ap, e2_ap, eN_ap, lN_ap, eL_ap, lLst_ap, eCall_ap, aCons_ap, aNil_ap, eVar_ap, eC_ap, eAnd_ap, eOr_ap, eNot_ap, eIsi_ap, eIf_ap, List.set_cons_succ, List.set_cons_zero, List.getElem?_cons_zero, List.getElem?_cons_succ, bind_ok, calm_ok, gmName_ap, tru_bool, itemsOf_list, itemsOf_tuple, Bool.not_true, Bool.not_false, Bool.false_eq_true, if_false, if_true, endOf, hcm, fLen_listN]
    rfl)]
  have hl : eN fLen (aCons (eVar 9) aNil) [.dat (tupN s), .dat (tupN t), .dat (iD n), .dat P, v4, .dat C, .dat (tupN lot), v7, .dat (iD k), .dat (tupN c), v10, .dat (iD (inL lot c)), v12, v13, v14, v15, .un] = .ok (iD c.length, [.dat (tupN s), .dat (tupN t), .dat (iD n), .dat P, v4, .dat C, .dat (tupN lot), v7, .dat (iD k), .dat (tupN c), v10, .dat (iD (inL lot c)), v12, v13, v14, v15, .un]) := by simp only [mSeq_ap, mAsg_ap, mIf_ap, mDrop_ap, mRet_ap, mNext_ap, mFor_ap, imRng_ap, imSeq_ap, tmB_ap, tmNot_ap, tmTru_ap, tmAnd_ap, tmOr_ap, tmYes_ap, e1_ap, e2_ap, eN_ap, lN_ap, eL_ap, lLst_ap, eCall_ap, aCons_ap, aNil_ap, eVar_ap, eC_ap, eAnd_ap, eOr_ap, eNot_ap, eIsi_ap, eIf_ap, List.set_cons_succ, List.set_cons_zero, List.getElem?_cons_zero, List.getElem?_cons_succ, bind_ok, calm_ok, gmName_ap, tru_bool, itemsOf_list, itemsOf_tuple, Bool.not_true, Bool.not_false, Bool.false_eq_true, if_false, if_true, endOf, fLen_tupN]
  have he := eChain_N (a := eC (.int 0)) (b := eVar 11) (c := eN fLen (aCons (eVar 9) aNil)) (x := 0) (y := inL lot c) (z := c.length) (en := [.dat (tupN s), .dat (tupN t), .dat (iD n), .dat P, v4, .dat C, .dat (tupN lot), v7, .dat (iD k), .dat (tupN c), v10, .dat (iD (inL lot c)), v12, v13, v14, v15, .un]) rfl rfl hl
  have e1' : (PyData.int 1) = iD 1 := rfl
  have hcut : (decide (0 < inL lot c) && decide (inL lot c < c.length)) = cut lot c := rfl
  rw [mIf_ap, tmB_ap, he, bind_ok, hcut, bind_ok]
  dsimp only
  cases cut lot c with
  | false => rfl
  | true =>
    rw [if_pos rfl]
    simp only [mSeq_ap, mAsg_ap, mIf_ap, mDrop_ap, mRet_ap, mNext_ap, mFor_ap, imRng_ap, imSeq_ap, tmB_ap, tmNot_ap, tmTru_ap, tmAnd_ap, tmOr_ap, tmYes_ap, e1_ap, e2_ap, eN_ap, lN_ap, eL_ap, lLst_ap, eCall_ap, aCons_ap, aNil_ap, eVar_ap, eC_ap, eAnd_ap, eOr_ap, eNot_ap, eIsi_ap, eIf_ap, List.set_cons_succ, List.set_cons_zero, List.getElem?_cons_zero, List.getElem?_cons_succ, bind_ok, calm_ok, gmName_ap, tru_bool, itemsOf_list, itemsOf_tuple, Bool.not_true, Bool.not_false, Bool.false_eq_true, if_false, if_true, endOf, e1', fAdd_N]
theorem lots_step (W : Wd s t) {lot : List Nat} (hl : Lot s.length lot) {P : D} (v4 v7 v8 v9 v10 v11 v12 v13 v14 v15 : SV) : ∃ v8' v9' v10' v11', prLots [.dat (tupN s), .dat (tupN t), .dat (iD s.length), .dat P, v4, .dat (FD (clumps s.length (labels s.length (prs s t)))), .dat (tupN lot), v7, v8, v9, v10, v11, v12, v13, v14, v15, .un] = .ok (.nx, [.dat (tupN s), .dat (tupN t), .dat (iD s.length), .dat P, v4, .dat (FD (clumps s.length (labels s.length (prs s t)))), .dat (tupN lot), v7, v8', v9', v10', v11', v12, v13, v14, v15, .un]) := by
  have h6 := W.six
  have hcl : ∀ c ∈ clumps s.length (labels s.length (prs s t)), c.length ≤ 100 := fun c hc => by
    unfold clumps at hc
    obtain ⟨m, _, rfl⟩ := List.mem_map.mp hc
    unfold clump
    have := List.length_filter_le (fun h => decide (at0 (labels s.length (prs s t)) h = m)) (List.range s.length)
    rw [List.length_range] at this
    omega
  have hcut := cut_iff (n := s.length) (prs := prs s t) (fun p hp => prs_lt hp) (lot := lot)
  generalize hC : clumps s.length (labels s.length (prs s t)) = cl at hcl hcut
  obtain ⟨en', hf, v9', v11', rfl⟩ := for_items (gm := gmName 9) (b := prClump) (enc := tupN) (fun i en => ∃ v9 v11, en = [.dat (tupN s), .dat (tupN t), .dat (iD s.length), .dat P, v4, .dat (FD cl), .dat (tupN lot), v7, .dat (iD ((cl.take i).filter (cut lot)).length), v9, v10, v11, v12, v13, v14, v15, .un]) cl (k := 0) (en := [.dat (tupN s), .dat (tupN t), .dat (iD s.length), .dat P, v4, .dat (FD cl), .dat (tupN lot), v7, .dat (iD 0), v9, v10, v11, v12, v13, v14, v15, .un]) ⟨v9, v11, rfl⟩ (by
    rintro i hi en ⟨v9, v11, rfl⟩
    rw [Nat.zero_add]
    obtain ⟨v11', h⟩ := clump_step (s := s) (t := t) (n := s.length) (lot := lot) (c := cl[i]) (k := ((cl.take i).filter (cut lot)).length) (P := P) (C := FD cl) (hcl _ (List.getElem_mem hi)) v4 v7 v10 v11 v12 v13 v14 v15
    have er : ((cl.take (i + 1)).filter (cut lot)).length = ((cl.take i).filter (cut lot)).length + if cut lot cl[i] = true then 1 else 0 := by
      rw [List.take_succ_eq_append_getElem hi, List.filter_append, List.length_append]
      congr 1
      cases q : cut lot cl[i] <;> simp [q]
    rw [er]
    exact ⟨[.dat (tupN s), .dat (tupN t), .dat (iD s.length), .dat P, v4, .dat (FD cl), .dat (tupN lot), v7, .dat (iD ((cl.take i).filter (cut lot)).length), .dat (tupN cl[i]), v10, v11, v12, v13, v14, v15, .un], .nx, _, rfl, h, .inl rfl, _, v11', rfl⟩)
  rw [Nat.zero_add, List.take_length] at hf
  have hdue : decide ((cl.filter (cut lot)).length = 0) = !(prs s t).any (crosses lot) := by
    apply Bool.eq_iff_iff.mpr
    rw [decide_eq_true_eq, List.length_eq_zero_iff, List.filter_eq_nil_iff, Bool.not_eq_true', List.any_eq_false]
    constructor
    · intro f
      have := hcut.mp fun c hc => by simpa using f c hc
      intro p hp
      unfold crosses
      rw [this p hp]
      simp
    · intro f
      have := hcut.mpr fun p hp => by
        have := f p hp
        unfold crosses at this
        simpa using this
      intro c hc
      rw [this c hc]
      exact Bool.false_ne_true
  have hs := law_seam_ok W hl
  rw [seam_two W hl] at hs
  have hi := is_seam_ok W hl
  refine ⟨.dat (iD (cl.filter (cut lot)).length), v9', .dat (.bool (!(prs s t).any (crosses lot))), v11', ?_⟩
  have em : prLots = mSeq (mAsg (gmName 8) (eC (.int 0))) (mSeq (mFor (imSeq (eVar 5)) (gmName 9) prClump) (mSeq (mAsg (gmName 10) (eCall M__law_seam (aCons (eVar 0) (aCons (eVar 1) (aCons (eVar 6) aNil))))) (mIf (tmOr (tmB (e2 fNe (eVar 10) (e2 fEq (eVar 8) (eC (.int 0))))) (tmNot (tmTru (eCall M__law_same (aCons (eCall M_is_seam (aCons (eVar 0) (aCons (eVar 1) (aCons (eVar 6) aNil)))) (aCons (eVar 10) aNil)))))) (mRet (eC (.bool false))) mNext))) := rfl
  have hit : itemsOf (FD cl) = .ok (cl.map tupN) := rfl
  have e0 : (PyData.int 0) = iD 0 := rfl
  rw [em, mSeq_nx (en1 := [.dat (tupN s), .dat (tupN t), .dat (iD s.length), .dat P, v4, .dat (FD cl), .dat (tupN lot), v7, .dat (iD 0), v9, v10, v11, v12, v13, v14, v15, .un]) rfl]
  rw [mSeq_nx (en1 := [.dat (tupN s), .dat (tupN t), .dat (iD s.length), .dat P, v4, .dat (FD cl), .dat (tupN lot), v7, .dat (iD (cl.filter (cut lot)).length), v9', v10, v11', v12, v13, v14, v15, .un]) (by simp only [mSeq_ap, mAsg_ap, mIf_ap, mDrop_ap, mRet_ap, mNext_ap, mFor_ap, imRng_ap, imSeq_ap, tmB_ap, tmNot_ap, tmTru_ap, tmAnd_ap, tmOr_ap, tmYes_ap, e1_ap, e2_ap, eN_ap, lN_ap, eL_ap, lLst_ap, eCall_ap, aCons_ap, aNil_ap, eVar_ap, eC_ap, eAnd_ap, eOr_ap, eNot_ap, eIsi_ap, eIf_ap, List.set_cons_succ, List.set_cons_zero, List.getElem?_cons_zero, List.getElem?_cons_succ, bind_ok, calm_ok, gmName_ap, tru_bool, itemsOf_list, itemsOf_tuple, Bool.not_true, Bool.not_false, Bool.false_eq_true, if_false, if_true, endOf, hit, hf])]
  rw [mSeq_nx (en1 := [.dat (tupN s), .dat (tupN t), .dat (iD s.length), .dat P, v4, .dat (FD cl), .dat (tupN lot), v7, .dat (iD (cl.filter (cut lot)).length), v9', .dat (.bool (!(prs s t).any (crosses lot))), v11', v12, v13, v14, v15, .un]) (by simp only [mSeq_ap, mAsg_ap, mIf_ap, mDrop_ap, mRet_ap, mNext_ap, mFor_ap, imRng_ap, imSeq_ap, tmB_ap, tmNot_ap, tmTru_ap, tmAnd_ap, tmOr_ap, tmYes_ap, e1_ap, e2_ap, eN_ap, lN_ap, eL_ap, lLst_ap, eCall_ap, aCons_ap, aNil_ap, eVar_ap, eC_ap, eAnd_ap, eOr_ap, eNot_ap, eIsi_ap, eIf_ap, List.set_cons_succ, List.set_cons_zero, List.getElem?_cons_zero, List.getElem?_cons_succ, bind_ok, calm_ok, gmName_ap, tru_bool, itemsOf_list, itemsOf_tuple, Bool.not_true, Bool.not_false, Bool.false_eq_true, if_false, if_true, endOf, hs])]
  simp only [mSeq_ap, mAsg_ap, mIf_ap, mDrop_ap, mRet_ap, mNext_ap, mFor_ap, imRng_ap, imSeq_ap, tmB_ap, tmNot_ap, tmTru_ap, tmAnd_ap, tmOr_ap, tmYes_ap, e1_ap, e2_ap, eN_ap, lN_ap, eL_ap, lLst_ap, eCall_ap, aCons_ap, aNil_ap, eVar_ap, eC_ap, eAnd_ap, eOr_ap, eNot_ap, eIsi_ap, eIf_ap, List.set_cons_succ, List.set_cons_zero, List.getElem?_cons_zero, List.getElem?_cons_succ, bind_ok, calm_ok, gmName_ap, tru_bool, itemsOf_list, itemsOf_tuple, Bool.not_true, Bool.not_false, Bool.false_eq_true, if_false, if_true, endOf, e0, fEq_N, hdue, fNe_bool, bne_self_eq_false, hi, same_b]
theorem pairs_right_ok (W : Wd s t) : M__law_pairs_right [tupN s, tupN t] = .ok (.bool true) := by
  have h6 := W.six
  have hpl := prs_len W
  have e : M__law_pairs_right [tupN s, tupN t] = ((endOf (m__law_pairs_right [.dat (tupN s), .dat (tupN t), .un, .un, .un, .un, .un, .un, .un, .un, .un, .un, .un, .un, .un, .un, .un])).bind fun p => .ok p.1) := rfl
  rw [e]
  have em : m__law_pairs_right = mSeq (mAsg (gmName 2) (eN fLen (aCons (eVar 0) aNil))) (mSeq (mAsgO 3 (lLst aNil)) (mSeq (mFor (imRng rng1 (aCons (eVar 2) aNil)) (gmName 4) prRow) (mSeq (mAsg (gmName 5) (eCall M__law_classes (aCons (eVar 2) (aCons (eVar 3) aNil)))) (mSeq (mIf (tmOr (tmNot (tmTru (eCall M__law_same (aCons (eCall M_knit_pairs (aCons (eVar 0) (aCons (eVar 1) aNil))) (aCons (eN fTuple (aCons (eVar 3) aNil)) aNil))))) (tmNot (tmTru (eCall M__law_same (aCons (eCall M_clumps_of (aCons (eVar 0) (aCons (eVar 1) aNil))) (aCons (eVar 5) aNil)))))) (mRet (eC (.bool false))) mNext) (mSeq (mFor (imSeq (eCall M__law_lots (aCons (eVar 2) aNil))) (gmName 6) prLots) (mRet (eC (.bool true)))))))) := rfl
  obtain ⟨en1, hf1, v4, v7, v12, v13, v14, v15, rfl⟩ := for_rng (j := 4) (n := s.length) (b := prRow) (fun i en => ∃ v4 v7 v12 v13 v14 v15, en = [.dat (tupN s), .dat (tupN t), .dat (iD s.length), .own (.lst (((List.range i).flatMap (rowP s t)).map pD)), v4, .un, .un, v7, .un, .un, .un, .un, v12, v13, v14, v15, .un]) (en := [.dat (tupN s), .dat (tupN t), .dat (iD s.length), .own (.lst []), .un, .un, .un, .un, .un, .un, .un, .un, .un, .un, .un, .un, .un]) ⟨_, _, _, _, _, _, rfl⟩ (by
    rintro i en hi ⟨v4, v7, v12, v13, v14, v15, rfl⟩
    have hl := flat_len (rowP s t) s.length (List.range i) fun x _ => rowP_len x
    rw [List.length_range] at hl
    have : i * s.length ≤ 6 * 6 := Nat.mul_le_mul (by omega) h6
    obtain ⟨v7', v12', v13', v14', v15', h⟩ := row_ok W hi (acc := (List.range i).flatMap (rowP s t)) (by omega) v7 v12 v13 v14 v15
    have er : (List.range (i + 1)).flatMap (rowP s t) = (List.range i).flatMap (rowP s t) ++ rowP s t i := by rw [List.range_succ, List.flatMap_append, List.flatMap_singleton]
    rw [er]
    exact ⟨.nx, _, h, .inl rfl, _, v7', v12', v13', v14', v15', rfl⟩)
  have hP : (List.range s.length).flatMap (rowP s t) = prs s t := rfl
  rw [hP] at hf1
  have hcls := classes_ok h6 (ps := prs s t) fun p hp => prs_lt hp
  have hcl : ∀ c ∈ clumps s.length (labels s.length (prs s t)), c.length ≤ 1000 := fun c hc => by
    unfold clumps at hc
    obtain ⟨m, _, rfl⟩ := List.mem_map.mp hc
    unfold clump
    have := List.length_filter_le (fun h => decide (at0 (labels s.length (prs s t)) h = m)) (List.range s.length)
    rw [List.length_range] at this
    omega
  have hcn : (clumps s.length (labels s.length (prs s t))).length ≤ 1000 := by
    unfold clumps
    rw [List.length_map]
    have := List.length_filter_le (fun m => decide (m ∈ labels s.length (prs s t))) (List.range s.length)
    rw [List.length_range] at this
    omega
  have hsm := same_FD (clumps s.length (labels s.length (prs s t))) hcn hcl
  have hkp := knit_pairs_ok W
  have hco := clumps_ok W
  have hsp := same_FD ((prs s t).map fun p => [p.1, p.2]) (by rw [List.length_map]; omega) (fun a ha => by
    obtain ⟨p, _, rfl⟩ := List.mem_map.mp ha
    show 2 ≤ 1000
    omega)
  have htp : fTuple [.list ((prs s t).map pD)] = .ok (FD ((prs s t).map fun p => [p.1, p.2])) := by
    show Rs.ok (PyData.tuple ((prs s t).map pD)) = _
    unfold FD
    rw [List.map_map]
    rfl
  generalize hC : FD (clumps s.length (labels s.length (prs s t))) = C at hcls hsm hco
  obtain ⟨en2, hf2, v6, v8, v9, v10, v11, rfl⟩ := for_items (gm := gmName 6) (b := prLots) (enc := tupN) (fun _ en => ∃ v6 v8 v9 v10 v11, en = [.dat (tupN s), .dat (tupN t), .dat (iD s.length), .dat (.list ((prs s t).map pD)), v4, .dat C, v6, v7, v8, v9, v10, v11, v12, v13, v14, v15, .un]) (lotsL s.length) (k := 0) (en := [.dat (tupN s), .dat (tupN t), .dat (iD s.length), .dat (.list ((prs s t).map pD)), v4, .dat C, .un, v7, .un, .un, .un, .un, v12, v13, v14, v15, .un]) ⟨_, _, _, _, _, rfl⟩ (by
    rintro i hi en ⟨v6, v8, v9, v10, v11, rfl⟩
    obtain ⟨v8', v9', v10', v11', h⟩ := lots_step W (lotsL_lot _ _ (List.getElem_mem hi)) (P := .list ((prs s t).map pD)) v4 v7 v8 v9 v10 v11 v12 v13 v14 v15
    rw [hC] at h
    exact ⟨[.dat (tupN s), .dat (tupN t), .dat (iD s.length), .dat (.list ((prs s t).map pD)), v4, .dat C, .dat (tupN (lotsL s.length)[i]), v7, v8, v9, v10, v11, v12, v13, v14, v15, .un], .nx, _, rfl, h, .inl rfl, _, v8', v9', v10', v11', rfl⟩)
  rw [em, mSeq_nx (en1 := [.dat (tupN s), .dat (tupN t), .dat (iD s.length), .un, .un, .un, .un, .un, .un, .un, .un, .un, .un, .un, .un, .un, .un]) (by simp only [mSeq_ap, mAsg_ap, mIf_ap, mDrop_ap, mRet_ap, mNext_ap, mFor_ap, imRng_ap, imSeq_ap, tmB_ap, tmNot_ap, tmTru_ap, tmAnd_ap, tmOr_ap, tmYes_ap, e1_ap, e2_ap, eN_ap, lN_ap, eL_ap, lLst_ap, eCall_ap, aCons_ap, aNil_ap, eVar_ap, eC_ap, eAnd_ap, eOr_ap, eNot_ap, eIsi_ap, eIf_ap, List.set_cons_succ, List.set_cons_zero, List.getElem?_cons_zero, List.getElem?_cons_succ, bind_ok, calm_ok, gmName_ap, tru_bool, itemsOf_list, itemsOf_tuple, Bool.not_true, Bool.not_false, Bool.false_eq_true, if_false, if_true, endOf, fLen_tupN])]
  rw [mSeq_nx (en1 := [.dat (tupN s), .dat (tupN t), .dat (iD s.length), .own (.lst []), .un, .un, .un, .un, .un, .un, .un, .un, .un, .un, .un, .un, .un]) rfl]
  rw [mSeq_nx (en1 := [.dat (tupN s), .dat (tupN t), .dat (iD s.length), .own (.lst ((prs s t).map pD)), v4, .un, .un, v7, .un, .un, .un, .un, v12, v13, v14, v15, .un]) (by simp only [mSeq_ap, mAsg_ap, mIf_ap, mDrop_ap, mRet_ap, mNext_ap, mFor_ap, imRng_ap, imSeq_ap, tmB_ap, tmNot_ap, tmTru_ap, tmAnd_ap, tmOr_ap, tmYes_ap, e1_ap, e2_ap, eN_ap, lN_ap, eL_ap, lLst_ap, eCall_ap, aCons_ap, aNil_ap, eVar_ap, eC_ap, eAnd_ap, eOr_ap, eNot_ap, eIsi_ap, eIf_ap, List.set_cons_succ, List.set_cons_zero, List.getElem?_cons_zero, List.getElem?_cons_succ, bind_ok, calm_ok, gmName_ap, tru_bool, itemsOf_list, itemsOf_tuple, Bool.not_true, Bool.not_false, Bool.false_eq_true, if_false, if_true, endOf, rng1_nat (by omega : s.length ≤ 100000), hf1])]
  rw [mSeq_nx (en1 := [.dat (tupN s), .dat (tupN t), .dat (iD s.length), .dat (.list ((prs s t).map pD)), v4, .dat C, .un, v7, .un, .un, .un, .un, v12, v13, v14, v15, .un]) (by
    have e3 : eVar 3 [.dat (tupN s), .dat (tupN t), .dat (iD s.length), .own (.lst ((prs s t).map pD)), v4, .un, .un, v7, .un, .un, .un, .un, v12, v13, v14, v15, .un] = .ok (.list ((prs s t).map pD), [.dat (tupN s), .dat (tupN t), .dat (iD s.length), .dat (.list ((prs s t).map pD)), v4, .un, .un, v7, .un, .un, .un, .un, v12, v13, v14, v15, .un]) := rfl
    have e2 : eVar 2 [.dat (tupN s), .dat (tupN t), .dat (iD s.length), .own (.lst ((prs s t).map pD)), v4, .un, .un, v7, .un, .un, .un, .un, v12, v13, v14, v15, .un] = .ok (iD s.length, [.dat (tupN s), .dat (tupN t), .dat (iD s.length), .own (.lst ((prs s t).map pD)), v4, .un, .un, v7, .un, .un, .un, .un, v12, v13, v14, v15, .un]) := rfl
    rw [mAsg_ap, eCall_ap, aCons_ap, e2, bind_ok, aCons_ap, e3, bind_ok, aNil_ap, bind_ok, bind_ok, bind_ok]
    dsimp only
    rw [hcls, bind_ok]
    rfl)]
  rw [mSeq_nx (en1 := [.dat (tupN s), .dat (tupN t), .dat (iD s.length), .dat (.list ((prs s t).map pD)), v4, .dat C, .un, v7, .un, .un, .un, .un, v12, v13, v14, v15, .un]) (by
    simp only [mSeq_ap, mAsg_ap, mIf_ap, mDrop_ap, mRet_ap, mNext_ap, mFor_ap, imRng_ap, imSeq_ap, tmB_ap, tmNot_ap, tmTru_ap, tmAnd_ap, tmOr_ap, tmYes_ap, e1_ap, e2_ap, eN_ap, lN_ap, eL_ap, lLst_ap, eCall_ap, aCons_ap, aNil_ap, eVar_ap, eC_ap, eAnd_ap, eOr_ap, eNot_ap, eIsi_ap, eIf_ap, List.set_cons_succ, List.set_cons_zero, List.getElem?_cons_zero, List.getElem?_cons_succ, bind_ok, calm_ok, gmName_ap, tru_bool, itemsOf_list, itemsOf_tuple, Bool.not_true, Bool.not_false, Bool.false_eq_true, if_false, if_true, endOf, hkp, htp, hsp, hco, hsm])]
  have hlots := lots_ok h6
  rw [mSeq_nx (en1 := [.dat (tupN s), .dat (tupN t), .dat (iD s.length), .dat (.list ((prs s t).map pD)), v4, .dat C, v6, v7, v8, v9, v10, v11, v12, v13, v14, v15, .un]) (by
    simp only [mSeq_ap, mAsg_ap, mIf_ap, mDrop_ap, mRet_ap, mNext_ap, mFor_ap, imRng_ap, imSeq_ap, tmB_ap, tmNot_ap, tmTru_ap, tmAnd_ap, tmOr_ap, tmYes_ap, e1_ap, e2_ap, eN_ap, lN_ap, eL_ap, lLst_ap, eCall_ap, aCons_ap, aNil_ap, eVar_ap, eC_ap, eAnd_ap, eOr_ap, eNot_ap, eIsi_ap, eIf_ap, List.set_cons_succ, List.set_cons_zero, List.getElem?_cons_zero, List.getElem?_cons_succ, bind_ok, calm_ok, gmName_ap, tru_bool, itemsOf_list, itemsOf_tuple, Bool.not_true, Bool.not_false, Bool.false_eq_true, if_false, if_true, endOf, hlots, hf2])]
  rfl
end
end K07
end

section
set_option Elab.async false
set_option linter.all false
set_option maxRecDepth 100000
set_option maxHeartbeats 4000000
/-! K07N: the row of numbers, the sizes. -/
namespace K07
open PySem PySem.Spec PyProof.Rows L2 Mir Dg
theorem fMod_I (z : Int) {m : Nat} (h : 0 < m) : fMod (.int z) (.int (m : Int)) = .ok (iD (z % (m : Int)).toNat) := by
  show (if okMod z (m : Int) = true then Rs.ok (PyData.int (z % (m : Int))) else .stk) = _
  rw [if_pos (show okMod z (m : Int) = true from decide_eq_true (by omega))]
  have : 0 ≤ z % (m : Int) := Int.emod_nonneg _ (by omega)
  unfold iD
  rw [Int.toNat_of_nonneg this]
theorem mod_lt (z : Int) {m : Nat} (h : 0 < m) : (z % (m : Int)).toNat < m := by
  have h1 : 0 ≤ z % (m : Int) := Int.emod_nonneg _ (by omega)
  have h2 : z % (m : Int) < (m : Int) := Int.emod_lt_of_pos _ (by omega)
  omega
theorem fInt_N (n : Nat) : fInt [iD n] = .ok (iD n) := rfl
structure RowOk (r : List Nat) (k : Nat) : Prop where
  le : r.length ≤ k
  lt : ∀ x ∈ r, x < 5040
theorem RowOk.snoc {r : List Nat} {k x : Nat} (h : RowOk r k) (hx : x < 5040) : RowOk (r ++ [x]) (k + 1) := ⟨by rw [List.length_append]; have := h.le; show _ + 1 ≤ _; omega, fun y hy => by
  rcases List.mem_append.mp hy with hy | hy
  · exact h.lt y hy
  · rw [List.mem_singleton] at hy; subst hy; exact hx⟩
theorem RowOk.mono {r : List Nat} {k l : Nat} (h : RowOk r k) (hk : k ≤ l) : RowOk r l := ⟨Nat.le_trans h.le hk, h.lt⟩
def rwBig : Sm := mIf (tmB (e2 fGt (eVar 6) (eC (.int 0)))) (mSeq (mApp 3 (e2 fMod (eN fInt (aCons (eVar 6) aNil)) (eC (.int 5040)))) (mAsg (gmName 6) (e2 fDiv (eVar 6) (eC (.int 5040))))) mNext
def rwCell : Sm := mSeq (mAsg (gmName 2) (e2 fMod (eN fInt (aCons (e2 fAdd (e2 fMul (eVar 2) (eC (.int 50021))) (eVar 4)) aNil)) (eC (.int 2147483629)))) (mSeq (mAsg (gmName 6) (eN fAbs (aCons (eVar 4) aNil))) (mIf (tmB (e2 fGe (eVar 6) (eC (.int 1000000000000000000)))) (mFor (imRng rng1 (aCons (eC (.int 60)) aNil)) (gmName 5) rwBig) mNext))
def rwMix : Sm := mSeq (mAsg (gmName 2) (e2 fMod (eN fInt (aCons (e2 fAdd (e2 fAdd (e2 fMul (eVar 2) (eC (.int 39373))) (eC (.int 77))) (eVar 5)) aNil)) (eC (.int 2147483629)))) (mSeq (mAsg (gmName 7) (e2 fMod (eN fInt (aCons (e2 fAdd (e2 fAdd (e2 fMul (eVar 2) (eVar 2)) (e2 fDiv (eVar 2) (eC (.int 6421)))) (eC (.int 5))) aNil)) (eC (.int 2147483587)))) (mApp 3 (e2 fMod (eN fInt (aCons (e2 fDiv (eVar 7) (eC (.int 83))) aNil)) (eC (.int 5040)))))
theorem big_ok {S M : D} {r : List Nat} {k b : Nat} (h : RowOk r k) (hk : k ≤ 50000) (v2 v4 v5 v7 : SV) : ∃ r' b', rwBig [.dat S, .dat M, v2, .own (.lst (r.map iD)), v4, v5, .dat (iD b), v7] = .ok (.nx, [.dat S, .dat M, v2, .own (.lst (r'.map iD)), v4, v5, .dat (iD b'), v7]) ∧ RowOk r' (k + 1) := by
  have hg : tmB (e2 fGt (eVar 6) (eC (.int 0))) [.dat S, .dat M, v2, .own (.lst (r.map iD)), v4, v5, .dat (iD b), v7] = .ok (decide (0 < b), [.dat S, .dat M, v2, .own (.lst (r.map iD)), v4, v5, .dat (iD b), v7]) := by
    have : fGt (iD b) (.int 0) = .ok (.bool (decide (0 < b))) := fGt_N b 0
    simp only [mSeq_ap, mAsg_ap, mIf_ap, mDrop_ap, mRet_ap, mNext_ap, mFor_ap, imRng_ap, imSeq_ap, tmB_ap, tmNot_ap, tmTru_ap, tmAnd_ap, tmOr_ap, tmYes_ap, e1_ap, e2_ap, eN_ap, lN_ap, eL_ap, lLst_ap, eCall_ap, aCons_ap, aNil_ap, eVar_ap, eC_ap, eAnd_ap, eOr_ap, eNot_ap, eIsi_ap, eIf_ap, List.set_cons_succ, List.set_cons_zero, List.getElem?_cons_zero, List.getElem?_cons_succ, bind_ok, calm_ok, gmName_ap, tru_bool, itemsOf_list, itemsOf_tuple, Bool.not_true, Bool.not_false, Bool.false_eq_true, if_false, if_true, endOf, this]
  by_cases q : 0 < b
  · refine ⟨r ++ [b % 5040], b / 5040, ?_, h.snoc (Nat.mod_lt _ (by omega))⟩
    unfold rwBig
    rw [mIf_ap, hg, bind_ok, decide_eq_true q, if_pos rfl]
    have e5 : (PyData.int 5040) = iD 5040 := rfl
    have hl := h.le
    rw [mSeq_nx (en1 := [.dat S, .dat M, v2, .own (.lst ((r ++ [b % 5040]).map iD)), v4, v5, .dat (iD b), v7]) (by
      rw [mApp_ok (ds := r.map iD) (d := iD (b % 5040)) rfl (by
        simp only [mSeq_ap, mAsg_ap, mIf_ap, mDrop_ap, mRet_ap, mNext_ap, mFor_ap, imRng_ap, imSeq_ap, tmB_ap, tmNot_ap, tmTru_ap, tmAnd_ap, tmOr_ap, tmYes_ap, e1_ap, e2_ap, eN_ap, lN_ap, eL_ap, lLst_ap, eCall_ap, aCons_ap, aNil_ap, eVar_ap, eC_ap, eAnd_ap, eOr_ap, eNot_ap, eIsi_ap, eIf_ap, List.set_cons_succ, List.set_cons_zero, List.getElem?_cons_zero, List.getElem?_cons_succ, bind_ok, calm_ok, gmName_ap, tru_bool, itemsOf_list, itemsOf_tuple, Bool.not_true, Bool.not_false, Bool.false_eq_true, if_false, if_true, endOf, fInt_N, e5, fMod_N (by omega : 0 < 5040)]) (by rw [List.length_map]; show _ < 100000; omega), List.map_append]
      rfl)]
    simp only [mSeq_ap, mAsg_ap, mIf_ap, mDrop_ap, mRet_ap, mNext_ap, mFor_ap, imRng_ap, imSeq_ap, tmB_ap, tmNot_ap, tmTru_ap, tmAnd_ap, tmOr_ap, tmYes_ap, e1_ap, e2_ap, eN_ap, lN_ap, eL_ap, lLst_ap, eCall_ap, aCons_ap, aNil_ap, eVar_ap, eC_ap, eAnd_ap, eOr_ap, eNot_ap, eIsi_ap, eIf_ap, List.set_cons_succ, List.set_cons_zero, List.getElem?_cons_zero, List.getElem?_cons_succ, bind_ok, calm_ok, gmName_ap, tru_bool, itemsOf_list, itemsOf_tuple, Bool.not_true, Bool.not_false, Bool.false_eq_true, if_false, if_true, endOf, e5, fDiv_N (by omega : 0 < 5040) (by omega : 5040 < 2 ^ 62)]
  · refine ⟨r, b, ?_, h.mono (by omega)⟩
    unfold rwBig
    rw [mIf_ap, hg, bind_ok, decide_eq_false q, if_neg Bool.false_ne_true]
    rfl
theorem cell_ok {S M : D} {r : List Nat} {k seed : Nat} {c : Int} (h : RowOk r k) (hk : k ≤ 40000) (hs : seed < 2147483629) (v5 v6 v7 : SV) : ∃ r' seed' v5' v6', rwCell [.dat S, .dat M, .dat (iD seed), .own (.lst (r.map iD)), .dat (.int c), v5, v6, v7] = .ok (.nx, [.dat S, .dat M, .dat (iD seed'), .own (.lst (r'.map iD)), .dat (.int c), v5', v6', v7]) ∧ RowOk r' (k + 60) ∧ seed' < 2147483629 := by
  have em : rwCell = mSeq (mAsg (gmName 2) (e2 fMod (eN fInt (aCons (e2 fAdd (e2 fMul (eVar 2) (eC (.int 50021))) (eVar 4)) aNil)) (eC (.int 2147483629)))) (mSeq (mAsg (gmName 6) (eN fAbs (aCons (eVar 4) aNil))) (mIf (tmB (e2 fGe (eVar 6) (eC (.int 1000000000000000000)))) (mFor (imRng rng1 (aCons (eC (.int 60)) aNil)) (gmName 5) rwBig) mNext)) := rfl
  generalize hz : ((seed * 50021 : Nat) : Int) + c = z
  have hs' := mod_lt z (m := 2147483629) (by omega)
  have ha : fAbs [.int c] = .ok (iD c.natAbs) := by
    show Rs.ok (PyData.int (if c < 0 then -c else c)) = _
    by_cases q : c < 0
    · rw [if_pos q]; unfold iD; congr 2; omega
    · rw [if_neg q]; unfold iD; congr 2; omega
  have e1' : (PyData.int 50021) = iD 50021 := rfl
  have e2' : fMod (.int z) (.int 2147483629) = .ok (iD (z % (2147483629 : Nat)).toNat) := fMod_I z (m := 2147483629) (by omega)
  have s1 : mAsg (gmName 2) (e2 fMod (eN fInt (aCons (e2 fAdd (e2 fMul (eVar 2) (eC (.int 50021))) (eVar 4)) aNil)) (eC (.int 2147483629))) [.dat S, .dat M, .dat (iD seed), .own (.lst (r.map iD)), .dat (.int c), v5, v6, v7] = .ok (.nx, [.dat S, .dat M, .dat (iD (z % (2147483629 : Nat)).toNat), .own (.lst (r.map iD)), .dat (.int c), v5, v6, v7]) := by
    have had : fAdd (iD (seed * 50021)) (.int c) = .ok (.int z) := by rw [← hz]; rfl
    simp only [mSeq_ap, mAsg_ap, mIf_ap, mDrop_ap, mRet_ap, mNext_ap, mFor_ap, imRng_ap, imSeq_ap, tmB_ap, tmNot_ap, tmTru_ap, tmAnd_ap, tmOr_ap, tmYes_ap, e1_ap, e2_ap, eN_ap, lN_ap, eL_ap, lLst_ap, eCall_ap, aCons_ap, aNil_ap, eVar_ap, eC_ap, eAnd_ap, eOr_ap, eNot_ap, eIsi_ap, eIf_ap, List.set_cons_succ, List.set_cons_zero, List.getElem?_cons_zero, List.getElem?_cons_succ, bind_ok, calm_ok, gmName_ap, tru_bool, itemsOf_list, itemsOf_tuple, Bool.not_true, Bool.not_false, Bool.false_eq_true, if_false, if_true, endOf, e1', fMul_N (by omega : seed < 2 ^ 62) (by omega : 50021 < 2 ^ 62), had, fInt_int, e2']
  have s2 : mAsg (gmName 6) (eN fAbs (aCons (eVar 4) aNil)) [.dat S, .dat M, .dat (iD (z % (2147483629 : Nat)).toNat), .own (.lst (r.map iD)), .dat (.int c), v5, v6, v7] = .ok (.nx, [.dat S, .dat M, .dat (iD (z % (2147483629 : Nat)).toNat), .own (.lst (r.map iD)), .dat (.int c), v5, .dat (iD c.natAbs), v7]) := by
    simp only [mSeq_ap, mAsg_ap, mIf_ap, mDrop_ap, mRet_ap, mNext_ap, mFor_ap, imRng_ap, imSeq_ap, tmB_ap, tmNot_ap, tmTru_ap, tmAnd_ap, tmOr_ap, tmYes_ap, e1_ap, e2_ap, eN_ap, lN_ap, eL_ap, lLst_ap, eCall_ap, aCons_ap, aNil_ap, eVar_ap, eC_ap, eAnd_ap, eOr_ap, eNot_ap, eIsi_ap, eIf_ap, List.set_cons_succ, List.set_cons_zero, List.getElem?_cons_zero, List.getElem?_cons_succ, bind_ok, calm_ok, gmName_ap, tru_bool, itemsOf_list, itemsOf_tuple, Bool.not_true, Bool.not_false, Bool.false_eq_true, if_false, if_true, endOf, ha]
  generalize (z % (2147483629 : Nat)).toNat = sd at hs' s1 s2
  have hg : tmB (e2 fGe (eVar 6) (eC (.int 1000000000000000000))) [.dat S, .dat M, .dat (iD sd), .own (.lst (r.map iD)), .dat (.int c), v5, .dat (iD c.natAbs), v7] = .ok (decide ((1000000000000000000 : Int) ≤ (c.natAbs : Int)), [.dat S, .dat M, .dat (iD sd), .own (.lst (r.map iD)), .dat (.int c), v5, .dat (iD c.natAbs), v7]) := by
    have : fGe (iD c.natAbs) (.int 1000000000000000000) = .ok (.bool (decide ((1000000000000000000 : Int) ≤ (c.natAbs : Int)))) := fGe_int _ _
    simp only [mSeq_ap, mAsg_ap, mIf_ap, mDrop_ap, mRet_ap, mNext_ap, mFor_ap, imRng_ap, imSeq_ap, tmB_ap, tmNot_ap, tmTru_ap, tmAnd_ap, tmOr_ap, tmYes_ap, e1_ap, e2_ap, eN_ap, lN_ap, eL_ap, lLst_ap, eCall_ap, aCons_ap, aNil_ap, eVar_ap, eC_ap, eAnd_ap, eOr_ap, eNot_ap, eIsi_ap, eIf_ap, List.set_cons_succ, List.set_cons_zero, List.getElem?_cons_zero, List.getElem?_cons_succ, bind_ok, calm_ok, gmName_ap, tru_bool, itemsOf_list, itemsOf_tuple, Bool.not_true, Bool.not_false, Bool.false_eq_true, if_false, if_true, endOf, this]
  by_cases q : (1000000000000000000 : Int) ≤ (c.natAbs : Int)
  · obtain ⟨en', hf, r', b', v5', rfl, h'⟩ := for_rng (j := 5) (n := 60) (b := rwBig) (fun i en => ∃ r' b' v5, en = [.dat S, .dat M, .dat (iD sd), .own (.lst (r'.map iD)), .dat (.int c), v5, .dat (iD b'), v7] ∧ RowOk r' (k + i)) (en := [.dat S, .dat M, .dat (iD sd), .own (.lst (r.map iD)), .dat (.int c), v5, .dat (iD c.natAbs), v7]) ⟨r, c.natAbs, v5, rfl, h⟩ (by
      rintro i en hi ⟨r1, b1, v5, rfl, h1⟩
      obtain ⟨r2, b2, h2, h3⟩ := big_ok (S := S) (M := M) (b := b1) h1 (by omega) (.dat (iD sd)) (.dat (.int c)) (.dat (iD i)) v7
      exact ⟨.nx, _, h2, .inl rfl, r2, b2, .dat (iD i), rfl, h3⟩)
    have h60 : rng1 [.int 60] = .ok ((List.range 60).map fun i : Nat => PyData.int (i : Nat)) := rng1_nat (n := 60) (by omega)
    refine ⟨r', sd, v5', .dat (iD b'), ?_, h', hs'⟩
    rw [em, mSeq_nx s1, mSeq_nx s2, mIf_ap, hg, bind_ok, decide_eq_true q, if_pos rfl]
    simp only [mSeq_ap, mAsg_ap, mIf_ap, mDrop_ap, mRet_ap, mNext_ap, mFor_ap, imRng_ap, imSeq_ap, tmB_ap, tmNot_ap, tmTru_ap, tmAnd_ap, tmOr_ap, tmYes_ap, e1_ap, e2_ap, eN_ap, lN_ap, eL_ap, lLst_ap, eCall_ap, aCons_ap, aNil_ap, eVar_ap, eC_ap, eAnd_ap, eOr_ap, eNot_ap, eIsi_ap, eIf_ap, List.set_cons_succ, List.set_cons_zero, List.getElem?_cons_zero, List.getElem?_cons_succ, bind_ok, calm_ok, gmName_ap, tru_bool, itemsOf_list, itemsOf_tuple, Bool.not_true, Bool.not_false, Bool.false_eq_true, if_false, if_true, endOf, h60, hf]
  · refine ⟨r, sd, v5, .dat (iD c.natAbs), ?_, h.mono (by omega), hs'⟩
    rw [em, mSeq_nx s1, mSeq_nx s2, mIf_ap, hg, bind_ok, decide_eq_false q, if_neg Bool.false_ne_true]
    rfl
theorem mix_ok {S M : D} {r : List Nat} {k seed i : Nat} (h : RowOk r k) (hk : k ≤ 50000) (hs : seed < 2147483629) (hi : i < 1000) (v4 v6 v7 : SV) : ∃ x seed' v7', rwMix [.dat S, .dat M, .dat (iD seed), .own (.lst (r.map iD)), v4, .dat (iD i), v6, v7] = .ok (.nx, [.dat S, .dat M, .dat (iD seed'), .own (.lst ((r ++ [x]).map iD)), v4, .dat (iD i), v6, v7']) ∧ x < 5040 ∧ seed' < 2147483629 := by
  have em : rwMix = mSeq (mAsg (gmName 2) (e2 fMod (eN fInt (aCons (e2 fAdd (e2 fAdd (e2 fMul (eVar 2) (eC (.int 39373))) (eC (.int 77))) (eVar 5)) aNil)) (eC (.int 2147483629)))) (mSeq (mAsg (gmName 7) (e2 fMod (eN fInt (aCons (e2 fAdd (e2 fAdd (e2 fMul (eVar 2) (eVar 2)) (e2 fDiv (eVar 2) (eC (.int 6421)))) (eC (.int 5))) aNil)) (eC (.int 2147483587)))) (mApp 3 (e2 fMod (eN fInt (aCons (e2 fDiv (eVar 7) (eC (.int 83))) aNil)) (eC (.int 5040))))) := rfl
  have n1 : (PyData.int 39373) = iD 39373 := rfl
  have n2 : (PyData.int 77) = iD 77 := rfl
  have n3 : (PyData.int 2147483629) = iD 2147483629 := rfl
  have n4 : (PyData.int 6421) = iD 6421 := rfl
  have n5 : (PyData.int 5) = iD 5 := rfl
  have n6 : (PyData.int 2147483587) = iD 2147483587 := rfl
  have n7 : (PyData.int 83) = iD 83 := rfl
  have n8 : (PyData.int 5040) = iD 5040 := rfl
  have s1 : mAsg (gmName 2) (e2 fMod (eN fInt (aCons (e2 fAdd (e2 fAdd (e2 fMul (eVar 2) (eC (.int 39373))) (eC (.int 77))) (eVar 5)) aNil)) (eC (.int 2147483629))) [.dat S, .dat M, .dat (iD seed), .own (.lst (r.map iD)), v4, .dat (iD i), v6, v7] = .ok (.nx, [.dat S, .dat M, .dat (iD ((seed * 39373 + 77 + i) % 2147483629)), .own (.lst (r.map iD)), v4, .dat (iD i), v6, v7]) := by
    simp only [mSeq_ap, mAsg_ap, mIf_ap, mDrop_ap, mRet_ap, mNext_ap, mFor_ap, imRng_ap, imSeq_ap, tmB_ap, tmNot_ap, tmTru_ap, tmAnd_ap, tmOr_ap, tmYes_ap, e1_ap, e2_ap, eN_ap, lN_ap, eL_ap, lLst_ap, eCall_ap, aCons_ap, aNil_ap, eVar_ap, eC_ap, eAnd_ap, eOr_ap, eNot_ap, eIsi_ap, eIf_ap, List.set_cons_succ, List.set_cons_zero, List.getElem?_cons_zero, List.getElem?_cons_succ, bind_ok, calm_ok, gmName_ap, tru_bool, itemsOf_list, itemsOf_tuple, Bool.not_true, Bool.not_false, Bool.false_eq_true, if_false, if_true, endOf, n1, n2, n3, fMul_N (by omega : seed < 2 ^ 62) (by omega : 39373 < 2 ^ 62), fAdd_N, fInt_N, fMod_N (by omega : 0 < 2147483629)]
  have hs' : (seed * 39373 + 77 + i) % 2147483629 < 2147483629 := Nat.mod_lt _ (by omega)
  generalize (seed * 39373 + 77 + i) % 2147483629 = sd at s1 hs'
  refine ⟨(sd * sd + sd / 6421 + 5) % 2147483587 / 83 % 5040, sd, .dat (iD ((sd * sd + sd / 6421 + 5) % 2147483587)), ?_, Nat.mod_lt _ (by omega), hs'⟩
  rw [em, mSeq_nx s1]
  rw [mSeq_nx (en1 := [.dat S, .dat M, .dat (iD sd), .own (.lst (r.map iD)), v4, .dat (iD i), v6, .dat (iD ((sd * sd + sd / 6421 + 5) % 2147483587))]) (by
    simp only [mSeq_ap, mAsg_ap, mIf_ap, mDrop_ap, mRet_ap, mNext_ap, mFor_ap, imRng_ap, imSeq_ap, tmB_ap, tmNot_ap, tmTru_ap, tmAnd_ap, tmOr_ap, tmYes_ap, e1_ap, e2_ap, eN_ap, lN_ap, eL_ap, lLst_ap, eCall_ap, aCons_ap, aNil_ap, eVar_ap, eC_ap, eAnd_ap, eOr_ap, eNot_ap, eIsi_ap, eIf_ap, List.set_cons_succ, List.set_cons_zero, List.getElem?_cons_zero, List.getElem?_cons_succ, bind_ok, calm_ok, gmName_ap, tru_bool, itemsOf_list, itemsOf_tuple, Bool.not_true, Bool.not_false, Bool.false_eq_true, if_false, if_true, endOf, n4, n5, n6, fMul_N (by omega : sd < 2 ^ 62) (by omega : sd < 2 ^ 62), fDiv_N (by omega : 0 < 6421) (by omega : 6421 < 2 ^ 62), fAdd_N, fInt_N, fMod_N (by omega : 0 < 2147483587)])]
  have hl := h.le
  rw [mApp_ok (ds := r.map iD) (d := iD ((sd * sd + sd / 6421 + 5) % 2147483587 / 83 % 5040)) rfl (by
    simp only [mSeq_ap, mAsg_ap, mIf_ap, mDrop_ap, mRet_ap, mNext_ap, mFor_ap, imRng_ap, imSeq_ap, tmB_ap, tmNot_ap, tmTru_ap, tmAnd_ap, tmOr_ap, tmYes_ap, e1_ap, e2_ap, eN_ap, lN_ap, eL_ap, lLst_ap, eCall_ap, aCons_ap, aNil_ap, eVar_ap, eC_ap, eAnd_ap, eOr_ap, eNot_ap, eIsi_ap, eIf_ap, List.set_cons_succ, List.set_cons_zero, List.getElem?_cons_zero, List.getElem?_cons_succ, bind_ok, calm_ok, gmName_ap, tru_bool, itemsOf_list, itemsOf_tuple, Bool.not_true, Bool.not_false, Bool.false_eq_true, if_false, if_true, endOf, n7, n8, fDiv_N (by omega : 0 < 83) (by omega : 83 < 2 ^ 62), fInt_N, fMod_N (by omega : 0 < 5040)]) (by rw [List.length_map]; show _ < 100000; omega), List.map_append]
  rfl
structure Row (r : List Nat) : Prop where
  ge : 190 ≤ r.length
  le : r.length ≤ 10000
  lt : ∀ x ∈ r, x < 5040
theorem row_ok' (ns : List Int) (hl : ns.length ≤ 63) : ∃ r, M__law_row [.list (ns.map PyData.int), .int 190] = .ok (.list (r.map iD)) ∧ Row r := by
  have e : M__law_row [.list (ns.map PyData.int), .int 190] = ((endOf (m__law_row [.dat (.list (ns.map PyData.int)), .dat (iD 190), .un, .un, .un, .un, .un, .un])).bind fun p => .ok p.1) := rfl
  rw [e]
  have em : m__law_row = mSeq (mIf (tmB (e2 fEq (eN fLen (aCons (eVar 0) aNil)) (eC (.int 0)))) (mRet (eL (lLc (imRng rng1 (aCons (eVar 1) aNil)) [5] (gmName 5) tmYes (e2 fAdd (eVar 5) (eC (.int 1)))))) mNext) (mSeq (mAsg (gmName 2) (eC (.int 2477))) (mSeq (mAsgO 3 (lLst aNil)) (mSeq (mFor (imSeq (eVar 0)) (gmName 4) rwCell) (mSeq (mFor (imRng rng1 (aCons (eVar 1) aNil)) (gmName 5) rwMix) (mRet (eVar 3)))))) := rfl
  have hL : fLen [.list (ns.map PyData.int)] = .ok (iD ns.length) := by show Rs.ok (PyData.int (((ns.map PyData.int).length : Nat) : Int)) = _; rw [List.length_map]
  generalize hS : PyData.list (ns.map PyData.int) = S at hL
  have h190 := rng1_nat (n := 190) (by omega)
  have h190' : rng1 [iD 190] = .ok ((List.range 190).map fun i : Nat => PyData.int (i : Nat)) := h190
  have e0 : (PyData.int 0) = iD 0 := rfl
  have hg : tmB (e2 fEq (eN fLen (aCons (eVar 0) aNil)) (eC (.int 0))) [.dat S, .dat (iD 190), .un, .un, .un, .un, .un, .un] = .ok (decide (ns.length = 0), [.dat S, .dat (iD 190), .un, .un, .un, .un, .un, .un]) := by
    simp only [mSeq_ap, mAsg_ap, mIf_ap, mDrop_ap, mRet_ap, mNext_ap, mFor_ap, imRng_ap, imSeq_ap, tmB_ap, tmNot_ap, tmTru_ap, tmAnd_ap, tmOr_ap, tmYes_ap, e1_ap, e2_ap, eN_ap, lN_ap, eL_ap, lLst_ap, eCall_ap, aCons_ap, aNil_ap, eVar_ap, eC_ap, eAnd_ap, eOr_ap, eNot_ap, eIsi_ap, eIf_ap, List.set_cons_succ, List.set_cons_zero, List.getElem?_cons_zero, List.getElem?_cons_succ, bind_ok, calm_ok, gmName_ap, tru_bool, itemsOf_list, itemsOf_tuple, Bool.not_true, Bool.not_false, Bool.false_eq_true, if_false, if_true, endOf, hL, e0, fEq_N]
  by_cases q : ns.length = 0
  · refine ⟨(List.range 190).map (· + 1), ?_, ⟨by rw [List.length_map, List.length_range]; omega, by rw [List.length_map, List.length_range]; omega, fun x hx => by
      obtain ⟨y, hy, rfl⟩ := List.mem_map.mp hx
      have := List.mem_range.mp hy
      show y + 1 < 5040
      omega⟩⟩
    have hc := lLc_nat (j := 5) (a := aCons (eVar 1) aNil) (t := tmYes) (m := e2 fAdd (eVar 5) (eC (.int 1))) (en := [.dat S, .dat (iD 190), .un, .un, .un, .un, .un, .un]) (n := 190) (fun _ => true) (fun k => iD (k + 1)) rfl (by show 5 < 8; omega) rfl (by omega) (fun k hk => ⟨rfl, fun _ => rfl⟩)
    rw [em, mIf_yes (p := (.list (((List.range 190).map (· + 1)).map iD), [.dat S, .dat (iD 190), .un, .un, .un, .un, .un, .un])) (by rw [hg, decide_eq_true q]) (by
      rw [eL_ap, hc, List.filter_eq_self.mpr fun _ _ => rfl, List.map_map]
      rfl)]
    rfl
  · obtain ⟨en1, hf1, r1, sd1, v4, v5, v6, rfl, h1, hs1⟩ := for_items (gm := gmName 4) (b := rwCell) (enc := PyData.int) (fun i en => ∃ (r : List Nat) (sd : Nat) (v4 v5 v6 : SV), en = [.dat S, .dat (iD 190), .dat (iD sd), .own (.lst (r.map iD)), v4, v5, v6, .un] ∧ RowOk r (60 * i) ∧ sd < 2147483629) ns (k := 0) (en := [.dat S, .dat (iD 190), .dat (iD 2477), .own (.lst []), .un, .un, .un, .un]) ⟨[], 2477, .un, .un, .un, rfl, ⟨Nat.le_refl _, fun x hx => nomatch hx⟩, by omega⟩ (by
      rintro i hi en ⟨r, sd, v4, v5, v6, rfl, h, hs⟩
      rw [Nat.zero_add] at h ⊢
      obtain ⟨r', sd', v5', v6', a1, a2, a3⟩ := cell_ok (S := S) (M := iD 190) (c := ns[i]) h (by omega) hs v5 v6 .un
      exact ⟨[.dat S, .dat (iD 190), .dat (iD sd), .own (.lst (r.map iD)), .dat (.int ns[i]), v5, v6, .un], .nx, _, rfl, a1, .inl rfl, r', sd', _, v5', v6', rfl, a2.mono (by omega), a3⟩)
    rw [Nat.zero_add] at h1
    obtain ⟨en2, hf2, r2, sd2, v5', v7, rfl, h2, h2l, hs2⟩ := for_rng (j := 5) (n := 190) (b := rwMix) (fun i en => ∃ (r : List Nat) (sd : Nat) (v5 v7 : SV), en = [.dat S, .dat (iD 190), .dat (iD sd), .own (.lst (r.map iD)), v4, v5, v6, v7] ∧ RowOk r (60 * ns.length + i) ∧ i ≤ r.length ∧ sd < 2147483629) (en := [.dat S, .dat (iD 190), .dat (iD sd1), .own (.lst (r1.map iD)), v4, v5, v6, .un]) ⟨r1, sd1, v5, .un, rfl, h1, Nat.zero_le _, hs1⟩ (by
      rintro i en hi ⟨r, sd, v5, v7, rfl, h, hli, hs⟩
      obtain ⟨x, sd', v7', a1, a2, a3⟩ := mix_ok (S := S) (M := iD 190) (i := i) h (by omega) hs (by omega) v4 v6 v7
      exact ⟨.nx, _, a1, .inl rfl, r ++ [x], sd', _, v7', rfl, h.snoc a2, by rw [List.length_append]; show _ ≤ _ + 1; omega, a3⟩)
    refine ⟨r2, ?_, ⟨h2l, by have := h2.le; omega, h2.lt⟩⟩
    have hi : itemsOf S = .ok (ns.map PyData.int) := by rw [← hS]; rfl
    rw [em, mIf_no (by rw [hg, decide_eq_false q])]
    rw [mSeq_nx (en1 := [.dat S, .dat (iD 190), .dat (iD 2477), .un, .un, .un, .un, .un]) rfl]
    rw [mSeq_nx (en1 := [.dat S, .dat (iD 190), .dat (iD 2477), .own (.lst []), .un, .un, .un, .un]) rfl]
    rw [mSeq_nx (en1 := [.dat S, .dat (iD 190), .dat (iD sd1), .own (.lst (r1.map iD)), v4, v5, v6, .un]) (by simp only [mSeq_ap, mAsg_ap, mIf_ap, mDrop_ap, mRet_ap, mNext_ap, mFor_ap, imRng_ap, imSeq_ap, tmB_ap, tmNot_ap, tmTru_ap, tmAnd_ap, tmOr_ap, tmYes_ap, e1_ap, e2_ap, eN_ap, lN_ap, eL_ap, lLst_ap, eCall_ap, aCons_ap, aNil_ap, eVar_ap, eC_ap, eAnd_ap, eOr_ap, eNot_ap, eIsi_ap, eIf_ap, List.set_cons_succ, List.set_cons_zero, List.getElem?_cons_zero, List.getElem?_cons_succ, bind_ok, calm_ok, gmName_ap, tru_bool, itemsOf_list, itemsOf_tuple, Bool.not_true, Bool.not_false, Bool.false_eq_true, if_false, if_true, endOf, hi, hf1])]
    rw [mSeq_nx (en1 := [.dat S, .dat (iD 190), .dat (iD sd2), .own (.lst (r2.map iD)), v4, v5', v6, v7]) (by simp only [mSeq_ap, mAsg_ap, mIf_ap, mDrop_ap, mRet_ap, mNext_ap, mFor_ap, imRng_ap, imSeq_ap, tmB_ap, tmNot_ap, tmTru_ap, tmAnd_ap, tmOr_ap, tmYes_ap, e1_ap, e2_ap, eN_ap, lN_ap, eL_ap, lLst_ap, eCall_ap, aCons_ap, aNil_ap, eVar_ap, eC_ap, eAnd_ap, eOr_ap, eNot_ap, eIsi_ap, eIf_ap, List.set_cons_succ, List.set_cons_zero, List.getElem?_cons_zero, List.getElem?_cons_succ, bind_ok, calm_ok, gmName_ap, tru_bool, itemsOf_list, itemsOf_tuple, Bool.not_true, Bool.not_false, Bool.false_eq_true, if_false, if_true, endOf, h190', hf2])]
    rfl
end K07
end

section
set_option Elab.async false
set_option linter.all false
set_option maxRecDepth 100000
set_option maxHeartbeats 4000000
/-! K07O: the sizes. -/
namespace K07
open PySem PySem.Spec PyProof.Rows L2 Mir Dg
def szDec : Sm := mIf (tmB (e2 fGt (e2 fMul (eVar 4) (eVar 6)) (eVar 2))) (mAsg (gmName 6) (e2 fSub (eVar 6) (eC (.int 1)))) mNext
def szK : Sm := mSeq (mAsg (gmName 6) (e2 fIx (eL (lLst (aCons (eC (.int 2)) (aCons (eC (.int 3)) (aCons (eC (.int 2)) (aCons (eC (.int 1)) (aCons (eC (.int 2)) (aCons (eC (.int 4)) aNil)))))))) (e2 fMod (eN fInt (aCons (e2 fIx (eVar 0) (e2 fAdd (eC (.int 2)) (eVar 5))) aNil)) (eC (.int 6))))) (mSeq (mFor (imRng rng1 (aCons (eC (.int 3)) aNil)) (gmName 7) szDec) (mSeq (mAsg (gmName 4) (e2 fMul (eVar 4) (eVar 6))) (mApp 3 (eVar 6))))
theorem dec_ok {R N S : D} {cap pr c : Nat} (hpr : pr ≤ cap) (hcap : cap ≤ 64) (hc : 1 ≤ c) (hc4 : c ≤ 4) (l : List D) (v5 v7 : SV) : ∃ c' v7', forGo (gmName 7) szDec ((List.range 3).map fun i : Nat => PyData.int (i : Nat)) [.dat R, .dat N, .dat (iD cap), .own (.lst l), .dat (iD pr), v5, .dat (iD c), v7] = .ok (.nx, [.dat R, .dat N, .dat (iD cap), .own (.lst l), .dat (iD pr), v5, .dat (iD c'), v7']) ∧ 1 ≤ c' ∧ c' ≤ 4 ∧ pr * c' ≤ cap := by
  obtain ⟨en', hf, c', v7', rfl, h1, h2, h3⟩ := for_rng (j := 7) (n := 3) (b := szDec) (fun i en => ∃ (c : Nat) (v7 : SV), en = [.dat R, .dat N, .dat (iD cap), .own (.lst l), .dat (iD pr), v5, .dat (iD c), v7] ∧ 1 ≤ c ∧ c ≤ 4 ∧ (pr * c ≤ cap ∨ c + i ≤ 4)) (en := [.dat R, .dat N, .dat (iD cap), .own (.lst l), .dat (iD pr), v5, .dat (iD c), v7]) ⟨c, v7, rfl, hc, hc4, .inr (by omega)⟩ (by
    rintro i en hi ⟨c, v7, rfl, h1, h2, h3⟩
    have hg : tmB (e2 fGt (e2 fMul (eVar 4) (eVar 6)) (eVar 2)) [.dat R, .dat N, .dat (iD cap), .own (.lst l), .dat (iD pr), v5, .dat (iD c), .dat (iD i)] = .ok (decide (cap < pr * c), [.dat R, .dat N, .dat (iD cap), .own (.lst l), .dat (iD pr), v5, .dat (iD c), .dat (iD i)]) := by
      simp only [mSeq_ap, mAsg_ap, mIf_ap, mDrop_ap, mRet_ap, mNext_ap, mFor_ap, imRng_ap, imSeq_ap, tmB_ap, tmNot_ap, tmTru_ap, tmAnd_ap, tmOr_ap, tmYes_ap, e1_ap, e2_ap, eN_ap, lN_ap, eL_ap, lLst_ap, eCall_ap, aCons_ap, aNil_ap, eVar_ap, eC_ap, eAnd_ap, eOr_ap, eNot_ap, eIsi_ap, eIf_ap, List.set_cons_succ, List.set_cons_zero, List.getElem?_cons_zero, List.getElem?_cons_succ, bind_ok, calm_ok, gmName_ap, tru_bool, itemsOf_list, itemsOf_tuple, Bool.not_true, Bool.not_false, Bool.false_eq_true, if_false, if_true, endOf, fMul_N (by omega : pr < 2 ^ 62) (by omega : c < 2 ^ 62), fGt_N]
    show ∃ fl en2, szDec [.dat R, .dat N, .dat (iD cap), .own (.lst l), .dat (iD pr), v5, .dat (iD c), .dat (iD i)] = .ok (fl, en2) ∧ _
    by_cases q : cap < pr * c
    · have hc2 : 2 ≤ c := by
        rcases Nat.lt_or_ge c 2 with z | z
        · have : c = 1 := by omega
          rw [this, Nat.mul_one] at q
          omega
        · exact z
      refine ⟨.nx, [.dat R, .dat N, .dat (iD cap), .own (.lst l), .dat (iD pr), v5, .dat (iD (c - 1)), .dat (iD i)], ?_, .inl rfl, c - 1, _, rfl, by omega, by omega, .inr (by
        rcases h3 with h3 | h3
        · omega
        · omega)⟩
      unfold szDec
      have hs : fSub (iD c) (.int 1) = .ok (iD (c - 1)) := fSub_N (b := 1) h1
      rw [mIf_ap, hg, bind_ok, decide_eq_true q, if_pos rfl]
      simp only [mSeq_ap, mAsg_ap, mIf_ap, mDrop_ap, mRet_ap, mNext_ap, mFor_ap, imRng_ap, imSeq_ap, tmB_ap, tmNot_ap, tmTru_ap, tmAnd_ap, tmOr_ap, tmYes_ap, e1_ap, e2_ap, eN_ap, lN_ap, eL_ap, lLst_ap, eCall_ap, aCons_ap, aNil_ap, eVar_ap, eC_ap, eAnd_ap, eOr_ap, eNot_ap, eIsi_ap, eIf_ap, List.set_cons_succ, List.set_cons_zero, List.getElem?_cons_zero, List.getElem?_cons_succ, bind_ok, calm_ok, gmName_ap, tru_bool, itemsOf_list, itemsOf_tuple, Bool.not_true, Bool.not_false, Bool.false_eq_true, if_false, if_true, endOf, hs]
    · refine ⟨.nx, [.dat R, .dat N, .dat (iD cap), .own (.lst l), .dat (iD pr), v5, .dat (iD c), .dat (iD i)], ?_, .inl rfl, c, _, rfl, h1, h2, .inl (by omega)⟩
      unfold szDec
      rw [mIf_ap, hg, bind_ok, decide_eq_false q, if_neg Bool.false_ne_true]
      rfl)
  refine ⟨c', v7', hf, h1, h2, ?_⟩
  rcases h3 with h3 | h3
  · exact h3
  · have : c' = 1 := by omega
    rw [this, Nat.mul_one]
    exact hpr
theorem pick6 {k : Nat} (h : k < 6) : ∃ v, fIx (.list [.int 2, .int 3, .int 2, .int 1, .int 2, .int 4]) (iD k) = .ok (iD v) ∧ 1 ≤ v ∧ v ≤ 4 := by
  have h6 : k = 0 ∨ k = 1 ∨ k = 2 ∨ k = 3 ∨ k = 4 ∨ k = 5 := by omega
  rcases h6 with rfl | rfl | rfl | rfl | rfl | rfl
  · exact ⟨2, rfl, by omega, by omega⟩
  · exact ⟨3, rfl, by omega, by omega⟩
  · exact ⟨2, rfl, by omega, by omega⟩
  · exact ⟨1, rfl, by omega, by omega⟩
  · exact ⟨2, rfl, by omega, by omega⟩
  · exact ⟨4, rfl, by omega, by omega⟩
theorem k_ok {r : List Nat} (hr : Row r) {N : D} {cap : Nat} (hcap : cap ≤ 64) {l : List Nat} {k : Nat} (hk : k < 6) (hl : l.length = k) (hp : Pos l) (hpr : prodL l ≤ cap) (v6 v7 : SV) : ∃ c v7', szK [.dat (.list (r.map iD)), .dat N, .dat (iD cap), .own (.lst (l.map iD)), .dat (iD (prodL l)), .dat (iD k), v6, v7] = .ok (.nx, [.dat (.list (r.map iD)), .dat N, .dat (iD cap), .own (.lst ((l ++ [c]).map iD)), .dat (iD (prodL (l ++ [c]))), .dat (iD k), .dat (iD c), v7']) ∧ 0 < c ∧ prodL (l ++ [c]) ≤ cap := by
  have hge := hr.ge
  obtain ⟨v, hv, hv1, hv4⟩ := pick6 (k := at0 r (2 + k) % 6) (Nat.mod_lt _ (by omega))
  obtain ⟨c, v7', hd, hc1, hc4, hcap'⟩ := dec_ok (R := .list (r.map iD)) (N := N) (S := N) hpr hcap hv1 hv4 (l.map iD) (.dat (iD k)) v7
  have e6 : (PyData.int 6) = iD 6 := rfl
  have e2' : (PyData.int 2) = iD 2 := rfl
  have b6 : ([.int 2, .int 3, .int 2, .int 1, .int 2, .int 4] : List D).length ≤ big := by show 6 ≤ 100000; omega
  have r3 : rng1 [.int 3] = .ok ((List.range 3).map fun i : Nat => PyData.int (i : Nat)) := rng1_nat (n := 3) (by omega)
  have ix := lab_ix (lab := r) (h := 2 + k) (by omega)
  refine ⟨c, v7', ?_, hc1, by rw [prod_snoc]; exact hcap'⟩
  have em : szK = mSeq (mAsg (gmName 6) (e2 fIx (eL (lLst (aCons (eC (.int 2)) (aCons (eC (.int 3)) (aCons (eC (.int 2)) (aCons (eC (.int 1)) (aCons (eC (.int 2)) (aCons (eC (.int 4)) aNil)))))))) (e2 fMod (eN fInt (aCons (e2 fIx (eVar 0) (e2 fAdd (eC (.int 2)) (eVar 5))) aNil)) (eC (.int 6))))) (mSeq (mFor (imRng rng1 (aCons (eC (.int 3)) aNil)) (gmName 7) szDec) (mSeq (mAsg (gmName 4) (e2 fMul (eVar 4) (eVar 6))) (mApp 3 (eVar 6)))) := rfl
  rw [em, mSeq_nx (en1 := [.dat (.list (r.map iD)), .dat N, .dat (iD cap), .own (.lst (l.map iD)), .dat (iD (prodL l)), .dat (iD k), .dat (iD v), v7]) (by
    have hx : e2 fMod (eN fInt (aCons (e2 fIx (eVar 0) (e2 fAdd (eC (.int 2)) (eVar 5))) aNil)) (eC (.int 6)) [.dat (.list (r.map iD)), .dat N, .dat (iD cap), .own (.lst (l.map iD)), .dat (iD (prodL l)), .dat (iD k), v6, v7] = .ok (iD (at0 r (2 + k) % 6), [.dat (.list (r.map iD)), .dat N, .dat (iD cap), .own (.lst (l.map iD)), .dat (iD (prodL l)), .dat (iD k), v6, v7]) := by
      simp only [mSeq_ap, mAsg_ap, mIf_ap, mDrop_ap, mRet_ap, mNext_ap, mFor_ap, imRng_ap, imSeq_ap, tmB_ap, tmNot_ap, tmTru_ap, tmAnd_ap, tmOr_ap, tmYes_ap, e1_ap, e2_ap, eN_ap, lN_ap, eL_ap, lLst_ap, eCall_ap, aCons_ap, aNil_ap, eVar_ap, eC_ap, eAnd_ap, eOr_ap, eNot_ap, eIsi_ap, eIf_ap, List.set_cons_succ, List.set_cons_zero, List.getElem?_cons_zero, List.getElem?_cons_succ, bind_ok, calm_ok, gmName_ap, tru_bool, itemsOf_list, itemsOf_tuple, Bool.not_true, Bool.not_false, Bool.false_eq_true, if_false, if_true, endOf, e2', fAdd_N, ix, fInt_N, e6, fMod_N (by omega : 0 < 6)]
    have hL : eL (lLst (aCons (eC (.int 2)) (aCons (eC (.int 3)) (aCons (eC (.int 2)) (aCons (eC (.int 1)) (aCons (eC (.int 2)) (aCons (eC (.int 4)) aNil))))))) [.dat (.list (r.map iD)), .dat N, .dat (iD cap), .own (.lst (l.map iD)), .dat (iD (prodL l)), .dat (iD k), v6, v7] = .ok (.list [.int 2, .int 3, .int 2, .int 1, .int 2, .int 4], [.dat (.list (r.map iD)), .dat N, .dat (iD cap), .own (.lst (l.map iD)), .dat (iD (prodL l)), .dat (iD k), v6, v7]) := rfl
    rw [mAsg_ap, e2_ap, hL, bind_ok]
    dsimp only
    rw [hx, bind_ok]
    dsimp only
    rw [hv]
    rfl)]
  rw [mSeq_nx (en1 := [.dat (.list (r.map iD)), .dat N, .dat (iD cap), .own (.lst (l.map iD)), .dat (iD (prodL l)), .dat (iD k), .dat (iD c), v7']) (by simp only [mSeq_ap, mAsg_ap, mIf_ap, mDrop_ap, mRet_ap, mNext_ap, mFor_ap, imRng_ap, imSeq_ap, tmB_ap, tmNot_ap, tmTru_ap, tmAnd_ap, tmOr_ap, tmYes_ap, e1_ap, e2_ap, eN_ap, lN_ap, eL_ap, lLst_ap, eCall_ap, aCons_ap, aNil_ap, eVar_ap, eC_ap, eAnd_ap, eOr_ap, eNot_ap, eIsi_ap, eIf_ap, List.set_cons_succ, List.set_cons_zero, List.getElem?_cons_zero, List.getElem?_cons_succ, bind_ok, calm_ok, gmName_ap, tru_bool, itemsOf_list, itemsOf_tuple, Bool.not_true, Bool.not_false, Bool.false_eq_true, if_false, if_true, endOf, r3, hd])]
  rw [mSeq_nx (en1 := [.dat (.list (r.map iD)), .dat N, .dat (iD cap), .own (.lst (l.map iD)), .dat (iD (prodL (l ++ [c]))), .dat (iD k), .dat (iD c), v7']) (by
    rw [prod_snoc]
    simp only [mSeq_ap, mAsg_ap, mIf_ap, mDrop_ap, mRet_ap, mNext_ap, mFor_ap, imRng_ap, imSeq_ap, tmB_ap, tmNot_ap, tmTru_ap, tmAnd_ap, tmOr_ap, tmYes_ap, e1_ap, e2_ap, eN_ap, lN_ap, eL_ap, lLst_ap, eCall_ap, aCons_ap, aNil_ap, eVar_ap, eC_ap, eAnd_ap, eOr_ap, eNot_ap, eIsi_ap, eIf_ap, List.set_cons_succ, List.set_cons_zero, List.getElem?_cons_zero, List.getElem?_cons_succ, bind_ok, calm_ok, gmName_ap, tru_bool, itemsOf_list, itemsOf_tuple, Bool.not_true, Bool.not_false, Bool.false_eq_true, if_false, if_true, endOf, fMul_N (by omega : prodL l < 2 ^ 62) (by omega : c < 2 ^ 62)])]
  rw [mApp_ok (ds := l.map iD) (d := iD c) rfl rfl (by rw [List.length_map]; show _ < 100000; omega), List.map_append]
  rfl
theorem prod_rev : ∀ l : List Nat, prodL l.reverse = prodL l
  | [] => rfl
  | a :: l => by rw [List.reverse_cons, prod_snoc, prod_rev l, prodL, Nat.mul_comm]
structure SzOk (s : List Nat) : Prop where
  pos : Pos s
  ne : 1 ≤ s.length
  six : s.length ≤ 6
  prod : prodL s ≤ 64
theorem sizes_ok {r : List Nat} (hr : Row r) : ∃ s, M__law_sizes [.list (r.map iD)] = .ok (tupN s) ∧ SzOk s := by
  have hge := hr.ge
  have e : M__law_sizes [.list (r.map iD)] = ((endOf (m__law_sizes [.dat (.list (r.map iD)), .un, .un, .un, .un, .un, .un, .un])).bind fun p => .ok p.1) := rfl
  rw [e]
  have em : m__law_sizes = mSeq (mAsg (gmName 1) (e2 fAdd (eC (.int 1)) (e2 fMod (eN fInt (aCons (e2 fIx (eVar 0) (eC (.int 0))) aNil)) (eC (.int 6))))) (mSeq (mAsg (gmName 2) (eC (.int 16))) (mSeq (mIf (tmB (e2 fEq (e2 fMod (eN fInt (aCons (e2 fIx (eVar 0) (eC (.int 1))) aNil)) (eC (.int 8))) (eC (.int 2)))) (mAsg (gmName 2) (eC (.int 64))) mNext) (mSeq (mIf (tmB (e2 fEq (e2 fMod (eN fInt (aCons (e2 fIx (eVar 0) (eC (.int 1))) aNil)) (eC (.int 8))) (eC (.int 5)))) (mAsg (gmName 2) (eC (.int 32))) mNext) (mSeq (mAsgO 3 (lLst aNil)) (mSeq (mAsg (gmName 4) (eC (.int 1))) (mSeq (mFor (imRng rng1 (aCons (eVar 1) aNil)) (gmName 5) szK) (mSeq (mIf (tmB (e2 fEq (e2 fMod (eN fInt (aCons (e2 fIx (eVar 0) (eC (.int 8))) aNil)) (eC (.int 2))) (eC (.int 1)))) (mAsgO 3 (lRev (eVar 3))) mNext) (mRet (eN fTuple (aCons (eVar 3) aNil)))))))))) := rfl
  have ix0 : fIx (.list (r.map iD)) (.int 0) = .ok (iD (at0 r 0)) := lab_ix (lab := r) (h := 0) (by omega)
  have ix1 : fIx (.list (r.map iD)) (.int 1) = .ok (iD (at0 r 1)) := lab_ix (lab := r) (h := 1) (by omega)
  have ix8 : fIx (.list (r.map iD)) (.int 8) = .ok (iD (at0 r 8)) := lab_ix (lab := r) (h := 8) (by omega)
  have e1' : (PyData.int 1) = iD 1 := rfl
  have e2' : (PyData.int 2) = iD 2 := rfl
  have e5 : (PyData.int 5) = iD 5 := rfl
  have e6 : (PyData.int 6) = iD 6 := rfl
  have e8 : (PyData.int 8) = iD 8 := rfl
  have hn : 1 + at0 r 0 % 6 ≤ 6 := by have := Nat.mod_lt (at0 r 0) (by omega : 6 > 0); omega
  have hn1 : 1 ≤ 1 + at0 r 0 % 6 := by omega
  have s1 : mAsg (gmName 1) (e2 fAdd (eC (.int 1)) (e2 fMod (eN fInt (aCons (e2 fIx (eVar 0) (eC (.int 0))) aNil)) (eC (.int 6)))) [.dat (.list (r.map iD)), .un, .un, .un, .un, .un, .un, .un] = .ok (.nx, [.dat (.list (r.map iD)), .dat (iD (1 + at0 r 0 % 6)), .un, .un, .un, .un, .un, .un]) := by
    have ha : fAdd (.int 1) (iD (at0 r 0 % 6)) = .ok (iD (1 + at0 r 0 % 6)) := fAdd_N 1 _
    simp only [mSeq_ap, mAsg_ap, mIf_ap, mDrop_ap, mRet_ap, mNext_ap, mFor_ap, imRng_ap, imSeq_ap, tmB_ap, tmNot_ap, tmTru_ap, tmAnd_ap, tmOr_ap, tmYes_ap, e1_ap, e2_ap, eN_ap, lN_ap, eL_ap, lLst_ap, eCall_ap, aCons_ap, aNil_ap, eVar_ap, eC_ap, eAnd_ap, eOr_ap, eNot_ap, eIsi_ap, eIf_ap, List.set_cons_succ, List.set_cons_zero, List.getElem?_cons_zero, List.getElem?_cons_succ, bind_ok, calm_ok, gmName_ap, tru_bool, itemsOf_list, itemsOf_tuple, Bool.not_true, Bool.not_false, Bool.false_eq_true, if_false, if_true, endOf, ix0, fInt_N, e6, fMod_N (by omega : 0 < 6), ha]
  generalize 1 + at0 r 0 % 6 = n at hn hn1 s1
  have tst : ∀ cap z : Nat, tmB (e2 fEq (e2 fMod (eN fInt (aCons (e2 fIx (eVar 0) (eC (.int 1))) aNil)) (eC (.int 8))) (eC (.int (z : Int)))) [.dat (.list (r.map iD)), .dat (iD n), .dat (iD cap), .un, .un, .un, .un, .un] = .ok (decide (at0 r 1 % 8 = z), [.dat (.list (r.map iD)), .dat (iD n), .dat (iD cap), .un, .un, .un, .un, .un]) := fun cap z => by
    have : (PyData.int (z : Int)) = iD z := rfl
    simp only [mSeq_ap, mAsg_ap, mIf_ap, mDrop_ap, mRet_ap, mNext_ap, mFor_ap, imRng_ap, imSeq_ap, tmB_ap, tmNot_ap, tmTru_ap, tmAnd_ap, tmOr_ap, tmYes_ap, e1_ap, e2_ap, eN_ap, lN_ap, eL_ap, lLst_ap, eCall_ap, aCons_ap, aNil_ap, eVar_ap, eC_ap, eAnd_ap, eOr_ap, eNot_ap, eIsi_ap, eIf_ap, List.set_cons_succ, List.set_cons_zero, List.getElem?_cons_zero, List.getElem?_cons_succ, bind_ok, calm_ok, gmName_ap, tru_bool, itemsOf_list, itemsOf_tuple, Bool.not_true, Bool.not_false, Bool.false_eq_true, if_false, if_true, endOf, ix1, fInt_N, e8, fMod_N (by omega : 0 < 8), this, fEq_N]
  obtain ⟨cap1, s3, hcap1⟩ : ∃ cap1, mIf (tmB (e2 fEq (e2 fMod (eN fInt (aCons (e2 fIx (eVar 0) (eC (.int 1))) aNil)) (eC (.int 8))) (eC (.int 2)))) (mAsg (gmName 2) (eC (.int 64))) mNext [.dat (.list (r.map iD)), .dat (iD n), .dat (iD 16), .un, .un, .un, .un, .un] = .ok (.nx, [.dat (.list (r.map iD)), .dat (iD n), .dat (iD cap1), .un, .un, .un, .un, .un]) ∧ 1 ≤ cap1 ∧ cap1 ≤ 64 := by
    have ht := tst 16 2
    by_cases q : at0 r 1 % 8 = 2
    · exact ⟨64, by rw [mIf_ap]; erw [ht]; rw [bind_ok, decide_eq_true q, if_pos rfl]; rfl, by omega, by omega⟩
    · exact ⟨16, by rw [mIf_ap]; erw [ht]; rw [bind_ok, decide_eq_false q, if_neg Bool.false_ne_true]; rfl, by omega, by omega⟩
  obtain ⟨cap, s4, hcap⟩ : ∃ cap, mIf (tmB (e2 fEq (e2 fMod (eN fInt (aCons (e2 fIx (eVar 0) (eC (.int 1))) aNil)) (eC (.int 8))) (eC (.int 5)))) (mAsg (gmName 2) (eC (.int 32))) mNext [.dat (.list (r.map iD)), .dat (iD n), .dat (iD cap1), .un, .un, .un, .un, .un] = .ok (.nx, [.dat (.list (r.map iD)), .dat (iD n), .dat (iD cap), .un, .un, .un, .un, .un]) ∧ 1 ≤ cap ∧ cap ≤ 64 := by
    have ht := tst cap1 5
    by_cases q : at0 r 1 % 8 = 5
    · exact ⟨32, by rw [mIf_ap]; erw [ht]; rw [bind_ok, decide_eq_true q, if_pos rfl]; rfl, by omega, by omega⟩
    · exact ⟨cap1, by rw [mIf_ap]; erw [ht]; rw [bind_ok, decide_eq_false q, if_neg Bool.false_ne_true]; rfl, hcap1.1, hcap1.2⟩
  obtain ⟨en', hf, l, v5, v6, v7, rfl, hll, hlp, hlc⟩ := for_rng (j := 5) (n := n) (b := szK) (fun k en => ∃ (l : List Nat) (v5 v6 v7 : SV), en = [.dat (.list (r.map iD)), .dat (iD n), .dat (iD cap), .own (.lst (l.map iD)), .dat (iD (prodL l)), v5, v6, v7] ∧ l.length = k ∧ Pos l ∧ prodL l ≤ cap) (en := [.dat (.list (r.map iD)), .dat (iD n), .dat (iD cap), .own (.lst []), .dat (iD 1), .un, .un, .un]) ⟨[], .un, .un, .un, rfl, rfl, ⟨fun _ ha => absurd ha List.not_mem_nil, hcap.1⟩⟩ (by
    rintro k en hk ⟨l, v5, v6, v7, rfl, h1, h2, h3⟩
    obtain ⟨c, v7', a1, a2, a3⟩ := k_ok hr (N := iD n) hcap.2 (by omega) h1 h2 h3 v6 v7
    refine ⟨.nx, _, a1, .inl rfl, l ++ [c], _, _, v7', rfl, by rw [List.length_append, h1]; rfl, fun a ha => ?_, a3⟩
    rcases List.mem_append.mp ha with ha | ha
    · exact h2 a ha
    · rw [List.mem_singleton] at ha; subst ha; exact a2)
  have hg : tmB (e2 fEq (e2 fMod (eN fInt (aCons (e2 fIx (eVar 0) (eC (.int 8))) aNil)) (eC (.int 2))) (eC (.int 1))) [.dat (.list (r.map iD)), .dat (iD n), .dat (iD cap), .own (.lst (l.map iD)), .dat (iD (prodL l)), v5, v6, v7] = .ok (decide (at0 r 8 % 2 = 1), [.dat (.list (r.map iD)), .dat (iD n), .dat (iD cap), .own (.lst (l.map iD)), .dat (iD (prodL l)), v5, v6, v7]) := by
    simp only [mSeq_ap, mAsg_ap, mIf_ap, mDrop_ap, mRet_ap, mNext_ap, mFor_ap, imRng_ap, imSeq_ap, tmB_ap, tmNot_ap, tmTru_ap, tmAnd_ap, tmOr_ap, tmYes_ap, e1_ap, e2_ap, eN_ap, lN_ap, eL_ap, lLst_ap, eCall_ap, aCons_ap, aNil_ap, eVar_ap, eC_ap, eAnd_ap, eOr_ap, eNot_ap, eIsi_ap, eIf_ap, List.set_cons_succ, List.set_cons_zero, List.getElem?_cons_zero, List.getElem?_cons_succ, bind_ok, calm_ok, gmName_ap, tru_bool, itemsOf_list, itemsOf_tuple, Bool.not_true, Bool.not_false, Bool.false_eq_true, if_false, if_true, endOf, ix8, fInt_N, e2', fMod_N (by omega : 0 < 2), e1', fEq_N]
  obtain ⟨s, s9, hs⟩ : ∃ s : List Nat, mIf (tmB (e2 fEq (e2 fMod (eN fInt (aCons (e2 fIx (eVar 0) (eC (.int 8))) aNil)) (eC (.int 2))) (eC (.int 1)))) (mAsgO 3 (lRev (eVar 3))) mNext [.dat (.list (r.map iD)), .dat (iD n), .dat (iD cap), .own (.lst (l.map iD)), .dat (iD (prodL l)), v5, v6, v7] = .ok (.nx, [.dat (.list (r.map iD)), .dat (iD n), .dat (iD cap), .own (.lst (s.map iD)), .dat (iD (prodL l)), v5, v6, v7]) ∧ SzOk s := by
    by_cases q : at0 r 8 % 2 = 1
    · refine ⟨l.reverse, ?_, ⟨fun a ha => hlp a (List.mem_reverse.mp ha), by rw [List.length_reverse]; omega, by rw [List.length_reverse]; omega, by rw [prod_rev]; omega⟩⟩
      rw [mIf_ap, hg, bind_ok, decide_eq_true q, if_pos rfl]
      have hR : lRev (eVar 3) [.dat (.list (r.map iD)), .dat (iD n), .dat (iD cap), .own (.lst (l.map iD)), .dat (iD (prodL l)), v5, v6, v7] = .ok ((l.map iD).reverse, [.dat (.list (r.map iD)), .dat (iD n), .dat (iD cap), .dat (.list (l.map iD)), .dat (iD (prodL l)), v5, v6, v7]) := rfl
      rw [mAsgO_ap, hR, bind_ok, List.map_reverse]
      rfl
    · refine ⟨l, ?_, ⟨hlp, by omega, by omega, by omega⟩⟩
      rw [mIf_ap, hg, bind_ok, decide_eq_false q, if_neg Bool.false_ne_true]
      rfl
  refine ⟨s, ?_, hs⟩
  rw [em, mSeq_nx s1]
  rw [mSeq_nx (en1 := [.dat (.list (r.map iD)), .dat (iD n), .dat (iD 16), .un, .un, .un, .un, .un]) rfl]
  rw [mSeq_nx s3, mSeq_nx s4]
  rw [mSeq_nx (en1 := [.dat (.list (r.map iD)), .dat (iD n), .dat (iD cap), .own (.lst []), .un, .un, .un, .un]) rfl]
  rw [mSeq_nx (en1 := [.dat (.list (r.map iD)), .dat (iD n), .dat (iD cap), .own (.lst []), .dat (iD 1), .un, .un, .un]) rfl]
  rw [mSeq_nx (en1 := [.dat (.list (r.map iD)), .dat (iD n), .dat (iD cap), .own (.lst (l.map iD)), .dat (iD (prodL l)), v5, v6, v7]) (by simp only [mSeq_ap, mAsg_ap, mIf_ap, mDrop_ap, mRet_ap, mNext_ap, mFor_ap, imRng_ap, imSeq_ap, tmB_ap, tmNot_ap, tmTru_ap, tmAnd_ap, tmOr_ap, tmYes_ap, e1_ap, e2_ap, eN_ap, lN_ap, eL_ap, lLst_ap, eCall_ap, aCons_ap, aNil_ap, eVar_ap, eC_ap, eAnd_ap, eOr_ap, eNot_ap, eIsi_ap, eIf_ap, List.set_cons_succ, List.set_cons_zero, List.getElem?_cons_zero, List.getElem?_cons_succ, bind_ok, calm_ok, gmName_ap, tru_bool, itemsOf_list, itemsOf_tuple, Bool.not_true, Bool.not_false, Bool.false_eq_true, if_false, if_true, endOf, rng1_nat (by omega : n ≤ 100000), hf])]
  rw [mSeq_nx s9]
  rfl
end K07
end

section
set_option Elab.async false
set_option linter.all false
set_option maxRecDepth 100000
set_option maxHeartbeats 4000000
/-! K07Q: the tables. -/
namespace K07
open PySem PySem.Spec PyProof.Rows L2 Mir Dg
structure TOk (s tl : List Nat) : Prop where
  len : tl.length = prodL s
  bit : ∀ b ∈ tl, b < 2
theorem TOk.set {s tl : List Nat} (h : TOk s tl) (k : Nat) {x : Nat} (hx : x < 2) : TOk s (tl.set k x) := ⟨by rw [List.length_set]; exact h.len, fun b hb => by
  rcases List.mem_or_eq_of_mem_set hb with z | z
  · exact h.bit b z
  · rw [z]; exact hx⟩
theorem TOk.at {s tl : List Nat} (h : TOk s tl) (k : Nat) : at0 tl k < 2 := by
  by_cases q : k < tl.length
  · rw [at0_get q]; exact h.bit _ (List.getElem_mem _)
  · unfold at0
    rw [List.getD_eq_getElem?_getD, List.getElem?_eq_none (by omega)]
    decide
theorem wd_of {s tl : List Nat} (hs : SzOk s) (h : TOk s tl) : Wd s tl := ⟨hs.pos, hs.ne, hs.six, hs.prod, h.len, h.bit⟩
theorem t0_ok (s : List Nat) (x : Nat) (hx : x < 2) : TOk s (List.replicate (prodL s) x) := ⟨List.length_replicate, fun b hb => by
  have := List.eq_of_mem_replicate hb
  omega⟩
theorem wd0 {s : List Nat} (hs : SzOk s) : Wd s (List.replicate (prodL s) 0) := wd_of hs (t0_ok s 0 (by omega))
theorem rep_flat (x : D) : ∀ n : Nat, (List.replicate n [x]).flatten = List.replicate n x
  | 0 => rfl
  | n + 1 => by rw [List.replicate_succ, List.flatten_cons, rep_flat x n, List.replicate_succ]; rfl
theorem lRep_one {a m : Em} {en : En} {x n : Nat} (ha : a en = .ok (iD x, en)) (hm : m en = .ok (iD n, en)) (hn : n ≤ 1000) : lRep (lLst (aCons a aNil)) m en = .ok ((List.replicate n x).map iD, en) := by
  unfold lRep
  have hl : lLst (aCons a aNil) en = .ok ([iD x], en) := by
    rw [lLst_ap, aCons_ap, ha, bind_ok, aNil_ap, bind_ok, bind_ok, if_pos (by show 1 ≤ 100000; omega)]
  rw [hl, bind_ok]
  dsimp only
  rw [hm, bind_ok]
  dsimp only
  rw [if_pos ⟨⟨by omega, by omega⟩, by show 1 * _ ≤ 100000; rw [Int.toNat_natCast]; omega⟩, Int.toNat_natCast, rep_flat, List.map_replicate]
section
variable {s r : List Nat}
/-! ### sums of tables of lots -/
def smK : Sm := mSetO 5 (eVar 8) (e2 fMod (eN fInt (aCons (e2 fAdd (eBIx 5 (eVar 8)) (e2 fDiv (e2 fIx (eVar 0) (e2 fAdd (e2 fAdd (e2 fAdd (eVar 2) (eC (.int 10))) (eVar 6)) (eCall M__law_on (aCons (eVar 1) (aCons (eVar 4) (aCons (eVar 7) (aCons (e2 fIx (eVar 3) (eVar 8)) aNil))))))) (eC (.int 7)))) aNil)) (eC (.int 2)))
def smT : Sm := mSeq (mAsg (gmName 7) (eL (lLc (imRng rng1 (aCons (eN fLen (aCons (eVar 1) aNil)) aNil)) [9] (gmName 9) (tmB (e2 fEq (e2 fMod (e2 fDiv (e2 fIx (eVar 0) (e2 fAdd (e2 fAdd (eVar 2) (eC (.int 1))) (eVar 9))) (eC (.int 2))) (eC (.int 3))) (eVar 6))) (eVar 9)))) (mFor (imRng rng1 (aCons (eN fLen (aCons (eVar 3) aNil)) aNil)) (gmName 8) smK)
theorem rix (hr : Row r) {k : Nat} (hk : k < 190) : fIx (.list (r.map iD)) (iD k) = .ok (iD (at0 r k)) := lab_ix (by have := hr.ge; omega)
theorem smK_ok (hr : Row r) (hs : SzOk s) {st turn k : Nat} (hst : st ≤ 100) (ht : turn < 3) {lot : List Nat} (hl : Lot s.length lot) {tl : List Nat} (h : TOk s tl) (hk : k < prodL s) : ∃ x, x < 2 ∧ smK [.dat (.list (r.map iD)), .dat (tupN s), .dat (iD st), .dat (rowsD s), .dat (.list ((spans s).map iD)), .own (.lst (tl.map iD)), .dat (iD turn), .dat (.list (lot.map iD)), .dat (iD k), .un] = .ok (.nx, [.dat (.list (r.map iD)), .dat (tupN s), .dat (iD st), .dat (rowsD s), .dat (.list ((spans s).map iD)), .own (.lst ((tl.set k x).map iD)), .dat (iD turn), .dat (.list (lot.map iD)), .dat (iD k), .un]) := by
  have W := wd0 hs
  have hp := hs.prod
  have hkl : k < tl.length := by rw [h.len]; exact hk
  have ho := on_ok W hl (LOT := .list (lot.map iD)) rfl (x := digs s k) (digs_len s k) (ok_digs W k)
  rw [on_part hl] at ho
  obtain ⟨l1, _⟩ := part_le W (lot := lot) hk
  refine ⟨(at0 tl k + at0 r (st + 10 + turn + partOn s lot k) / 7) % 2, Nat.mod_lt _ (by omega), ?_⟩
  have hb := eBIx_ok (i := 5) (m := eVar 8) (en := [.dat (.list (r.map iD)), .dat (tupN s), .dat (iD st), .dat (rowsD s), .dat (.list ((spans s).map iD)), .own (.lst (tl.map iD)), .dat (iD turn), .dat (.list (lot.map iD)), .dat (iD k), .un]) (ds := tl.map iD) (k := (k : Int)) (d := iD (at0 tl k)) rfl rfl (by rw [atI_N tl k hkl, at0_get hkl])
  have e10 : (PyData.int 10) = iD 10 := rfl
  have e7 : (PyData.int 7) = iD 7 := rfl
  have e2' : (PyData.int 2) = iD 2 := rfl
  have ix := rix hr (k := st + 10 + turn + partOn s lot k) (by omega)
  unfold smK
  rw [mSetO_ok (j := k) (ds := tl.map iD) (d := iD ((at0 tl k + at0 r (st + 10 + turn + partOn s lot k) / 7) % 2)) (by
    rw [e2_ap, eN_ap, aCons_ap, e2_ap, hb, bind_ok]
    dsimp only
    simp only [mSeq_ap, mAsg_ap, mIf_ap, mDrop_ap, mRet_ap, mNext_ap, mFor_ap, imRng_ap, imSeq_ap, tmB_ap, tmNot_ap, tmTru_ap, tmAnd_ap, tmOr_ap, tmYes_ap, e1_ap, e2_ap, eN_ap, lN_ap, eL_ap, lLst_ap, eCall_ap, aCons_ap, aNil_ap, eVar_ap, eC_ap, eAnd_ap, eOr_ap, eNot_ap, eIsi_ap, eIf_ap, List.set_cons_succ, List.set_cons_zero, List.getElem?_cons_zero, List.getElem?_cons_succ, bind_ok, calm_ok, gmName_ap, tru_bool, itemsOf_list, itemsOf_tuple, Bool.not_true, Bool.not_false, Bool.false_eq_true, if_false, if_true, endOf, e10, fAdd_N, row_ix hk, ho, ix, e7, fDiv_N (by omega : 0 < 7) (by omega : 7 < 2 ^ 62), fInt_N, e2', fMod_N (by omega : 0 < 2)]) rfl rfl (by rw [List.length_map]; exact hkl), List.map_set]
  rfl
theorem smT_ok (hr : Row r) (hs : SzOk s) {st turn : Nat} (hst : st ≤ 100) (ht : turn < 3) {tl : List Nat} (h : TOk s tl) (v7 v8 : SV) : ∃ tl' v7' v8', smT [.dat (.list (r.map iD)), .dat (tupN s), .dat (iD st), .dat (rowsD s), .dat (.list ((spans s).map iD)), .own (.lst (tl.map iD)), .dat (iD turn), v7, v8, .un] = .ok (.nx, [.dat (.list (r.map iD)), .dat (tupN s), .dat (iD st), .dat (rowsD s), .dat (.list ((spans s).map iD)), .own (.lst (tl'.map iD)), .dat (iD turn), v7', v8', .un]) ∧ TOk s tl' := by
  have hp := hs.prod
  have h6 := hs.six
  let pf : Nat → Bool := fun h => decide (at0 r (st + 1 + h) / 2 % 3 = turn)
  have hl : Lot s.length ((List.range s.length).filter pf) := lot_filter _ _
  have hc := lLc_nat (j := 9) (a := aCons (eN fLen (aCons (eVar 1) aNil)) aNil) (t := tmB (e2 fEq (e2 fMod (e2 fDiv (e2 fIx (eVar 0) (e2 fAdd (e2 fAdd (eVar 2) (eC (.int 1))) (eVar 9))) (eC (.int 2))) (eC (.int 3))) (eVar 6))) (m := eVar 9) (en := [.dat (.list (r.map iD)), .dat (tupN s), .dat (iD st), .dat (rowsD s), .dat (.list ((spans s).map iD)), .own (.lst (tl.map iD)), .dat (iD turn), v7, v8, .un]) (n := s.length) pf iD (by simp only [mSeq_ap, mAsg_ap, mIf_ap, mDrop_ap, mRet_ap, mNext_ap, mFor_ap, imRng_ap, imSeq_ap, tmB_ap, tmNot_ap, tmTru_ap, tmAnd_ap, tmOr_ap, tmYes_ap, e1_ap, e2_ap, eN_ap, lN_ap, eL_ap, lLst_ap, eCall_ap, aCons_ap, aNil_ap, eVar_ap, eC_ap, eAnd_ap, eOr_ap, eNot_ap, eIsi_ap, eIf_ap, List.set_cons_succ, List.set_cons_zero, List.getElem?_cons_zero, List.getElem?_cons_succ, bind_ok, calm_ok, gmName_ap, tru_bool, itemsOf_list, itemsOf_tuple, Bool.not_true, Bool.not_false, Bool.false_eq_true, if_false, if_true, endOf, fLen_tupN]) (by show 9 < 10; omega) rfl (by omega) (fun h hh => ⟨by
    have e8 : (PyData.int (h : Int)) = iD h := rfl
    have e1' : (PyData.int 1) = iD 1 := rfl
    have e2' : (PyData.int 2) = iD 2 := rfl
    have e3 : (PyData.int 3) = iD 3 := rfl
    simp only [mSeq_ap, mAsg_ap, mIf_ap, mDrop_ap, mRet_ap, mNext_ap, mFor_ap, imRng_ap, imSeq_ap, tmB_ap, tmNot_ap, tmTru_ap, tmAnd_ap, tmOr_ap, tmYes_ap, e1_ap, e2_ap, eN_ap, lN_ap, eL_ap, lLst_ap, eCall_ap, aCons_ap, aNil_ap, eVar_ap, eC_ap, eAnd_ap, eOr_ap, eNot_ap, eIsi_ap, eIf_ap, List.set_cons_succ, List.set_cons_zero, List.getElem?_cons_zero, List.getElem?_cons_succ, bind_ok, calm_ok, gmName_ap, tru_bool, itemsOf_list, itemsOf_tuple, Bool.not_true, Bool.not_false, Bool.false_eq_true, if_false, if_true, endOf, e8, e1', fAdd_N, rix hr (by omega : st + 1 + h < 190), e2', fDiv_N (by omega : 0 < 2) (by omega : 2 < 2 ^ 62), e3, fMod_N (by omega : 0 < 3), fEq_N]
    rfl, fun _ => rfl⟩)
  obtain ⟨en', hf, tl', v8', rfl, h'⟩ := for_rng (j := 8) (n := prodL s) (b := smK) (fun _ en => ∃ (tl : List Nat) (v8 : SV), en = [.dat (.list (r.map iD)), .dat (tupN s), .dat (iD st), .dat (rowsD s), .dat (.list ((spans s).map iD)), .own (.lst (tl.map iD)), .dat (iD turn), .dat (.list (((List.range s.length).filter pf).map iD)), v8, .un] ∧ TOk s tl) (en := [.dat (.list (r.map iD)), .dat (tupN s), .dat (iD st), .dat (rowsD s), .dat (.list ((spans s).map iD)), .own (.lst (tl.map iD)), .dat (iD turn), .dat (.list (((List.range s.length).filter pf).map iD)), v8, .un]) ⟨tl, v8, rfl, h⟩ (by
    rintro k en hk ⟨tl, v8, rfl, h⟩
    obtain ⟨x, hx, hq⟩ := smK_ok hr hs hst ht hl h hk
    exact ⟨.nx, _, hq, .inl rfl, tl.set k x, _, rfl, h.set k hx⟩)
  refine ⟨tl', .dat (.list (((List.range s.length).filter pf).map iD)), v8', ?_, h'⟩
  have em : smT = mSeq (mAsg (gmName 7) (eL (lLc (imRng rng1 (aCons (eN fLen (aCons (eVar 1) aNil)) aNil)) [9] (gmName 9) (tmB (e2 fEq (e2 fMod (e2 fDiv (e2 fIx (eVar 0) (e2 fAdd (e2 fAdd (eVar 2) (eC (.int 1))) (eVar 9))) (eC (.int 2))) (eC (.int 3))) (eVar 6))) (eVar 9)))) (mFor (imRng rng1 (aCons (eN fLen (aCons (eVar 3) aNil)) aNil)) (gmName 8) smK) := rfl
  rw [em, mSeq_nx (en1 := [.dat (.list (r.map iD)), .dat (tupN s), .dat (iD st), .dat (rowsD s), .dat (.list ((spans s).map iD)), .own (.lst (tl.map iD)), .dat (iD turn), .dat (.list (((List.range s.length).filter pf).map iD)), v8, .un]) (by
    rw [mAsg_ap, eL_ap, hc]
    rfl)]
  simp only [mSeq_ap, mAsg_ap, mIf_ap, mDrop_ap, mRet_ap, mNext_ap, mFor_ap, imRng_ap, imSeq_ap, tmB_ap, tmNot_ap, tmTru_ap, tmAnd_ap, tmOr_ap, tmYes_ap, e1_ap, e2_ap, eN_ap, lN_ap, eL_ap, lLst_ap, eCall_ap, aCons_ap, aNil_ap, eVar_ap, eC_ap, eAnd_ap, eOr_ap, eNot_ap, eIsi_ap, eIf_ap, List.set_cons_succ, List.set_cons_zero, List.getElem?_cons_zero, List.getElem?_cons_succ, bind_ok, calm_ok, gmName_ap, tru_bool, itemsOf_list, itemsOf_tuple, Bool.not_true, Bool.not_false, Bool.false_eq_true, if_false, if_true, endOf, fLen_rows, rng1_nat (by omega : prodL s ≤ 100000), hf]
theorem summed_ok (hr : Row r) (hs : SzOk s) {st : Nat} (hst : st ≤ 100) : ∃ tl, M__law_summed [.list (r.map iD), tupN s, iD st] = .ok (tl.map iD) ∧ TOk s tl := by
  have hp := hs.prod
  have W := wd0 hs
  have e : M__law_summed [.list (r.map iD), tupN s, iD st] = (m__law_summed [.dat (.list (r.map iD)), .dat (tupN s), .dat (iD st), .un, .un, .un, .un, .un, .un, .un]).bind fun p => .ok p.1 := rfl
  rw [e]
  have em : m__law_summed = aSeq (mAsg (gmName 3) (eCall M__law_settings (aCons (eVar 1) aNil))) (aSeq (mAsg (gmName 4) (eCall M__law_steps (aCons (eVar 1) aNil))) (aSeq (mAsgO 5 (lRep (lLst (aCons (e2 fMod (eN fInt (aCons (e2 fIx (eVar 0) (eVar 2)) aNil)) (eC (.int 2))) aNil)) (eN fLen (aCons (eVar 3) aNil)))) (aSeq (mFor (imRng rng1 (aCons (eC (.int 3)) aNil)) (gmName 6) smT) (aOwn 5)))) := rfl
  have e2' : (PyData.int 2) = iD 2 := rfl
  have hrep := lRep_one (a := e2 fMod (eN fInt (aCons (e2 fIx (eVar 0) (eVar 2)) aNil)) (eC (.int 2))) (m := eN fLen (aCons (eVar 3) aNil)) (en := [.dat (.list (r.map iD)), .dat (tupN s), .dat (iD st), .dat (rowsD s), .dat (.list ((spans s).map iD)), .un, .un, .un, .un, .un]) (x := at0 r st % 2) (n := prodL s) (by
    simp only [mSeq_ap, mAsg_ap, mIf_ap, mDrop_ap, mRet_ap, mNext_ap, mFor_ap, imRng_ap, imSeq_ap, tmB_ap, tmNot_ap, tmTru_ap, tmAnd_ap, tmOr_ap, tmYes_ap, e1_ap, e2_ap, eN_ap, lN_ap, eL_ap, lLst_ap, eCall_ap, aCons_ap, aNil_ap, eVar_ap, eC_ap, eAnd_ap, eOr_ap, eNot_ap, eIsi_ap, eIf_ap, List.set_cons_succ, List.set_cons_zero, List.getElem?_cons_zero, List.getElem?_cons_succ, bind_ok, calm_ok, gmName_ap, tru_bool, itemsOf_list, itemsOf_tuple, Bool.not_true, Bool.not_false, Bool.false_eq_true, if_false, if_true, endOf, rix hr (by omega : st < 190), fInt_N, e2', fMod_N (by omega : 0 < 2)]) (by simp only [mSeq_ap, mAsg_ap, mIf_ap, mDrop_ap, mRet_ap, mNext_ap, mFor_ap, imRng_ap, imSeq_ap, tmB_ap, tmNot_ap, tmTru_ap, tmAnd_ap, tmOr_ap, tmYes_ap, e1_ap, e2_ap, eN_ap, lN_ap, eL_ap, lLst_ap, eCall_ap, aCons_ap, aNil_ap, eVar_ap, eC_ap, eAnd_ap, eOr_ap, eNot_ap, eIsi_ap, eIf_ap, List.set_cons_succ, List.set_cons_zero, List.getElem?_cons_zero, List.getElem?_cons_succ, bind_ok, calm_ok, gmName_ap, tru_bool, itemsOf_list, itemsOf_tuple, Bool.not_true, Bool.not_false, Bool.false_eq_true, if_false, if_true, endOf, fLen_rows]) (by omega)
  have r3 : rng1 [.int 3] = .ok ((List.range 3).map fun i : Nat => PyData.int (i : Nat)) := rng1_nat (n := 3) (by omega)
  obtain ⟨en', hf, tl, v6, v7, v8, rfl, h⟩ := for_rng (j := 6) (n := 3) (b := smT) (fun _ en => ∃ (tl : List Nat) (v6 v7 v8 : SV), en = [.dat (.list (r.map iD)), .dat (tupN s), .dat (iD st), .dat (rowsD s), .dat (.list ((spans s).map iD)), .own (.lst (tl.map iD)), v6, v7, v8, .un] ∧ TOk s tl) (en := [.dat (.list (r.map iD)), .dat (tupN s), .dat (iD st), .dat (rowsD s), .dat (.list ((spans s).map iD)), .own (.lst ((List.replicate (prodL s) (at0 r st % 2)).map iD)), .un, .un, .un, .un]) ⟨_, .un, .un, .un, rfl, t0_ok s _ (Nat.mod_lt _ (by omega))⟩ (by
    rintro turn en ht ⟨tl, v6, v7, v8, rfl, h⟩
    obtain ⟨tl', v7', v8', a1, a2⟩ := smT_ok hr hs hst ht h v7 v8
    exact ⟨.nx, _, a1, .inl rfl, tl', _, v7', v8', rfl, a2⟩)
  refine ⟨tl, ?_, h⟩
  rw [em, aSeq_nx (en1 := [.dat (.list (r.map iD)), .dat (tupN s), .dat (iD st), .dat (rowsD s), .un, .un, .un, .un, .un, .un]) (by simp only [mSeq_ap, mAsg_ap, mIf_ap, mDrop_ap, mRet_ap, mNext_ap, mFor_ap, imRng_ap, imSeq_ap, tmB_ap, tmNot_ap, tmTru_ap, tmAnd_ap, tmOr_ap, tmYes_ap, e1_ap, e2_ap, eN_ap, lN_ap, eL_ap, lLst_ap, eCall_ap, aCons_ap, aNil_ap, eVar_ap, eC_ap, eAnd_ap, eOr_ap, eNot_ap, eIsi_ap, eIf_ap, List.set_cons_succ, List.set_cons_zero, List.getElem?_cons_zero, List.getElem?_cons_succ, bind_ok, calm_ok, gmName_ap, tru_bool, itemsOf_list, itemsOf_tuple, Bool.not_true, Bool.not_false, Bool.false_eq_true, if_false, if_true, endOf, settings_ok W])]
  rw [aSeq_nx (en1 := [.dat (.list (r.map iD)), .dat (tupN s), .dat (iD st), .dat (rowsD s), .dat (.list ((spans s).map iD)), .un, .un, .un, .un, .un]) (by simp only [mSeq_ap, mAsg_ap, mIf_ap, mDrop_ap, mRet_ap, mNext_ap, mFor_ap, imRng_ap, imSeq_ap, tmB_ap, tmNot_ap, tmTru_ap, tmAnd_ap, tmOr_ap, tmYes_ap, e1_ap, e2_ap, eN_ap, lN_ap, eL_ap, lLst_ap, eCall_ap, aCons_ap, aNil_ap, eVar_ap, eC_ap, eAnd_ap, eOr_ap, eNot_ap, eIsi_ap, eIf_ap, List.set_cons_succ, List.set_cons_zero, List.getElem?_cons_zero, List.getElem?_cons_succ, bind_ok, calm_ok, gmName_ap, tru_bool, itemsOf_list, itemsOf_tuple, Bool.not_true, Bool.not_false, Bool.false_eq_true, if_false, if_true, endOf, steps_ok W])]
  rw [aSeq_nx (en1 := [.dat (.list (r.map iD)), .dat (tupN s), .dat (iD st), .dat (rowsD s), .dat (.list ((spans s).map iD)), .own (.lst ((List.replicate (prodL s) (at0 r st % 2)).map iD)), .un, .un, .un, .un]) (by rw [mAsgO_ap, hrep]; rfl)]
  rw [aSeq_nx (en1 := [.dat (.list (r.map iD)), .dat (tupN s), .dat (iD st), .dat (rowsD s), .dat (.list ((spans s).map iD)), .own (.lst (tl.map iD)), v6, v7, v8, .un]) (by simp only [mSeq_ap, mAsg_ap, mIf_ap, mDrop_ap, mRet_ap, mNext_ap, mFor_ap, imRng_ap, imSeq_ap, tmB_ap, tmNot_ap, tmTru_ap, tmAnd_ap, tmOr_ap, tmYes_ap, e1_ap, e2_ap, eN_ap, lN_ap, eL_ap, lLst_ap, eCall_ap, aCons_ap, aNil_ap, eVar_ap, eC_ap, eAnd_ap, eOr_ap, eNot_ap, eIsi_ap, eIf_ap, List.set_cons_succ, List.set_cons_zero, List.getElem?_cons_zero, List.getElem?_cons_succ, bind_ok, calm_ok, gmName_ap, tru_bool, itemsOf_list, itemsOf_tuple, Bool.not_true, Bool.not_false, Bool.false_eq_true, if_false, if_true, endOf, r3, hf])]
  rfl
end
end K07
end

section
set_option Elab.async false
set_option linter.all false
set_option maxRecDepth 100000
set_option maxHeartbeats 4000000
/-! K07R: tables by terms; _law_table. -/
namespace K07
open PySem PySem.Spec PyProof.Rows L2 Mir Dg
section
variable {s r : List Nat}
def btK : Sm := mSeq (mAsg (gmName 10) (eN fSum (aCons (eL (lLc (imSeq (eVar 7)) [9] (gmName 9) (tmB (e2 fEq (e2 fIx (e2 fIx (eVar 3) (eVar 8)) (eVar 9)) (e2 fAdd (eC (.int 1)) (e2 fMod (eN fInt (aCons (e2 fDiv (e2 fIx (eVar 0) (e2 fAdd (e2 fAdd (e2 fAdd (eVar 2) (eC (.int 5))) (e2 fMul (eC (.int 6)) (eVar 5))) (eVar 9))) (eC (.int 6))) aNil)) (eC (.int 3)))))) (eC (.int 1)))) aNil))) (mIf (tmB (e2 fEq (eVar 10) (eN fLen (aCons (eVar 7) aNil)))) (mSetO 4 (eVar 8) (e2 fSub (eC (.int 1)) (eBIx 4 (eVar 8)))) mNext)
def btI : Sm := mIf (tmB (e2 fGt (e2 fMod (e2 fDiv (eVar 6) (eC (.int 3))) (eC (.int 4))) (eC (.int 0)))) (mFor (imRng rng1 (aCons (eN fLen (aCons (eVar 3) aNil)) aNil)) (gmName 8) btK) mNext
def btT : Sm := mSeq (mAsg (gmName 6) (e2 fIx (eVar 0) (e2 fAdd (e2 fAdd (eVar 2) (eC (.int 1))) (eVar 5)))) (mSeq (mAsg (gmName 7) (eL (lLc (imRng rng1 (aCons (eN fLen (aCons (eVar 1) aNil)) aNil)) [9] (gmName 9) (tmB (e2 fEq (e2 fMod (e2 fDiv (e2 fIx (eVar 0) (e2 fAdd (e2 fAdd (e2 fAdd (eVar 2) (eC (.int 5))) (e2 fMul (eC (.int 6)) (eVar 5))) (eVar 9))) (eC (.int 2))) (eC (.int 3))) (eC (.int 1)))) (eVar 9)))) (mSeq (mAsg (gmName 7) (eSl (eVar 7) oNone (oSome (e2 fAdd (eC (.int 1)) (e2 fMod (eN fInt (aCons (eVar 6) aNil)) (eC (.int 3))))))) btI))
theorem flip_lt {b : Nat} (h : b < 2) : 1 - b < 2 := by omega
theorem btK_ok (hr : Row r) (hs : SzOk s) {st turn k : Nat} (hst : st ≤ 100) (ht : turn < 4) {l : List Nat} (hl : ∀ h ∈ l, h < s.length) (hll : l.length ≤ 6) {tl : List Nat} (h : TOk s tl) (hk : k < prodL s) (v6 v10 : SV) : ∃ tl' v10', btK [.dat (.list (r.map iD)), .dat (tupN s), .dat (iD st), .dat (rowsD s), .own (.lst (tl.map iD)), .dat (iD turn), v6, .dat (.list (l.map iD)), .dat (iD k), .un, v10] = .ok (.nx, [.dat (.list (r.map iD)), .dat (tupN s), .dat (iD st), .dat (rowsD s), .own (.lst (tl'.map iD)), .dat (iD turn), v6, .dat (.list (l.map iD)), .dat (iD k), .un, v10']) ∧ TOk s tl' := by
  have W := wd0 hs
  have h6 := hs.six
  have hkl : k < tl.length := by rw [h.len]; exact hk
  let pf : Nat → Bool := fun h => decide (dg s h k = 1 + at0 r (st + 5 + 6 * turn + h) / 6 % 3)
  have e1' : (PyData.int 1) = iD 1 := rfl
  have e3 : (PyData.int 3) = iD 3 := rfl
  have e5 : (PyData.int 5) = iD 5 := rfl
  have e6 : (PyData.int 6) = iD 6 := rfl
  have hc := lLc_marks (j := 9) (a := eVar 7) (t := tmB (e2 fEq (e2 fIx (e2 fIx (eVar 3) (eVar 8)) (eVar 9)) (e2 fAdd (eC (.int 1)) (e2 fMod (eN fInt (aCons (e2 fDiv (e2 fIx (eVar 0) (e2 fAdd (e2 fAdd (e2 fAdd (eVar 2) (eC (.int 5))) (e2 fMul (eC (.int 6)) (eVar 5))) (eVar 9))) (eC (.int 6))) aNil)) (eC (.int 3)))))) (m := eC (.int 1)) (en := [.dat (.list (r.map iD)), .dat (tupN s), .dat (iD st), .dat (rowsD s), .own (.lst (tl.map iD)), .dat (iD turn), v6, .dat (.list (l.map iD)), .dat (iD k), .un, v10]) (ms := l) (d0 := .list (l.map iD)) pf (fun _ => iD 1) rfl rfl (by show 9 < 11; omega) rfl (by omega) (fun h hm => ⟨by
    have hh := hl h hm
    simp only [mSeq_ap, mAsg_ap, mIf_ap, mDrop_ap, mRet_ap, mNext_ap, mFor_ap, imRng_ap, imSeq_ap, tmB_ap, tmNot_ap, tmTru_ap, tmAnd_ap, tmOr_ap, tmYes_ap, e1_ap, e2_ap, eN_ap, lN_ap, eL_ap, lLst_ap, eCall_ap, aCons_ap, aNil_ap, eVar_ap, eC_ap, eAnd_ap, eOr_ap, eNot_ap, eIsi_ap, eIf_ap, List.set_cons_succ, List.set_cons_zero, List.getElem?_cons_zero, List.getElem?_cons_succ, bind_ok, calm_ok, gmName_ap, tru_bool, itemsOf_list, itemsOf_tuple, Bool.not_true, Bool.not_false, Bool.false_eq_true, if_false, if_true, endOf, row_ix hk, dig_ix hh, e1', e5, e6, fAdd_N, fMul_N (by omega : 6 < 2 ^ 62) (by omega : turn < 2 ^ 62), rix hr (by omega : st + 5 + 6 * turn + h < 190), fDiv_N (by omega : 0 < 6) (by omega : 6 < 2 ^ 62), fInt_N, e3, fMod_N (by omega : 0 < 3), fEq_N]
    rfl, fun _ => rfl⟩)
  have hsum : fSum [.list ((l.filter pf).map fun _ => iD 1)] = .ok (iD (l.filter pf).length) := by
    have : ∀ l : List Nat, l.map (fun _ => iD 1) = (l.map fun _ => 1).map iD := fun l => by rw [List.map_map]; rfl
    rw [this, fSum_N]
    congr 2
    have : ∀ l : List Nat, (l.map fun _ => 1).sum = l.length := fun l => by
      induction l with
      | nil => rfl
      | cons a l ih => rw [List.map_cons, List.sum_cons, ih, List.length_cons]; omega
    rw [this]
  have em : btK = mSeq (mAsg (gmName 10) (eN fSum (aCons (eL (lLc (imSeq (eVar 7)) [9] (gmName 9) (tmB (e2 fEq (e2 fIx (e2 fIx (eVar 3) (eVar 8)) (eVar 9)) (e2 fAdd (eC (.int 1)) (e2 fMod (eN fInt (aCons (e2 fDiv (e2 fIx (eVar 0) (e2 fAdd (e2 fAdd (e2 fAdd (eVar 2) (eC (.int 5))) (e2 fMul (eC (.int 6)) (eVar 5))) (eVar 9))) (eC (.int 6))) aNil)) (eC (.int 3)))))) (eC (.int 1)))) aNil))) (mIf (tmB (e2 fEq (eVar 10) (eN fLen (aCons (eVar 7) aNil)))) (mSetO 4 (eVar 8) (e2 fSub (eC (.int 1)) (eBIx 4 (eVar 8)))) mNext) := rfl
  have s1 : mAsg (gmName 10) (eN fSum (aCons (eL (lLc (imSeq (eVar 7)) [9] (gmName 9) (tmB (e2 fEq (e2 fIx (e2 fIx (eVar 3) (eVar 8)) (eVar 9)) (e2 fAdd (eC (.int 1)) (e2 fMod (eN fInt (aCons (e2 fDiv (e2 fIx (eVar 0) (e2 fAdd (e2 fAdd (e2 fAdd (eVar 2) (eC (.int 5))) (e2 fMul (eC (.int 6)) (eVar 5))) (eVar 9))) (eC (.int 6))) aNil)) (eC (.int 3)))))) (eC (.int 1)))) aNil)) [.dat (.list (r.map iD)), .dat (tupN s), .dat (iD st), .dat (rowsD s), .own (.lst (tl.map iD)), .dat (iD turn), v6, .dat (.list (l.map iD)), .dat (iD k), .un, v10] = .ok (.nx, [.dat (.list (r.map iD)), .dat (tupN s), .dat (iD st), .dat (rowsD s), .own (.lst (tl.map iD)), .dat (iD turn), v6, .dat (.list (l.map iD)), .dat (iD k), .un, .dat (iD (l.filter pf).length)]) := by
    rw [mAsg_ap, eN_ap, aCons_ap, eL_ap, hc, bind_ok, bind_ok, aNil_ap, bind_ok, bind_ok]
    dsimp only
    rw [hsum]
    rfl
  have hg : tmB (e2 fEq (eVar 10) (eN fLen (aCons (eVar 7) aNil))) [.dat (.list (r.map iD)), .dat (tupN s), .dat (iD st), .dat (rowsD s), .own (.lst (tl.map iD)), .dat (iD turn), v6, .dat (.list (l.map iD)), .dat (iD k), .un, .dat (iD (l.filter pf).length)] = .ok (decide ((l.filter pf).length = l.length), [.dat (.list (r.map iD)), .dat (tupN s), .dat (iD st), .dat (rowsD s), .own (.lst (tl.map iD)), .dat (iD turn), v6, .dat (.list (l.map iD)), .dat (iD k), .un, .dat (iD (l.filter pf).length)]) := by
    simp only [mSeq_ap, mAsg_ap, mIf_ap, mDrop_ap, mRet_ap, mNext_ap, mFor_ap, imRng_ap, imSeq_ap, tmB_ap, tmNot_ap, tmTru_ap, tmAnd_ap, tmOr_ap, tmYes_ap, e1_ap, e2_ap, eN_ap, lN_ap, eL_ap, lLst_ap, eCall_ap, aCons_ap, aNil_ap, eVar_ap, eC_ap, eAnd_ap, eOr_ap, eNot_ap, eIsi_ap, eIf_ap, List.set_cons_succ, List.set_cons_zero, List.getElem?_cons_zero, List.getElem?_cons_succ, bind_ok, calm_ok, gmName_ap, tru_bool, itemsOf_list, itemsOf_tuple, Bool.not_true, Bool.not_false, Bool.false_eq_true, if_false, if_true, endOf, fLen_listN, fEq_N]
  by_cases q : (l.filter pf).length = l.length
  · refine ⟨tl.set k (1 - at0 tl k), .dat (iD (l.filter pf).length), ?_, h.set k (by omega)⟩
    rw [em, mSeq_nx s1, mIf_ap, hg, bind_ok, decide_eq_true q, if_pos rfl]
    have hb := eBIx_ok (i := 4) (m := eVar 8) (en := [.dat (.list (r.map iD)), .dat (tupN s), .dat (iD st), .dat (rowsD s), .own (.lst (tl.map iD)), .dat (iD turn), v6, .dat (.list (l.map iD)), .dat (iD k), .un, .dat (iD (l.filter pf).length)]) (ds := tl.map iD) (k := (k : Int)) (d := iD (at0 tl k)) rfl rfl (by rw [atI_N tl k hkl, at0_get hkl])
    have hbt := h.at k
    rw [mSetO_ok (j := k) (ds := tl.map iD) (d := iD (1 - at0 tl k)) (by
      rw [e2_ap, eC_ap, bind_ok]
      dsimp only
      rw [hb, bind_ok]
      dsimp only
      rw [e1', fSub_N (by omega)]
      rfl) rfl rfl (by rw [List.length_map]; exact hkl), List.map_set]
    rfl
  · refine ⟨tl, .dat (iD (l.filter pf).length), ?_, h⟩
    rw [em, mSeq_nx s1, mIf_ap, hg, bind_ok, decide_eq_false q, if_neg Bool.false_ne_true]
    rfl
theorem btT_ok (hr : Row r) (hs : SzOk s) {st turn : Nat} (hst : st ≤ 100) (ht : turn < 4) {tl : List Nat} (h : TOk s tl) (v6 v7 v8 v10 : SV) : ∃ tl' v6' v7' v8' v10', btT [.dat (.list (r.map iD)), .dat (tupN s), .dat (iD st), .dat (rowsD s), .own (.lst (tl.map iD)), .dat (iD turn), v6, v7, v8, .un, v10] = .ok (.nx, [.dat (.list (r.map iD)), .dat (tupN s), .dat (iD st), .dat (rowsD s), .own (.lst (tl'.map iD)), .dat (iD turn), v6', v7', v8', .un, v10']) ∧ TOk s tl' := by
  have hp := hs.prod
  have h6 := hs.six
  let pf : Nat → Bool := fun h => decide (at0 r (st + 5 + 6 * turn + h) / 2 % 3 = 1)
  have e1' : (PyData.int 1) = iD 1 := rfl
  have e2' : (PyData.int 2) = iD 2 := rfl
  have e3 : (PyData.int 3) = iD 3 := rfl
  have e4 : (PyData.int 4) = iD 4 := rfl
  have e5 : (PyData.int 5) = iD 5 := rfl
  have e6 : (PyData.int 6) = iD 6 := rfl
  have e0 : (PyData.int 0) = iD 0 := rfl
  have hc := lLc_nat (j := 9) (a := aCons (eN fLen (aCons (eVar 1) aNil)) aNil) (t := tmB (e2 fEq (e2 fMod (e2 fDiv (e2 fIx (eVar 0) (e2 fAdd (e2 fAdd (e2 fAdd (eVar 2) (eC (.int 5))) (e2 fMul (eC (.int 6)) (eVar 5))) (eVar 9))) (eC (.int 2))) (eC (.int 3))) (eC (.int 1)))) (m := eVar 9) (en := [.dat (.list (r.map iD)), .dat (tupN s), .dat (iD st), .dat (rowsD s), .own (.lst (tl.map iD)), .dat (iD turn), .dat (iD (at0 r (st + 1 + turn))), v7, v8, .un, v10]) (n := s.length) pf iD (by simp only [mSeq_ap, mAsg_ap, mIf_ap, mDrop_ap, mRet_ap, mNext_ap, mFor_ap, imRng_ap, imSeq_ap, tmB_ap, tmNot_ap, tmTru_ap, tmAnd_ap, tmOr_ap, tmYes_ap, e1_ap, e2_ap, eN_ap, lN_ap, eL_ap, lLst_ap, eCall_ap, aCons_ap, aNil_ap, eVar_ap, eC_ap, eAnd_ap, eOr_ap, eNot_ap, eIsi_ap, eIf_ap, List.set_cons_succ, List.set_cons_zero, List.getElem?_cons_zero, List.getElem?_cons_succ, bind_ok, calm_ok, gmName_ap, tru_bool, itemsOf_list, itemsOf_tuple, Bool.not_true, Bool.not_false, Bool.false_eq_true, if_false, if_true, endOf, fLen_tupN]) (by show 9 < 11; omega) rfl (by omega) (fun h hh => ⟨by
    have e8 : (PyData.int (h : Int)) = iD h := rfl
    simp only [mSeq_ap, mAsg_ap, mIf_ap, mDrop_ap, mRet_ap, mNext_ap, mFor_ap, imRng_ap, imSeq_ap, tmB_ap, tmNot_ap, tmTru_ap, tmAnd_ap, tmOr_ap, tmYes_ap, e1_ap, e2_ap, eN_ap, lN_ap, eL_ap, lLst_ap, eCall_ap, aCons_ap, aNil_ap, eVar_ap, eC_ap, eAnd_ap, eOr_ap, eNot_ap, eIsi_ap, eIf_ap, List.set_cons_succ, List.set_cons_zero, List.getElem?_cons_zero, List.getElem?_cons_succ, bind_ok, calm_ok, gmName_ap, tru_bool, itemsOf_list, itemsOf_tuple, Bool.not_true, Bool.not_false, Bool.false_eq_true, if_false, if_true, endOf, e8, e5, e6, fAdd_N, fMul_N (by omega : 6 < 2 ^ 62) (by omega : turn < 2 ^ 62), rix hr (by omega : st + 5 + 6 * turn + h < 190), e2', fDiv_N (by omega : 0 < 2) (by omega : 2 < 2 ^ 62), e3, fMod_N (by omega : 0 < 3), e1', fEq_N]
    rfl, fun _ => rfl⟩)
  let l := ((List.range s.length).filter pf).take (1 + at0 r (st + 1 + turn) % 3)
  have hl : ∀ h ∈ l, h < s.length := fun h hh => (lot_filter s.length pf).lt h (List.mem_of_mem_take hh)
  have hll : l.length ≤ 6 := by
    have h1 : l.length ≤ ((List.range s.length).filter pf).length := List.length_take_le' _ _
    have := (lot_filter s.length pf).len
    omega
  have hsl : eSl (eVar 7) oNone (oSome (e2 fAdd (eC (.int 1)) (e2 fMod (eN fInt (aCons (eVar 6) aNil)) (eC (.int 3))))) [.dat (.list (r.map iD)), .dat (tupN s), .dat (iD st), .dat (rowsD s), .own (.lst (tl.map iD)), .dat (iD turn), .dat (iD (at0 r (st + 1 + turn))), .dat (.list (((List.range s.length).filter pf).map iD)), v8, .un, v10] = .ok (.list (l.map iD), [.dat (.list (r.map iD)), .dat (tupN s), .dat (iD st), .dat (rowsD s), .own (.lst (tl.map iD)), .dat (iD turn), .dat (iD (at0 r (st + 1 + turn))), .dat (.list (((List.range s.length).filter pf).map iD)), v8, .un, v10]) := by
    have hx : e2 fAdd (eC (.int 1)) (e2 fMod (eN fInt (aCons (eVar 6) aNil)) (eC (.int 3))) [.dat (.list (r.map iD)), .dat (tupN s), .dat (iD st), .dat (rowsD s), .own (.lst (tl.map iD)), .dat (iD turn), .dat (iD (at0 r (st + 1 + turn))), .dat (.list (((List.range s.length).filter pf).map iD)), v8, .un, v10] = .ok (iD (1 + at0 r (st + 1 + turn) % 3), [.dat (.list (r.map iD)), .dat (tupN s), .dat (iD st), .dat (rowsD s), .own (.lst (tl.map iD)), .dat (iD turn), .dat (iD (at0 r (st + 1 + turn))), .dat (.list (((List.range s.length).filter pf).map iD)), v8, .un, v10]) := by
      simp only [mSeq_ap, mAsg_ap, mIf_ap, mDrop_ap, mRet_ap, mNext_ap, mFor_ap, imRng_ap, imSeq_ap, tmB_ap, tmNot_ap, tmTru_ap, tmAnd_ap, tmOr_ap, tmYes_ap, e1_ap, e2_ap, eN_ap, lN_ap, eL_ap, lLst_ap, eCall_ap, aCons_ap, aNil_ap, eVar_ap, eC_ap, eAnd_ap, eOr_ap, eNot_ap, eIsi_ap, eIf_ap, List.set_cons_succ, List.set_cons_zero, List.getElem?_cons_zero, List.getElem?_cons_succ, bind_ok, calm_ok, gmName_ap, tru_bool, itemsOf_list, itemsOf_tuple, Bool.not_true, Bool.not_false, Bool.false_eq_true, if_false, if_true, endOf, fInt_N, e3, fMod_N (by omega : 0 < 3), e1', fAdd_N]
    have h7 : eVar 7 [.dat (.list (r.map iD)), .dat (tupN s), .dat (iD st), .dat (rowsD s), .own (.lst (tl.map iD)), .dat (iD turn), .dat (iD (at0 r (st + 1 + turn))), .dat (.list (((List.range s.length).filter pf).map iD)), v8, .un, v10] = .ok (.list (((List.range s.length).filter pf).map iD), [.dat (.list (r.map iD)), .dat (tupN s), .dat (iD st), .dat (rowsD s), .own (.lst (tl.map iD)), .dat (iD turn), .dat (iD (at0 r (st + 1 + turn))), .dat (.list (((List.range s.length).filter pf).map iD)), v8, .un, v10]) := rfl
    unfold eSl
    rw [h7, bind_ok]
    dsimp only
    have hN : ∀ en : En, oNone en = .ok (none, en) := fun _ => rfl
    rw [hN, bind_ok]
    dsimp only
    unfold oSome
    rw [hx, bind_ok]
    dsimp only
    rw [bind_ok]
    dsimp only
    congr 2
    have cutg : ∀ (ds : List D) (m : Nat), Mir.cutD ds none (some (m : Int)) = ds.take m := fun ds m => by
      unfold Mir.cutD
      rw [HT.sIx_none, HT.sIx_nat, Nat.sub_zero, List.drop_zero]
      by_cases z : m ≤ ds.length
      · rw [Nat.min_eq_left z]
      · rw [Nat.min_eq_right (by omega), List.take_of_length_le (Nat.le_refl _), List.take_of_length_le (by omega)]
    rw [cutg, ← List.map_take]
  have hg : tmB (e2 fGt (e2 fMod (e2 fDiv (eVar 6) (eC (.int 3))) (eC (.int 4))) (eC (.int 0))) [.dat (.list (r.map iD)), .dat (tupN s), .dat (iD st), .dat (rowsD s), .own (.lst (tl.map iD)), .dat (iD turn), .dat (iD (at0 r (st + 1 + turn))), .dat (.list (l.map iD)), v8, .un, v10] = .ok (decide (0 < at0 r (st + 1 + turn) / 3 % 4), [.dat (.list (r.map iD)), .dat (tupN s), .dat (iD st), .dat (rowsD s), .own (.lst (tl.map iD)), .dat (iD turn), .dat (iD (at0 r (st + 1 + turn))), .dat (.list (l.map iD)), v8, .un, v10]) := by
    simp only [mSeq_ap, mAsg_ap, mIf_ap, mDrop_ap, mRet_ap, mNext_ap, mFor_ap, imRng_ap, imSeq_ap, tmB_ap, tmNot_ap, tmTru_ap, tmAnd_ap, tmOr_ap, tmYes_ap, e1_ap, e2_ap, eN_ap, lN_ap, eL_ap, lLst_ap, eCall_ap, aCons_ap, aNil_ap, eVar_ap, eC_ap, eAnd_ap, eOr_ap, eNot_ap, eIsi_ap, eIf_ap, List.set_cons_succ, List.set_cons_zero, List.getElem?_cons_zero, List.getElem?_cons_succ, bind_ok, calm_ok, gmName_ap, tru_bool, itemsOf_list, itemsOf_tuple, Bool.not_true, Bool.not_false, Bool.false_eq_true, if_false, if_true, endOf, e3, fDiv_N (by omega : 0 < 3) (by omega : 3 < 2 ^ 62), e4, fMod_N (by omega : 0 < 4), e0, fGt_N]
  obtain ⟨en', hf, tl', v8', v10', rfl, h'⟩ := for_rng (j := 8) (n := prodL s) (b := btK) (fun _ en => ∃ (tl : List Nat) (v8 v10 : SV), en = [.dat (.list (r.map iD)), .dat (tupN s), .dat (iD st), .dat (rowsD s), .own (.lst (tl.map iD)), .dat (iD turn), .dat (iD (at0 r (st + 1 + turn))), .dat (.list (l.map iD)), v8, .un, v10] ∧ TOk s tl) (en := [.dat (.list (r.map iD)), .dat (tupN s), .dat (iD st), .dat (rowsD s), .own (.lst (tl.map iD)), .dat (iD turn), .dat (iD (at0 r (st + 1 + turn))), .dat (.list (l.map iD)), v8, .un, v10]) ⟨tl, v8, v10, rfl, h⟩ (by
    rintro k en hk ⟨tl, v8, v10, rfl, h⟩
    obtain ⟨tl', v10', a1, a2⟩ := btK_ok hr hs hst ht hl hll h hk (.dat (iD (at0 r (st + 1 + turn)))) v10
    exact ⟨.nx, _, a1, .inl rfl, tl', _, v10', rfl, a2⟩)
  have em : btT = mSeq (mAsg (gmName 6) (e2 fIx (eVar 0) (e2 fAdd (e2 fAdd (eVar 2) (eC (.int 1))) (eVar 5)))) (mSeq (mAsg (gmName 7) (eL (lLc (imRng rng1 (aCons (eN fLen (aCons (eVar 1) aNil)) aNil)) [9] (gmName 9) (tmB (e2 fEq (e2 fMod (e2 fDiv (e2 fIx (eVar 0) (e2 fAdd (e2 fAdd (e2 fAdd (eVar 2) (eC (.int 5))) (e2 fMul (eC (.int 6)) (eVar 5))) (eVar 9))) (eC (.int 2))) (eC (.int 3))) (eC (.int 1)))) (eVar 9)))) (mSeq (mAsg (gmName 7) (eSl (eVar 7) oNone (oSome (e2 fAdd (eC (.int 1)) (e2 fMod (eN fInt (aCons (eVar 6) aNil)) (eC (.int 3))))))) (mIf (tmB (e2 fGt (e2 fMod (e2 fDiv (eVar 6) (eC (.int 3))) (eC (.int 4))) (eC (.int 0)))) (mFor (imRng rng1 (aCons (eN fLen (aCons (eVar 3) aNil)) aNil)) (gmName 8) btK) mNext))) := rfl
  have s1 : mAsg (gmName 6) (e2 fIx (eVar 0) (e2 fAdd (e2 fAdd (eVar 2) (eC (.int 1))) (eVar 5))) [.dat (.list (r.map iD)), .dat (tupN s), .dat (iD st), .dat (rowsD s), .own (.lst (tl.map iD)), .dat (iD turn), v6, v7, v8, .un, v10] = .ok (.nx, [.dat (.list (r.map iD)), .dat (tupN s), .dat (iD st), .dat (rowsD s), .own (.lst (tl.map iD)), .dat (iD turn), .dat (iD (at0 r (st + 1 + turn))), v7, v8, .un, v10]) := by
    simp only [mSeq_ap, mAsg_ap, mIf_ap, mDrop_ap, mRet_ap, mNext_ap, mFor_ap, imRng_ap, imSeq_ap, tmB_ap, tmNot_ap, tmTru_ap, tmAnd_ap, tmOr_ap, tmYes_ap, e1_ap, e2_ap, eN_ap, lN_ap, eL_ap, lLst_ap, eCall_ap, aCons_ap, aNil_ap, eVar_ap, eC_ap, eAnd_ap, eOr_ap, eNot_ap, eIsi_ap, eIf_ap, List.set_cons_succ, List.set_cons_zero, List.getElem?_cons_zero, List.getElem?_cons_succ, bind_ok, calm_ok, gmName_ap, tru_bool, itemsOf_list, itemsOf_tuple, Bool.not_true, Bool.not_false, Bool.false_eq_true, if_false, if_true, endOf, e1', fAdd_N, rix hr (by omega : st + 1 + turn < 190)]
  by_cases q : 0 < at0 r (st + 1 + turn) / 3 % 4
  · refine ⟨tl', .dat (iD (at0 r (st + 1 + turn))), .dat (.list (l.map iD)), v8', v10', ?_, h'⟩
    rw [em, mSeq_nx s1]
    rw [mSeq_nx (en1 := [.dat (.list (r.map iD)), .dat (tupN s), .dat (iD st), .dat (rowsD s), .own (.lst (tl.map iD)), .dat (iD turn), .dat (iD (at0 r (st + 1 + turn))), .dat (.list (((List.range s.length).filter pf).map iD)), v8, .un, v10]) (by rw [mAsg_ap, eL_ap, hc]; rfl)]
    rw [mSeq_nx (en1 := [.dat (.list (r.map iD)), .dat (tupN s), .dat (iD st), .dat (rowsD s), .own (.lst (tl.map iD)), .dat (iD turn), .dat (iD (at0 r (st + 1 + turn))), .dat (.list (l.map iD)), v8, .un, v10]) (by rw [mAsg_ap, hsl]; rfl)]
    rw [mIf_ap, hg, bind_ok, decide_eq_true q, if_pos rfl]
    simp only [mSeq_ap, mAsg_ap, mIf_ap, mDrop_ap, mRet_ap, mNext_ap, mFor_ap, imRng_ap, imSeq_ap, tmB_ap, tmNot_ap, tmTru_ap, tmAnd_ap, tmOr_ap, tmYes_ap, e1_ap, e2_ap, eN_ap, lN_ap, eL_ap, lLst_ap, eCall_ap, aCons_ap, aNil_ap, eVar_ap, eC_ap, eAnd_ap, eOr_ap, eNot_ap, eIsi_ap, eIf_ap, List.set_cons_succ, List.set_cons_zero, List.getElem?_cons_zero, List.getElem?_cons_succ, bind_ok, calm_ok, gmName_ap, tru_bool, itemsOf_list, itemsOf_tuple, Bool.not_true, Bool.not_false, Bool.false_eq_true, if_false, if_true, endOf, fLen_rows, rng1_nat (by omega : prodL s ≤ 100000), hf]
  · refine ⟨tl, .dat (iD (at0 r (st + 1 + turn))), .dat (.list (l.map iD)), v8, v10, ?_, h⟩
    rw [em, mSeq_nx s1]
    rw [mSeq_nx (en1 := [.dat (.list (r.map iD)), .dat (tupN s), .dat (iD st), .dat (rowsD s), .own (.lst (tl.map iD)), .dat (iD turn), .dat (iD (at0 r (st + 1 + turn))), .dat (.list (((List.range s.length).filter pf).map iD)), v8, .un, v10]) (by rw [mAsg_ap, eL_ap, hc]; rfl)]
    rw [mSeq_nx (en1 := [.dat (.list (r.map iD)), .dat (tupN s), .dat (iD st), .dat (rowsD s), .own (.lst (tl.map iD)), .dat (iD turn), .dat (iD (at0 r (st + 1 + turn))), .dat (.list (l.map iD)), v8, .un, v10]) (by rw [mAsg_ap, hsl]; rfl)]
    rw [mIf_ap, hg, bind_ok, decide_eq_false q, if_neg Bool.false_ne_true]
    rfl
theorem by_terms_ok (hr : Row r) (hs : SzOk s) {st : Nat} (hst : st ≤ 100) : ∃ tl, M__law_by_terms [.list (r.map iD), tupN s, iD st] = .ok (tl.map iD) ∧ TOk s tl := by
  have hp := hs.prod
  have W := wd0 hs
  have e : M__law_by_terms [.list (r.map iD), tupN s, iD st] = (m__law_by_terms [.dat (.list (r.map iD)), .dat (tupN s), .dat (iD st), .un, .un, .un, .un, .un, .un, .un, .un]).bind fun p => .ok p.1 := rfl
  rw [e]
  have em : m__law_by_terms = aSeq (mAsg (gmName 3) (eCall M__law_settings (aCons (eVar 1) aNil))) (aSeq (mAsgO 4 (lRep (lLst (aCons (e2 fMod (eN fInt (aCons (e2 fIx (eVar 0) (eVar 2)) aNil)) (eC (.int 2))) aNil)) (eN fLen (aCons (eVar 3) aNil)))) (aSeq (mFor (imRng rng1 (aCons (eC (.int 4)) aNil)) (gmName 5) btT) (aOwn 4))) := rfl
  have e2' : (PyData.int 2) = iD 2 := rfl
  have hrep := lRep_one (a := e2 fMod (eN fInt (aCons (e2 fIx (eVar 0) (eVar 2)) aNil)) (eC (.int 2))) (m := eN fLen (aCons (eVar 3) aNil)) (en := [.dat (.list (r.map iD)), .dat (tupN s), .dat (iD st), .dat (rowsD s), .un, .un, .un, .un, .un, .un, .un]) (x := at0 r st % 2) (n := prodL s) (by
    simp only [mSeq_ap, mAsg_ap, mIf_ap, mDrop_ap, mRet_ap, mNext_ap, mFor_ap, imRng_ap, imSeq_ap, tmB_ap, tmNot_ap, tmTru_ap, tmAnd_ap, tmOr_ap, tmYes_ap, e1_ap, e2_ap, eN_ap, lN_ap, eL_ap, lLst_ap, eCall_ap, aCons_ap, aNil_ap, eVar_ap, eC_ap, eAnd_ap, eOr_ap, eNot_ap, eIsi_ap, eIf_ap, List.set_cons_succ, List.set_cons_zero, List.getElem?_cons_zero, List.getElem?_cons_succ, bind_ok, calm_ok, gmName_ap, tru_bool, itemsOf_list, itemsOf_tuple, Bool.not_true, Bool.not_false, Bool.false_eq_true, if_false, if_true, endOf, rix hr (by omega : st < 190), fInt_N, e2', fMod_N (by omega : 0 < 2)]) (by simp only [mSeq_ap, mAsg_ap, mIf_ap, mDrop_ap, mRet_ap, mNext_ap, mFor_ap, imRng_ap, imSeq_ap, tmB_ap, tmNot_ap, tmTru_ap, tmAnd_ap, tmOr_ap, tmYes_ap, e1_ap, e2_ap, eN_ap, lN_ap, eL_ap, lLst_ap, eCall_ap, aCons_ap, aNil_ap, eVar_ap, eC_ap, eAnd_ap, eOr_ap, eNot_ap, eIsi_ap, eIf_ap, List.set_cons_succ, List.set_cons_zero, List.getElem?_cons_zero, List.getElem?_cons_succ, bind_ok, calm_ok, gmName_ap, tru_bool, itemsOf_list, itemsOf_tuple, Bool.not_true, Bool.not_false, Bool.false_eq_true, if_false, if_true, endOf, fLen_rows]) (by omega)
  have r4 : rng1 [.int 4] = .ok ((List.range 4).map fun i : Nat => PyData.int (i : Nat)) := rng1_nat (n := 4) (by omega)
  obtain ⟨en', hf, tl, v5, v6, v7, v8, v10, rfl, h⟩ := for_rng (j := 5) (n := 4) (b := btT) (fun _ en => ∃ (tl : List Nat) (v5 v6 v7 v8 v10 : SV), en = [.dat (.list (r.map iD)), .dat (tupN s), .dat (iD st), .dat (rowsD s), .own (.lst (tl.map iD)), v5, v6, v7, v8, .un, v10] ∧ TOk s tl) (en := [.dat (.list (r.map iD)), .dat (tupN s), .dat (iD st), .dat (rowsD s), .own (.lst ((List.replicate (prodL s) (at0 r st % 2)).map iD)), .un, .un, .un, .un, .un, .un]) ⟨_, .un, .un, .un, .un, .un, rfl, t0_ok s _ (Nat.mod_lt _ (by omega))⟩ (by
    rintro turn en ht ⟨tl, v5, v6, v7, v8, v10, rfl, h⟩
    obtain ⟨tl', v6', v7', v8', v10', a1, a2⟩ := btT_ok hr hs hst ht h v6 v7 v8 v10
    exact ⟨.nx, _, a1, .inl rfl, tl', _, v6', v7', v8', v10', rfl, a2⟩)
  refine ⟨tl, ?_, h⟩
  rw [em, aSeq_nx (en1 := [.dat (.list (r.map iD)), .dat (tupN s), .dat (iD st), .dat (rowsD s), .un, .un, .un, .un, .un, .un, .un]) (by simp only [mSeq_ap, mAsg_ap, mIf_ap, mDrop_ap, mRet_ap, mNext_ap, mFor_ap, imRng_ap, imSeq_ap, tmB_ap, tmNot_ap, tmTru_ap, tmAnd_ap, tmOr_ap, tmYes_ap, e1_ap, e2_ap, eN_ap, lN_ap, eL_ap, lLst_ap, eCall_ap, aCons_ap, aNil_ap, eVar_ap, eC_ap, eAnd_ap, eOr_ap, eNot_ap, eIsi_ap, eIf_ap, List.set_cons_succ, List.set_cons_zero, List.getElem?_cons_zero, List.getElem?_cons_succ, bind_ok, calm_ok, gmName_ap, tru_bool, itemsOf_list, itemsOf_tuple, Bool.not_true, Bool.not_false, Bool.false_eq_true, if_false, if_true, endOf, settings_ok W])]
  rw [aSeq_nx (en1 := [.dat (.list (r.map iD)), .dat (tupN s), .dat (iD st), .dat (rowsD s), .own (.lst ((List.replicate (prodL s) (at0 r st % 2)).map iD)), .un, .un, .un, .un, .un, .un]) (by rw [mAsgO_ap, hrep]; rfl)]
  rw [aSeq_nx (en1 := [.dat (.list (r.map iD)), .dat (tupN s), .dat (iD st), .dat (rowsD s), .own (.lst (tl.map iD)), v5, v6, v7, v8, .un, v10]) (by simp only [mSeq_ap, mAsg_ap, mIf_ap, mDrop_ap, mRet_ap, mNext_ap, mFor_ap, imRng_ap, imSeq_ap, tmB_ap, tmNot_ap, tmTru_ap, tmAnd_ap, tmOr_ap, tmYes_ap, e1_ap, e2_ap, eN_ap, lN_ap, eL_ap, lLst_ap, eCall_ap, aCons_ap, aNil_ap, eVar_ap, eC_ap, eAnd_ap, eOr_ap, eNot_ap, eIsi_ap, eIf_ap, List.set_cons_succ, List.set_cons_zero, List.getElem?_cons_zero, List.getElem?_cons_succ, bind_ok, calm_ok, gmName_ap, tru_bool, itemsOf_list, itemsOf_tuple, Bool.not_true, Bool.not_false, Bool.false_eq_true, if_false, if_true, endOf, r4, hf])]
  rfl
/-! ### _law_table -/
def tbM : Sm := mIf (tmB (e2 fLt (eVar 4) (eC (.int 3)))) (mAsgO 5 (lCall M__law_summed (aCons (eVar 0) (aCons (eVar 1) (aCons (eVar 2) aNil))))) (mIf (tmB (e2 fLt (eVar 4) (eC (.int 6)))) (mAsgO 5 (lCall M__law_by_terms (aCons (eVar 0) (aCons (eVar 1) (aCons (eVar 2) aNil))))) (mIf (tmB (e2 fEq (eVar 4) (eC (.int 6)))) (mAsgO 5 (lLc (imRng rng1 (aCons (eVar 3) aNil)) [6] (gmName 6) tmYes (e2 fMod (eN fInt (aCons (e2 fDiv (e2 fIx (eVar 0) (e2 fAdd (e2 fAdd (eVar 2) (eC (.int 10))) (eVar 6))) (eC (.int 7))) aNil)) (eC (.int 2))))) (mAsgO 5 (lRep (lLst (aCons (e2 fMod (eN fInt (aCons (e2 fIx (eVar 0) (eVar 2)) aNil)) (eC (.int 2))) aNil)) (eVar 3)))))
theorem tbM_ok (hr : Row r) (hs : SzOk s) {st mode : Nat} (hst : st ≤ 100) : ∃ tl, tbM [.dat (.list (r.map iD)), .dat (tupN s), .dat (iD st), .dat (iD (prodL s)), .dat (iD mode), .un, .un] = .ok (.nx, [.dat (.list (r.map iD)), .dat (tupN s), .dat (iD st), .dat (iD (prodL s)), .dat (iD mode), .own (.lst (tl.map iD)), .un]) ∧ TOk s tl := by
  have hp := hs.prod
  have e2' : (PyData.int 2) = iD 2 := rfl
  have e3 : (PyData.int 3) = iD 3 := rfl
  have e6 : (PyData.int 6) = iD 6 := rfl
  have e7 : (PyData.int 7) = iD 7 := rfl
  have e10 : (PyData.int 10) = iD 10 := rfl
  have g3 : tmB (e2 fLt (eVar 4) (eC (.int 3))) [.dat (.list (r.map iD)), .dat (tupN s), .dat (iD st), .dat (iD (prodL s)), .dat (iD mode), .un, .un] = .ok (decide (mode < 3), [.dat (.list (r.map iD)), .dat (tupN s), .dat (iD st), .dat (iD (prodL s)), .dat (iD mode), .un, .un]) := by simp only [mSeq_ap, mAsg_ap, mIf_ap, mDrop_ap, mRet_ap, mNext_ap, mFor_ap, imRng_ap, imSeq_ap, tmB_ap, tmNot_ap, tmTru_ap, tmAnd_ap, tmOr_ap, tmYes_ap, e1_ap, e2_ap, eN_ap, lN_ap, eL_ap, lLst_ap, eCall_ap, aCons_ap, aNil_ap, eVar_ap, eC_ap, eAnd_ap, eOr_ap, eNot_ap, eIsi_ap, eIf_ap, List.set_cons_succ, List.set_cons_zero, List.getElem?_cons_zero, List.getElem?_cons_succ, bind_ok, calm_ok, gmName_ap, tru_bool, itemsOf_list, itemsOf_tuple, Bool.not_true, Bool.not_false, Bool.false_eq_true, if_false, if_true, endOf, e3, fLt_N]
  have g6 : tmB (e2 fLt (eVar 4) (eC (.int 6))) [.dat (.list (r.map iD)), .dat (tupN s), .dat (iD st), .dat (iD (prodL s)), .dat (iD mode), .un, .un] = .ok (decide (mode < 6), [.dat (.list (r.map iD)), .dat (tupN s), .dat (iD st), .dat (iD (prodL s)), .dat (iD mode), .un, .un]) := by simp only [mSeq_ap, mAsg_ap, mIf_ap, mDrop_ap, mRet_ap, mNext_ap, mFor_ap, imRng_ap, imSeq_ap, tmB_ap, tmNot_ap, tmTru_ap, tmAnd_ap, tmOr_ap, tmYes_ap, e1_ap, e2_ap, eN_ap, lN_ap, eL_ap, lLst_ap, eCall_ap, aCons_ap, aNil_ap, eVar_ap, eC_ap, eAnd_ap, eOr_ap, eNot_ap, eIsi_ap, eIf_ap, List.set_cons_succ, List.set_cons_zero, List.getElem?_cons_zero, List.getElem?_cons_succ, bind_ok, calm_ok, gmName_ap, tru_bool, itemsOf_list, itemsOf_tuple, Bool.not_true, Bool.not_false, Bool.false_eq_true, if_false, if_true, endOf, e6, fLt_N]
  have g66 : tmB (e2 fEq (eVar 4) (eC (.int 6))) [.dat (.list (r.map iD)), .dat (tupN s), .dat (iD st), .dat (iD (prodL s)), .dat (iD mode), .un, .un] = .ok (decide (mode = 6), [.dat (.list (r.map iD)), .dat (tupN s), .dat (iD st), .dat (iD (prodL s)), .dat (iD mode), .un, .un]) := by simp only [mSeq_ap, mAsg_ap, mIf_ap, mDrop_ap, mRet_ap, mNext_ap, mFor_ap, imRng_ap, imSeq_ap, tmB_ap, tmNot_ap, tmTru_ap, tmAnd_ap, tmOr_ap, tmYes_ap, e1_ap, e2_ap, eN_ap, lN_ap, eL_ap, lLst_ap, eCall_ap, aCons_ap, aNil_ap, eVar_ap, eC_ap, eAnd_ap, eOr_ap, eNot_ap, eIsi_ap, eIf_ap, List.set_cons_succ, List.set_cons_zero, List.getElem?_cons_zero, List.getElem?_cons_succ, bind_ok, calm_ok, gmName_ap, tru_bool, itemsOf_list, itemsOf_tuple, Bool.not_true, Bool.not_false, Bool.false_eq_true, if_false, if_true, endOf, e6, fEq_N]
  by_cases q3 : mode < 3
  · obtain ⟨tl, h1, h2⟩ := summed_ok hr hs hst
    refine ⟨tl, ?_, h2⟩
    unfold tbM
    rw [mIf_ap, g3, bind_ok, decide_eq_true q3, if_pos rfl]
    have hc : lCall M__law_summed (aCons (eVar 0) (aCons (eVar 1) (aCons (eVar 2) aNil))) [.dat (.list (r.map iD)), .dat (tupN s), .dat (iD st), .dat (iD (prodL s)), .dat (iD mode), .un, .un] = .ok (tl.map iD, [.dat (.list (r.map iD)), .dat (tupN s), .dat (iD st), .dat (iD (prodL s)), .dat (iD mode), .un, .un]) := by
      unfold lCall
      simp only [aCons_ap, aNil_ap, eVar_ap, List.getElem?_cons_zero, List.getElem?_cons_succ, bind_ok, h1, calm_ok]
    rw [mAsgO_ap, hc]
    rfl
  · by_cases q6 : mode < 6
    · obtain ⟨tl, h1, h2⟩ := by_terms_ok hr hs hst
      refine ⟨tl, ?_, h2⟩
      unfold tbM
      rw [mIf_ap, g3, bind_ok, decide_eq_false q3, if_neg Bool.false_ne_true, mIf_ap, g6, bind_ok, decide_eq_true q6, if_pos rfl]
      have hc : lCall M__law_by_terms (aCons (eVar 0) (aCons (eVar 1) (aCons (eVar 2) aNil))) [.dat (.list (r.map iD)), .dat (tupN s), .dat (iD st), .dat (iD (prodL s)), .dat (iD mode), .un, .un] = .ok (tl.map iD, [.dat (.list (r.map iD)), .dat (tupN s), .dat (iD st), .dat (iD (prodL s)), .dat (iD mode), .un, .un]) := by
        unfold lCall
        simp only [aCons_ap, aNil_ap, eVar_ap, List.getElem?_cons_zero, List.getElem?_cons_succ, bind_ok, h1, calm_ok]
      rw [mAsgO_ap, hc]
      rfl
    · by_cases q66 : mode = 6
      · have hc := lLc_nat (j := 6) (a := aCons (eVar 3) aNil) (t := tmYes) (m := e2 fMod (eN fInt (aCons (e2 fDiv (e2 fIx (eVar 0) (e2 fAdd (e2 fAdd (eVar 2) (eC (.int 10))) (eVar 6))) (eC (.int 7))) aNil)) (eC (.int 2))) (en := [.dat (.list (r.map iD)), .dat (tupN s), .dat (iD st), .dat (iD (prodL s)), .dat (iD mode), .un, .un]) (n := prodL s) (fun _ => true) (fun k => iD (at0 r (st + 10 + k) / 7 % 2)) rfl (by show 6 < 7; omega) rfl (by omega) (fun k hk => ⟨rfl, fun _ => by
          have e8 : (PyData.int (k : Int)) = iD k := rfl
          simp only [mSeq_ap, mAsg_ap, mIf_ap, mDrop_ap, mRet_ap, mNext_ap, mFor_ap, imRng_ap, imSeq_ap, tmB_ap, tmNot_ap, tmTru_ap, tmAnd_ap, tmOr_ap, tmYes_ap, e1_ap, e2_ap, eN_ap, lN_ap, eL_ap, lLst_ap, eCall_ap, aCons_ap, aNil_ap, eVar_ap, eC_ap, eAnd_ap, eOr_ap, eNot_ap, eIsi_ap, eIf_ap, List.set_cons_succ, List.set_cons_zero, List.getElem?_cons_zero, List.getElem?_cons_succ, bind_ok, calm_ok, gmName_ap, tru_bool, itemsOf_list, itemsOf_tuple, Bool.not_true, Bool.not_false, Bool.false_eq_true, if_false, if_true, endOf, e8, e10, fAdd_N, rix hr (by omega : st + 10 + k < 190), e7, fDiv_N (by omega : 0 < 7) (by omega : 7 < 2 ^ 62), fInt_N, e2', fMod_N (by omega : 0 < 2)]⟩)
        refine ⟨(List.range (prodL s)).map fun k => at0 r (st + 10 + k) / 7 % 2, ?_, ⟨by rw [List.length_map, List.length_range], fun b hb => by
          obtain ⟨k, _, rfl⟩ := List.mem_map.mp hb
          exact Nat.mod_lt _ (by omega)⟩⟩
        unfold tbM
        rw [mIf_ap, g3, bind_ok, decide_eq_false q3, if_neg Bool.false_ne_true, mIf_ap, g6, bind_ok, decide_eq_false q6, if_neg Bool.false_ne_true, mIf_ap, g66, bind_ok, decide_eq_true q66, if_pos rfl]
        rw [mAsgO_ap, hc, List.filter_eq_self.mpr fun _ _ => rfl, List.map_map]
        rfl
      · have hrep := lRep_one (a := e2 fMod (eN fInt (aCons (e2 fIx (eVar 0) (eVar 2)) aNil)) (eC (.int 2))) (m := eVar 3) (en := [.dat (.list (r.map iD)), .dat (tupN s), .dat (iD st), .dat (iD (prodL s)), .dat (iD mode), .un, .un]) (x := at0 r st % 2) (n := prodL s) (by
          simp only [mSeq_ap, mAsg_ap, mIf_ap, mDrop_ap, mRet_ap, mNext_ap, mFor_ap, imRng_ap, imSeq_ap, tmB_ap, tmNot_ap, tmTru_ap, tmAnd_ap, tmOr_ap, tmYes_ap, e1_ap, e2_ap, eN_ap, lN_ap, eL_ap, lLst_ap, eCall_ap, aCons_ap, aNil_ap, eVar_ap, eC_ap, eAnd_ap, eOr_ap, eNot_ap, eIsi_ap, eIf_ap, List.set_cons_succ, List.set_cons_zero, List.getElem?_cons_zero, List.getElem?_cons_succ, bind_ok, calm_ok, gmName_ap, tru_bool, itemsOf_list, itemsOf_tuple, Bool.not_true, Bool.not_false, Bool.false_eq_true, if_false, if_true, endOf, rix hr (by omega : st < 190), fInt_N, e2', fMod_N (by omega : 0 < 2)]) rfl (by omega)
        refine ⟨List.replicate (prodL s) (at0 r st % 2), ?_, t0_ok s _ (Nat.mod_lt _ (by omega))⟩
        unfold tbM
        rw [mIf_ap, g3, bind_ok, decide_eq_false q3, if_neg Bool.false_ne_true, mIf_ap, g6, bind_ok, decide_eq_false q6, if_neg Bool.false_ne_true, mIf_ap, g66, bind_ok, decide_eq_false q66, if_neg Bool.false_ne_true]
        rw [mAsgO_ap, hrep]
        rfl
theorem table_ok (hr : Row r) (hs : SzOk s) {st : Nat} (hst : st ≤ 100) : ∃ tl, M__law_table [.list (r.map iD), tupN s, iD st] = .ok (tupN tl) ∧ TOk s tl := by
  have hp := hs.prod
  have hpos := prod_pos hs.pos
  have W := wd0 hs
  have e : M__law_table [.list (r.map iD), tupN s, iD st] = ((endOf (m__law_table [.dat (.list (r.map iD)), .dat (tupN s), .dat (iD st), .un, .un, .un, .un])).bind fun p => .ok p.1) := rfl
  rw [e]
  have em : m__law_table = mSeq (mAsg (gmName 3) (eN fLen (aCons (eCall M__law_settings (aCons (eVar 1) aNil)) aNil))) (mSeq (mAsg (gmName 4) (e2 fMod (eN fInt (aCons (e2 fIx (eVar 0) (e2 fAdd (eVar 2) (eC (.int 29)))) aNil)) (eC (.int 8)))) (mSeq tbM (mSeq (mIf (tmB (e2 fIn (eVar 4) (eTup (aCons (eC (.int 2)) (aCons (eC (.int 7)) aNil))))) (mSeq (mAsg (gmName 6) (e2 fMod (eN fInt (aCons (e2 fIx (eVar 0) (e2 fAdd (eVar 2) (eC (.int 28)))) aNil)) (eVar 3))) (mSetO 5 (eVar 6) (e2 fSub (eC (.int 1)) (eBIx 5 (eVar 6))))) mNext) (mRet (eN fTuple (aCons (eVar 5) aNil)))))) := rfl
  have e1' : (PyData.int 1) = iD 1 := rfl
  have e8 : (PyData.int 8) = iD 8 := rfl
  have e28 : (PyData.int 28) = iD 28 := rfl
  have e29 : (PyData.int 29) = iD 29 := rfl
  obtain ⟨tl, h1, h2⟩ := tbM_ok hr hs (mode := at0 r (st + 29) % 8) hst
  have hb2 : ∀ x y : D, ([x, y].length ≤ big) = True := fun _ _ => eq_true (by show 2 ≤ 100000; omega)
  have s1 : mAsg (gmName 3) (eN fLen (aCons (eCall M__law_settings (aCons (eVar 1) aNil)) aNil)) [.dat (.list (r.map iD)), .dat (tupN s), .dat (iD st), .un, .un, .un, .un] = .ok (.nx, [.dat (.list (r.map iD)), .dat (tupN s), .dat (iD st), .dat (iD (prodL s)), .un, .un, .un]) := by simp only [mSeq_ap, mAsg_ap, mIf_ap, mDrop_ap, mRet_ap, mNext_ap, mFor_ap, imRng_ap, imSeq_ap, tmB_ap, tmNot_ap, tmTru_ap, tmAnd_ap, tmOr_ap, tmYes_ap, e1_ap, e2_ap, eN_ap, lN_ap, eL_ap, lLst_ap, eCall_ap, aCons_ap, aNil_ap, eVar_ap, eC_ap, eAnd_ap, eOr_ap, eNot_ap, eIsi_ap, eIf_ap, List.set_cons_succ, List.set_cons_zero, List.getElem?_cons_zero, List.getElem?_cons_succ, bind_ok, calm_ok, gmName_ap, tru_bool, itemsOf_list, itemsOf_tuple, Bool.not_true, Bool.not_false, Bool.false_eq_true, if_false, if_true, endOf, settings_ok W, fLen_rows]
  have s2 : mAsg (gmName 4) (e2 fMod (eN fInt (aCons (e2 fIx (eVar 0) (e2 fAdd (eVar 2) (eC (.int 29)))) aNil)) (eC (.int 8))) [.dat (.list (r.map iD)), .dat (tupN s), .dat (iD st), .dat (iD (prodL s)), .un, .un, .un] = .ok (.nx, [.dat (.list (r.map iD)), .dat (tupN s), .dat (iD st), .dat (iD (prodL s)), .dat (iD (at0 r (st + 29) % 8)), .un, .un]) := by
    simp only [mSeq_ap, mAsg_ap, mIf_ap, mDrop_ap, mRet_ap, mNext_ap, mFor_ap, imRng_ap, imSeq_ap, tmB_ap, tmNot_ap, tmTru_ap, tmAnd_ap, tmOr_ap, tmYes_ap, e1_ap, e2_ap, eN_ap, lN_ap, eL_ap, lLst_ap, eCall_ap, aCons_ap, aNil_ap, eVar_ap, eC_ap, eAnd_ap, eOr_ap, eNot_ap, eIsi_ap, eIf_ap, List.set_cons_succ, List.set_cons_zero, List.getElem?_cons_zero, List.getElem?_cons_succ, bind_ok, calm_ok, gmName_ap, tru_bool, itemsOf_list, itemsOf_tuple, Bool.not_true, Bool.not_false, Bool.false_eq_true, if_false, if_true, endOf, e29, fAdd_N, rix hr (by omega : st + 29 < 190), fInt_N, e8, fMod_N (by omega : 0 < 8)]
  generalize at0 r (st + 29) % 8 = mode at h1 s2
  have hg : tmB (e2 fIn (eVar 4) (eTup (aCons (eC (.int 2)) (aCons (eC (.int 7)) aNil)))) [.dat (.list (r.map iD)), .dat (tupN s), .dat (iD st), .dat (iD (prodL s)), .dat (iD mode), .own (.lst (tl.map iD)), .un] = .ok (decide (mode ∈ [2, 7]), [.dat (.list (r.map iD)), .dat (tupN s), .dat (iD st), .dat (iD (prodL s)), .dat (iD mode), .own (.lst (tl.map iD)), .un]) := by
    have hi : fIn (iD mode) (.tuple [.int 2, .int 7]) = .ok (.bool (decide (mode ∈ [2, 7]))) := in_tup mode [2, 7]
    simp only [mSeq_ap, mAsg_ap, mIf_ap, mDrop_ap, mRet_ap, mNext_ap, mFor_ap, imRng_ap, imSeq_ap, tmB_ap, tmNot_ap, tmTru_ap, tmAnd_ap, tmOr_ap, tmYes_ap, e1_ap, e2_ap, eN_ap, lN_ap, eL_ap, lLst_ap, eCall_ap, aCons_ap, aNil_ap, eVar_ap, eC_ap, eAnd_ap, eOr_ap, eNot_ap, eIsi_ap, eIf_ap, List.set_cons_succ, List.set_cons_zero, List.getElem?_cons_zero, List.getElem?_cons_succ, bind_ok, calm_ok, gmName_ap, tru_bool, itemsOf_list, itemsOf_tuple, Bool.not_true, Bool.not_false, Bool.false_eq_true, if_false, if_true, endOf, eTup_ap, hb2, hi]
  rw [em, mSeq_nx s1, mSeq_nx s2, mSeq_nx h1]
  by_cases q : mode ∈ [2, 7]
  · have hkl : at0 r (st + 28) % prodL s < tl.length := by rw [h2.len]; exact Nat.mod_lt _ hpos
    refine ⟨tl.set (at0 r (st + 28) % prodL s) (1 - at0 tl (at0 r (st + 28) % prodL s)), ?_, h2.set _ (by omega)⟩
    have hbt := h2.at (at0 r (st + 28) % prodL s)
    have sK : mAsg (gmName 6) (e2 fMod (eN fInt (aCons (e2 fIx (eVar 0) (e2 fAdd (eVar 2) (eC (.int 28)))) aNil)) (eVar 3)) [.dat (.list (r.map iD)), .dat (tupN s), .dat (iD st), .dat (iD (prodL s)), .dat (iD mode), .own (.lst (tl.map iD)), .un] = .ok (.nx, [.dat (.list (r.map iD)), .dat (tupN s), .dat (iD st), .dat (iD (prodL s)), .dat (iD mode), .own (.lst (tl.map iD)), .dat (iD (at0 r (st + 28) % prodL s))]) := by
      simp only [mSeq_ap, mAsg_ap, mIf_ap, mDrop_ap, mRet_ap, mNext_ap, mFor_ap, imRng_ap, imSeq_ap, tmB_ap, tmNot_ap, tmTru_ap, tmAnd_ap, tmOr_ap, tmYes_ap, e1_ap, e2_ap, eN_ap, lN_ap, eL_ap, lLst_ap, eCall_ap, aCons_ap, aNil_ap, eVar_ap, eC_ap, eAnd_ap, eOr_ap, eNot_ap, eIsi_ap, eIf_ap, List.set_cons_succ, List.set_cons_zero, List.getElem?_cons_zero, List.getElem?_cons_succ, bind_ok, calm_ok, gmName_ap, tru_bool, itemsOf_list, itemsOf_tuple, Bool.not_true, Bool.not_false, Bool.false_eq_true, if_false, if_true, endOf, e28, fAdd_N, rix hr (by omega : st + 28 < 190), fInt_N, fMod_N hpos]
    generalize at0 r (st + 28) % prodL s = kk at hkl hbt sK
    have hb := eBIx_ok (i := 5) (m := eVar 6) (en := [.dat (.list (r.map iD)), .dat (tupN s), .dat (iD st), .dat (iD (prodL s)), .dat (iD mode), .own (.lst (tl.map iD)), .dat (iD kk)]) (ds := tl.map iD) (k := (kk : Int)) (d := iD (at0 tl kk)) rfl rfl (by rw [atI_N tl kk hkl, at0_get hkl])
    rw [mSeq_nx (en1 := [.dat (.list (r.map iD)), .dat (tupN s), .dat (iD st), .dat (iD (prodL s)), .dat (iD mode), .own (.lst ((tl.set kk (1 - at0 tl kk)).map iD)), .dat (iD kk)]) (by
      rw [mIf_ap, hg, bind_ok, decide_eq_true q, if_pos rfl, mSeq_nx sK, mSetO_ok (j := kk) (ds := tl.map iD) (d := iD (1 - at0 tl kk)) (by
        rw [e2_ap, eC_ap, bind_ok]
        dsimp only
        rw [hb, bind_ok]
        dsimp only
        rw [e1', fSub_N (by omega)]
        rfl) rfl rfl (by rw [List.length_map]; exact hkl), List.map_set]
      rfl)]
    rfl
  · refine ⟨tl, ?_, h2⟩
    rw [mSeq_nx (en1 := [.dat (.list (r.map iD)), .dat (tupN s), .dat (iD st), .dat (iD (prodL s)), .dat (iD mode), .own (.lst (tl.map iD)), .un]) (by
      rw [mIf_ap, hg, bind_ok, decide_eq_false q, if_neg Bool.false_ne_true]
      rfl)]
    rfl
end
end K07
end

section
set_option Elab.async false
set_option linter.all false
set_option maxRecDepth 100000
set_option maxHeartbeats 4000000
/-! K07Z: the law. -/
namespace K07
open PySem PySem.Spec PyProof.Rows L2 Mir Dg
def lwB : Sm := mIf (tmTru (eCall M__law_knit (aCons (eVar 2) (aCons (eVar 6) (aCons (eVar 8) (aCons (eVar 9) aNil)))))) (mApp 7 (eTup (aCons (eVar 8) (aCons (eVar 9) aNil)))) mNext
def lwR : Sm := mFor (imRng rng2 (aCons (e2 fAdd (eVar 8) (eC (.int 1))) (aCons (eN fLen (aCons (eVar 2) aNil)) aNil))) (gmName 9) lwB
section
variable {s t : List Nat}
theorem lw_row (W : Wd s t) {A R T U C : D} {i : Nat} (hi : i < s.length) {acc : List (Nat × Nat)} (ha : acc.length ≤ 1000) (v9 : SV) : ∃ v9', lwR [.dat A, .dat R, .dat (tupN s), .dat T, .dat U, .dat C, .dat (tupN t), .own (.lst (acc.map pD)), .dat (iD i), v9] = .ok (.nx, [.dat A, .dat R, .dat (tupN s), .dat T, .dat U, .dat C, .dat (tupN t), .own (.lst ((acc ++ rowP s t i).map pD)), .dat (iD i), v9']) := by
  have h6 := W.six
  obtain ⟨en', h1, v9', rfl⟩ := for_rng2 (j := 9) (a := i + 1) (b := s.length) (bd := lwB) (fun k en => ∃ v9, en = [.dat A, .dat R, .dat (tupN s), .dat T, .dat U, .dat C, .dat (tupN t), .own (.lst ((acc ++ (((List.range k).map (i + 1 + ·)).filter (kb s t i)).map fun j => (i, j)).map pD)), .dat (iD i), v9]) (en := [.dat A, .dat R, .dat (tupN s), .dat T, .dat U, .dat C, .dat (tupN t), .own (.lst (acc.map pD)), .dat (iD i), v9]) ⟨v9, by simp⟩ (by
    rintro k en hk ⟨v9, rfl⟩
    have hne : i ≠ i + 1 + k := by omega
    have er : (((List.range (k + 1)).map (i + 1 + ·)).filter (kb s t i)).map (fun j => (i, j)) = (((List.range k).map (i + 1 + ·)).filter (kb s t i)).map (fun j => (i, j)) ++ if kb s t i (i + 1 + k) = true then [(i, i + 1 + k)] else [] := by
      rw [List.range_succ, List.map_append, List.filter_append, List.map_append]
      congr 1
      cases q : kb s t i (i + 1 + k) <;> simp [q]
    refine ⟨.nx, [.dat A, .dat R, .dat (tupN s), .dat T, .dat U, .dat C, .dat (tupN t), .own (.lst ((acc ++ (((List.range (k + 1)).map (i + 1 + ·)).filter (kb s t i)).map fun j => (i, j)).map pD)), .dat (iD i), .dat (iD (i + 1 + k))], ?_, .inl rfl, _, rfl⟩
    show lwB [.dat A, .dat R, .dat (tupN s), .dat T, .dat U, .dat C, .dat (tupN t), .own (.lst ((acc ++ (((List.range k).map (i + 1 + ·)).filter (kb s t i)).map fun j => (i, j)).map pD)), .dat (iD i), .dat (iD (i + 1 + k))] = _
    have hk' := knit_ok W hi (by omega : i + 1 + k < s.length) hne
    rw [kn_kb W hi (by omega) hne] at hk'
    unfold lwB
    simp only [mSeq_ap, mAsg_ap, mIf_ap, mDrop_ap, mRet_ap, mNext_ap, mFor_ap, imRng_ap, imSeq_ap, tmB_ap, tmNot_ap, tmTru_ap, tmAnd_ap, tmOr_ap, tmYes_ap, e1_ap, e2_ap, eN_ap, lN_ap, eL_ap, lLst_ap, eCall_ap, aCons_ap, aNil_ap, eVar_ap, eC_ap, eAnd_ap, eOr_ap, eNot_ap, eIsi_ap, eIf_ap, List.set_cons_succ, List.set_cons_zero, List.getElem?_cons_zero, List.getElem?_cons_succ, bind_ok, calm_ok, gmName_ap, tru_bool, itemsOf_list, itemsOf_tuple, Bool.not_true, Bool.not_false, Bool.false_eq_true, if_false, if_true, endOf, hk']
    rw [er]
    cases q : kb s t i (i + 1 + k) with
    | true =>
      rw [if_pos rfl, if_pos rfl]
      rw [mApp_ok (ds := (acc ++ (((List.range k).map (i + 1 + ·)).filter (kb s t i)).map fun j => (i, j)).map pD) (d := tupN [i, i + 1 + k]) rfl rfl (by
        rw [List.length_map, List.length_append, List.length_map]
        have := List.length_filter_le (kb s t i) ((List.range k).map (i + 1 + ·))
        rw [List.length_map, List.length_range] at this
        show _ < 100000
        omega)]
      rw [← List.append_assoc, List.map_append (l₁ := acc ++ _)]
      rfl
    | false =>
      rw [if_neg Bool.false_ne_true, if_neg Bool.false_ne_true, List.append_nil])
  refine ⟨v9', ?_⟩
  have hr : rng2 [iD (i + 1), iD s.length] = .ok ((rngN (i + 1) s.length).map iD) := rng2_N _ _ (by omega) (by omega)
  have ha : fAdd (iD i) (.int 1) = .ok (iD (i + 1)) := fAdd_N i 1
  unfold lwR
  simp only [mSeq_ap, mAsg_ap, mIf_ap, mDrop_ap, mRet_ap, mNext_ap, mFor_ap, imRng_ap, imSeq_ap, tmB_ap, tmNot_ap, tmTru_ap, tmAnd_ap, tmOr_ap, tmYes_ap, e1_ap, e2_ap, eN_ap, lN_ap, eL_ap, lLst_ap, eCall_ap, aCons_ap, aNil_ap, eVar_ap, eC_ap, eAnd_ap, eOr_ap, eNot_ap, eIsi_ap, eIf_ap, List.set_cons_succ, List.set_cons_zero, List.getElem?_cons_zero, List.getElem?_cons_succ, bind_ok, calm_ok, gmName_ap, tru_bool, itemsOf_list, itemsOf_tuple, Bool.not_true, Bool.not_false, Bool.false_eq_true, if_false, if_true, endOf, ha, fLen_tupN, hr, h1]
  rfl
theorem idleT_len (W : Wd s t) : (idleT s t).length ≤ 1000 := by
  have h6 := W.six
  unfold idleT
  have := List.length_filter_le (idL s t) (List.range s.length)
  rw [List.length_range] at this
  omega
theorem same_clumps (W : Wd s t) : M__law_same [FD (clumps s.length (labels s.length (prs s t))), FD (clumps s.length (labels s.length (prs s t)))] = .ok (.bool true) := by
  have h6 := W.six
  refine same_FD _ ?_ fun c hc => ?_
  · unfold clumps
    rw [List.length_map]
    have := List.length_filter_le (fun m => decide (m ∈ labels s.length (prs s t))) (List.range s.length)
    rw [List.length_range] at this
    omega
  · unfold clumps at hc
    obtain ⟨m, _, rfl⟩ := List.mem_map.mp hc
    unfold clump
    have := List.length_filter_le (fun h => decide (at0 (labels s.length (prs s t)) h = m)) (List.range s.length)
    rw [List.length_range] at this
    omega
theorem same_prs (W : Wd s t) : M__law_same [FD ((prs s t).map fun p => [p.1, p.2]), FD ((prs s t).map fun p => [p.1, p.2])] = .ok (.bool true) := by
  have hpl := prs_len W
  refine same_FD _ (by rw [List.length_map]; omega) fun a ha => ?_
  obtain ⟨p, _, rfl⟩ := List.mem_map.mp ha
  show 2 ≤ 1000
  omega
theorem tup_prs : fTuple [.list ((prs s t).map pD)] = .ok (FD ((prs s t).map fun p => [p.1, p.2])) := by
  show Rs.ok (PyData.tuple ((prs s t).map pD)) = _
  unfold FD
  rw [List.map_map]
  rfl
end
theorem law_true (ns : List Int) (hl : ns.length ≤ 63) : M_law [.list (ns.map PyData.int)] = .ok (.bool true) := by
  have e : M_law [.list (ns.map PyData.int)] = ((endOf (m_law [.dat (.list (ns.map PyData.int)), .un, .un, .un, .un, .un, .un, .un, .un, .un])).bind fun p => .ok p.1) := rfl
  rw [e]
  obtain ⟨r, hrow, hr⟩ := row_ok' ns hl
  obtain ⟨s, hsz, hs⟩ := sizes_ok hr
  obtain ⟨t, ht, hto⟩ := table_ok hr hs (st := 9) (by omega)
  obtain ⟨u, hu, huo⟩ := table_ok hr hs (st := 100) (by omega)
  have W := wd_of hs hto
  have V := wd_of hs huo
  have h6 := hs.six
  have em : m_law = mSeq (mAsg (gmName 1) (eCall M__law_row (aCons (eVar 0) (aCons (eC (.int 190)) aNil)))) (mSeq (mAsg (gmName 2) (eCall M__law_sizes (aCons (eVar 1) aNil))) (mSeq (mAsg (gmName 3) (eCall M__law_table (aCons (eVar 1) (aCons (eVar 2) (aCons (eC (.int 9)) aNil))))) (mSeq (mIf (tmNot (tmTru (eCall M__law_pairs_right (aCons (eVar 2) (aCons (eVar 3) aNil))))) (mRet (eC (.bool false))) mNext) (mSeq (mAsg (gmName 4) (eCall M__law_idle (aCons (eVar 2) (aCons (eVar 3) aNil)))) (mSeq (mIf (tmNot (tmTru (eCall M__law_same (aCons (eCall M_idle_houses (aCons (eVar 2) (aCons (eVar 3) aNil))) (aCons (eVar 4) aNil))))) (mRet (eC (.bool false))) mNext) (mSeq (mAsg (gmName 5) (eCall M_clumps_of (aCons (eVar 2) (aCons (eVar 3) aNil)))) (mSeq (mAsg (gmName 6) (eCall M__law_table (aCons (eVar 1) (aCons (eVar 2) (aCons (eC (.int 100)) aNil))))) (mSeq (mIf (tmNot (tmTru (eCall M__law_same (aCons (eCall M_idle_houses (aCons (eVar 2) (aCons (eVar 6) aNil))) (aCons (eCall M__law_idle (aCons (eVar 2) (aCons (eVar 6) aNil))) aNil))))) (mRet (eC (.bool false))) mNext) (mSeq (mAsgO 7 (lLst aNil)) (mSeq (mFor (imRng rng1 (aCons (eN fLen (aCons (eVar 2) aNil)) aNil)) (gmName 8) lwR) (mSeq (mIf (tmOr (tmNot (tmTru (eCall M__law_same (aCons (eCall M_clumps_of (aCons (eVar 2) (aCons (eVar 6) aNil))) (aCons (eCall M__law_classes (aCons (eN fLen (aCons (eVar 2) aNil)) (aCons (eVar 7) aNil))) aNil))))) (tmNot (tmTru (eCall M__law_same (aCons (eCall M_knit_pairs (aCons (eVar 2) (aCons (eVar 6) aNil))) (aCons (eN fTuple (aCons (eVar 7) aNil)) aNil)))))) (mRet (eC (.bool false))) mNext) (mRet (eAnd (eCall M__law_same (aCons (eCall M_clumps_of (aCons (eVar 2) (aCons (eVar 3) aNil))) (aCons (eVar 5) aNil))) (eCall M__law_same (aCons (eCall M_idle_houses (aCons (eVar 2) (aCons (eVar 3) aNil))) (aCons (eVar 4) aNil)))))))))))))))) := rfl
  generalize hA : PyData.list (ns.map PyData.int) = A at hrow
  have k1 : M__law_row [A, .int 190] = .ok (.list (r.map iD)) := hrow
  have k3 : M__law_table [.list (r.map iD), tupN s, .int 9] = .ok (tupN t) := ht
  have k8 : M__law_table [.list (r.map iD), tupN s, .int 100] = .ok (tupN u) := hu
  generalize PyData.list (r.map iD) = R at k1 hsz k3 k8
  generalize hC : FD (clumps s.length (labels s.length (prs s t))) = C
  obtain ⟨en', hf, v8, v9, rfl⟩ := for_rng (j := 8) (n := s.length) (b := lwR) (fun i en => ∃ v8 v9, en = [.dat A, .dat R, .dat (tupN s), .dat (tupN t), .dat (tupN (idleT s t)), .dat C, .dat (tupN u), .own (.lst (((List.range i).flatMap (rowP s u)).map pD)), v8, v9]) (en := [.dat A, .dat R, .dat (tupN s), .dat (tupN t), .dat (tupN (idleT s t)), .dat C, .dat (tupN u), .own (.lst []), .un, .un]) ⟨_, _, rfl⟩ (by
    rintro i en hi ⟨v8, v9, rfl⟩
    have hl := flat_len (rowP s u) s.length (List.range i) fun x _ => rowP_len x
    rw [List.length_range] at hl
    have : i * s.length ≤ 6 * 6 := Nat.mul_le_mul (by omega) h6
    obtain ⟨v9', h⟩ := lw_row V (A := A) (R := R) (T := tupN t) (U := tupN (idleT s t)) (C := C) hi (acc := (List.range i).flatMap (rowP s u)) (by omega) v9
    have er : (List.range (i + 1)).flatMap (rowP s u) = (List.range i).flatMap (rowP s u) ++ rowP s u i := by rw [List.range_succ, List.flatMap_append, List.flatMap_singleton]
    rw [er]
    exact ⟨.nx, _, h, .inl rfl, _, v9', rfl⟩)
  have hP : (List.range s.length).flatMap (rowP s u) = prs s u := rfl
  rw [hP] at hf
  have hcls := classes_ok h6 (ps := prs s u) fun p hp => prs_lt hp
  have hsc := same_clumps W
  have hco := clumps_ok W
  rw [hC] at hsc hco
  rw [em]
  rw [mSeq_nx (en1 := [.dat A, .dat R, .un, .un, .un, .un, .un, .un, .un, .un]) (by simp only [mSeq_ap, mAsg_ap, mIf_ap, mDrop_ap, mRet_ap, mNext_ap, mFor_ap, imRng_ap, imSeq_ap, tmB_ap, tmNot_ap, tmTru_ap, tmAnd_ap, tmOr_ap, tmYes_ap, e1_ap, e2_ap, eN_ap, lN_ap, eL_ap, lLst_ap, eCall_ap, aCons_ap, aNil_ap, eVar_ap, eC_ap, eAnd_ap, eOr_ap, eNot_ap, eIsi_ap, eIf_ap, List.set_cons_succ, List.set_cons_zero, List.getElem?_cons_zero, List.getElem?_cons_succ, bind_ok, calm_ok, gmName_ap, tru_bool, itemsOf_list, itemsOf_tuple, Bool.not_true, Bool.not_false, Bool.false_eq_true, if_false, if_true, endOf, k1])]
  rw [mSeq_nx (en1 := [.dat A, .dat R, .dat (tupN s), .un, .un, .un, .un, .un, .un, .un]) (by simp only [mSeq_ap, mAsg_ap, mIf_ap, mDrop_ap, mRet_ap, mNext_ap, mFor_ap, imRng_ap, imSeq_ap, tmB_ap, tmNot_ap, tmTru_ap, tmAnd_ap, tmOr_ap, tmYes_ap, e1_ap, e2_ap, eN_ap, lN_ap, eL_ap, lLst_ap, eCall_ap, aCons_ap, aNil_ap, eVar_ap, eC_ap, eAnd_ap, eOr_ap, eNot_ap, eIsi_ap, eIf_ap, List.set_cons_succ, List.set_cons_zero, List.getElem?_cons_zero, List.getElem?_cons_succ, bind_ok, calm_ok, gmName_ap, tru_bool, itemsOf_list, itemsOf_tuple, Bool.not_true, Bool.not_false, Bool.false_eq_true, if_false, if_true, endOf, hsz])]
  rw [mSeq_nx (en1 := [.dat A, .dat R, .dat (tupN s), .dat (tupN t), .un, .un, .un, .un, .un, .un]) (by simp only [mSeq_ap, mAsg_ap, mIf_ap, mDrop_ap, mRet_ap, mNext_ap, mFor_ap, imRng_ap, imSeq_ap, tmB_ap, tmNot_ap, tmTru_ap, tmAnd_ap, tmOr_ap, tmYes_ap, e1_ap, e2_ap, eN_ap, lN_ap, eL_ap, lLst_ap, eCall_ap, aCons_ap, aNil_ap, eVar_ap, eC_ap, eAnd_ap, eOr_ap, eNot_ap, eIsi_ap, eIf_ap, List.set_cons_succ, List.set_cons_zero, List.getElem?_cons_zero, List.getElem?_cons_succ, bind_ok, calm_ok, gmName_ap, tru_bool, itemsOf_list, itemsOf_tuple, Bool.not_true, Bool.not_false, Bool.false_eq_true, if_false, if_true, endOf, k3])]
  rw [mSeq_nx (en1 := [.dat A, .dat R, .dat (tupN s), .dat (tupN t), .un, .un, .un, .un, .un, .un]) (by simp only [mSeq_ap, mAsg_ap, mIf_ap, mDrop_ap, mRet_ap, mNext_ap, mFor_ap, imRng_ap, imSeq_ap, tmB_ap, tmNot_ap, tmTru_ap, tmAnd_ap, tmOr_ap, tmYes_ap, e1_ap, e2_ap, eN_ap, lN_ap, eL_ap, lLst_ap, eCall_ap, aCons_ap, aNil_ap, eVar_ap, eC_ap, eAnd_ap, eOr_ap, eNot_ap, eIsi_ap, eIf_ap, List.set_cons_succ, List.set_cons_zero, List.getElem?_cons_zero, List.getElem?_cons_succ, bind_ok, calm_ok, gmName_ap, tru_bool, itemsOf_list, itemsOf_tuple, Bool.not_true, Bool.not_false, Bool.false_eq_true, if_false, if_true, endOf, pairs_right_ok W])]
  rw [mSeq_nx (en1 := [.dat A, .dat R, .dat (tupN s), .dat (tupN t), .dat (tupN (idleT s t)), .un, .un, .un, .un, .un]) (by simp only [mSeq_ap, mAsg_ap, mIf_ap, mDrop_ap, mRet_ap, mNext_ap, mFor_ap, imRng_ap, imSeq_ap, tmB_ap, tmNot_ap, tmTru_ap, tmAnd_ap, tmOr_ap, tmYes_ap, e1_ap, e2_ap, eN_ap, lN_ap, eL_ap, lLst_ap, eCall_ap, aCons_ap, aNil_ap, eVar_ap, eC_ap, eAnd_ap, eOr_ap, eNot_ap, eIsi_ap, eIf_ap, List.set_cons_succ, List.set_cons_zero, List.getElem?_cons_zero, List.getElem?_cons_succ, bind_ok, calm_ok, gmName_ap, tru_bool, itemsOf_list, itemsOf_tuple, Bool.not_true, Bool.not_false, Bool.false_eq_true, if_false, if_true, endOf, law_idle_ok W])]
  rw [mSeq_nx (en1 := [.dat A, .dat R, .dat (tupN s), .dat (tupN t), .dat (tupN (idleT s t)), .un, .un, .un, .un, .un]) (by simp only [mSeq_ap, mAsg_ap, mIf_ap, mDrop_ap, mRet_ap, mNext_ap, mFor_ap, imRng_ap, imSeq_ap, tmB_ap, tmNot_ap, tmTru_ap, tmAnd_ap, tmOr_ap, tmYes_ap, e1_ap, e2_ap, eN_ap, lN_ap, eL_ap, lLst_ap, eCall_ap, aCons_ap, aNil_ap, eVar_ap, eC_ap, eAnd_ap, eOr_ap, eNot_ap, eIsi_ap, eIf_ap, List.set_cons_succ, List.set_cons_zero, List.getElem?_cons_zero, List.getElem?_cons_succ, bind_ok, calm_ok, gmName_ap, tru_bool, itemsOf_list, itemsOf_tuple, Bool.not_true, Bool.not_false, Bool.false_eq_true, if_false, if_true, endOf, idle_houses_ok W, same_tup _ (idleT_len W)])]
  rw [mSeq_nx (en1 := [.dat A, .dat R, .dat (tupN s), .dat (tupN t), .dat (tupN (idleT s t)), .dat C, .un, .un, .un, .un]) (by simp only [mSeq_ap, mAsg_ap, mIf_ap, mDrop_ap, mRet_ap, mNext_ap, mFor_ap, imRng_ap, imSeq_ap, tmB_ap, tmNot_ap, tmTru_ap, tmAnd_ap, tmOr_ap, tmYes_ap, e1_ap, e2_ap, eN_ap, lN_ap, eL_ap, lLst_ap, eCall_ap, aCons_ap, aNil_ap, eVar_ap, eC_ap, eAnd_ap, eOr_ap, eNot_ap, eIsi_ap, eIf_ap, List.set_cons_succ, List.set_cons_zero, List.getElem?_cons_zero, List.getElem?_cons_succ, bind_ok, calm_ok, gmName_ap, tru_bool, itemsOf_list, itemsOf_tuple, Bool.not_true, Bool.not_false, Bool.false_eq_true, if_false, if_true, endOf, hco])]
  rw [mSeq_nx (en1 := [.dat A, .dat R, .dat (tupN s), .dat (tupN t), .dat (tupN (idleT s t)), .dat C, .dat (tupN u), .un, .un, .un]) (by simp only [mSeq_ap, mAsg_ap, mIf_ap, mDrop_ap, mRet_ap, mNext_ap, mFor_ap, imRng_ap, imSeq_ap, tmB_ap, tmNot_ap, tmTru_ap, tmAnd_ap, tmOr_ap, tmYes_ap, e1_ap, e2_ap, eN_ap, lN_ap, eL_ap, lLst_ap, eCall_ap, aCons_ap, aNil_ap, eVar_ap, eC_ap, eAnd_ap, eOr_ap, eNot_ap, eIsi_ap, eIf_ap, List.set_cons_succ, List.set_cons_zero, List.getElem?_cons_zero, List.getElem?_cons_succ, bind_ok, calm_ok, gmName_ap, tru_bool, itemsOf_list, itemsOf_tuple, Bool.not_true, Bool.not_false, Bool.false_eq_true, if_false, if_true, endOf, k8])]
  rw [mSeq_nx (en1 := [.dat A, .dat R, .dat (tupN s), .dat (tupN t), .dat (tupN (idleT s t)), .dat C, .dat (tupN u), .un, .un, .un]) (by simp only [mSeq_ap, mAsg_ap, mIf_ap, mDrop_ap, mRet_ap, mNext_ap, mFor_ap, imRng_ap, imSeq_ap, tmB_ap, tmNot_ap, tmTru_ap, tmAnd_ap, tmOr_ap, tmYes_ap, e1_ap, e2_ap, eN_ap, lN_ap, eL_ap, lLst_ap, eCall_ap, aCons_ap, aNil_ap, eVar_ap, eC_ap, eAnd_ap, eOr_ap, eNot_ap, eIsi_ap, eIf_ap, List.set_cons_succ, List.set_cons_zero, List.getElem?_cons_zero, List.getElem?_cons_succ, bind_ok, calm_ok, gmName_ap, tru_bool, itemsOf_list, itemsOf_tuple, Bool.not_true, Bool.not_false, Bool.false_eq_true, if_false, if_true, endOf, idle_houses_ok V, law_idle_ok V, same_tup _ (idleT_len V)])]
  rw [mSeq_nx (en1 := [.dat A, .dat R, .dat (tupN s), .dat (tupN t), .dat (tupN (idleT s t)), .dat C, .dat (tupN u), .own (.lst []), .un, .un]) rfl]
  rw [mSeq_nx (en1 := [.dat A, .dat R, .dat (tupN s), .dat (tupN t), .dat (tupN (idleT s t)), .dat C, .dat (tupN u), .own (.lst ((prs s u).map pD)), v8, v9]) (by simp only [mSeq_ap, mAsg_ap, mIf_ap, mDrop_ap, mRet_ap, mNext_ap, mFor_ap, imRng_ap, imSeq_ap, tmB_ap, tmNot_ap, tmTru_ap, tmAnd_ap, tmOr_ap, tmYes_ap, e1_ap, e2_ap, eN_ap, lN_ap, eL_ap, lLst_ap, eCall_ap, aCons_ap, aNil_ap, eVar_ap, eC_ap, eAnd_ap, eOr_ap, eNot_ap, eIsi_ap, eIf_ap, List.set_cons_succ, List.set_cons_zero, List.getElem?_cons_zero, List.getElem?_cons_succ, bind_ok, calm_ok, gmName_ap, tru_bool, itemsOf_list, itemsOf_tuple, Bool.not_true, Bool.not_false, Bool.false_eq_true, if_false, if_true, endOf, fLen_tupN, rng1_nat (by omega : s.length ≤ 100000), hf])]
  have e7 : eVar 7 [.dat A, .dat R, .dat (tupN s), .dat (tupN t), .dat (tupN (idleT s t)), .dat C, .dat (tupN u), .own (.lst ((prs s u).map pD)), v8, v9] = .ok (.list ((prs s u).map pD), [.dat A, .dat R, .dat (tupN s), .dat (tupN t), .dat (tupN (idleT s t)), .dat C, .dat (tupN u), .dat (.list ((prs s u).map pD)), v8, v9]) := rfl
  have e2' : eVar 2 [.dat A, .dat R, .dat (tupN s), .dat (tupN t), .dat (tupN (idleT s t)), .dat C, .dat (tupN u), .own (.lst ((prs s u).map pD)), v8, v9] = .ok (tupN s, [.dat A, .dat R, .dat (tupN s), .dat (tupN t), .dat (tupN (idleT s t)), .dat C, .dat (tupN u), .own (.lst ((prs s u).map pD)), v8, v9]) := rfl
  have e6' : eVar 6 [.dat A, .dat R, .dat (tupN s), .dat (tupN t), .dat (tupN (idleT s t)), .dat C, .dat (tupN u), .own (.lst ((prs s u).map pD)), v8, v9] = .ok (tupN u, [.dat A, .dat R, .dat (tupN s), .dat (tupN t), .dat (tupN (idleT s t)), .dat C, .dat (tupN u), .own (.lst ((prs s u).map pD)), v8, v9]) := rfl
  rw [mSeq_nx (en1 := [.dat A, .dat R, .dat (tupN s), .dat (tupN t), .dat (tupN (idleT s t)), .dat C, .dat (tupN u), .dat (.list ((prs s u).map pD)), v8, v9]) (by
    rw [mIf_ap, tmOr_ap, tmNot_ap, tmTru_ap, eCall_ap, aCons_ap, eCall_ap, aCons_ap, e2', bind_ok, aCons_ap, e6', bind_ok, aNil_ap, bind_ok, bind_ok, bind_ok]
    dsimp only
    rw [clumps_ok V, bind_ok, bind_ok, aCons_ap, eCall_ap, aCons_ap, eN_ap, aCons_ap, e2', bind_ok, aNil_ap, bind_ok, bind_ok]
    dsimp only
    rw [fLen_tupN, calm_ok, bind_ok, bind_ok, aCons_ap, e7, bind_ok, aNil_ap, bind_ok, bind_ok, bind_ok]
    dsimp only
    rw [hcls]
    simp only [mSeq_ap, mAsg_ap, mIf_ap, mDrop_ap, mRet_ap, mNext_ap, mFor_ap, imRng_ap, imSeq_ap, tmB_ap, tmNot_ap, tmTru_ap, tmAnd_ap, tmOr_ap, tmYes_ap, e1_ap, e2_ap, eN_ap, lN_ap, eL_ap, lLst_ap, eCall_ap, aCons_ap, aNil_ap, eVar_ap, eC_ap, eAnd_ap, eOr_ap, eNot_ap, eIsi_ap, eIf_ap, List.set_cons_succ, List.set_cons_zero, List.getElem?_cons_zero, List.getElem?_cons_succ, bind_ok, calm_ok, gmName_ap, tru_bool, itemsOf_list, itemsOf_tuple, Bool.not_true, Bool.not_false, Bool.false_eq_true, if_false, if_true, endOf, same_clumps V, knit_pairs_ok V, tup_prs, same_prs V])]
  simp only [mSeq_ap, mAsg_ap, mIf_ap, mDrop_ap, mRet_ap, mNext_ap, mFor_ap, imRng_ap, imSeq_ap, tmB_ap, tmNot_ap, tmTru_ap, tmAnd_ap, tmOr_ap, tmYes_ap, e1_ap, e2_ap, eN_ap, lN_ap, eL_ap, lLst_ap, eCall_ap, aCons_ap, aNil_ap, eVar_ap, eC_ap, eAnd_ap, eOr_ap, eNot_ap, eIsi_ap, eIf_ap, List.set_cons_succ, List.set_cons_zero, List.getElem?_cons_zero, List.getElem?_cons_succ, bind_ok, calm_ok, gmName_ap, tru_bool, itemsOf_list, itemsOf_tuple, Bool.not_true, Bool.not_false, Bool.false_eq_true, if_false, if_true, endOf, hco, hsc, idle_houses_ok W, same_tup _ (idleT_len W)]
end K07
end

section
set_option Elab.async false
set_option linter.all false
set_option maxRecDepth 100000
set_option maxHeartbeats 4000000
/-! K07W: the walk (printed by gen.py). -/
namespace K07
open PySem PySem.Spec PyProof.Rows L2 Mir
def top (i : Nat) : Stmt := PySem.Challenge.pw_closereckoned_k07_whole_seams_and_clumps.main.body.getD i (.Pass ⟨0, 0, 0, 0⟩)
abbrev s__law_row : Stmt := top 45
abbrev N__law_row : List Str := [("_law_script" : Str), ("_law_many" : Str), ("_law_seed" : Str), ("_law_row_here" : Str), ("_law_cell" : Str), ("_law_k" : Str), ("_law_big" : Str), ("_law_mixed" : Str)]
def d__law_row : He.DefD := ⟨("_law_row", none), "_law_row", "_law_row", defArgs s__law_row, defBody s__law_row, defScope s__law_row, [], []⟩
theorem sc__law_row : FnScope N__law_row [("_law_script" : Str), ("_law_many" : Str)] d__law_row.scope := ⟨rfl, rfl, rfl, by decide +kernel, rfl, by decide +kernel, by decide +kernel⟩
abbrev s__law_sizes : Stmt := top 49
abbrev N__law_sizes : List Str := [("_law_row_here" : Str), ("_law_n" : Str), ("_law_cap" : Str), ("_law_s" : Str), ("_law_product" : Str), ("_law_k" : Str), ("_law_c" : Str), ("_law_turn" : Str)]
def d__law_sizes : He.DefD := ⟨("_law_sizes", none), "_law_sizes", "_law_sizes", defArgs s__law_sizes, defBody s__law_sizes, defScope s__law_sizes, [], []⟩
theorem sc__law_sizes : FnScope N__law_sizes [("_law_row_here" : Str)] d__law_sizes.scope := ⟨rfl, rfl, rfl, by decide +kernel, rfl, by decide +kernel, by decide +kernel⟩
abbrev s__law_settings : Stmt := top 47
abbrev N__law_settings : List Str := [("_law_s" : Str), ("_law_rows" : Str), ("_law_many" : Str), ("_law_more" : Str), ("_law_x" : Str), ("_law_c" : Str)]
def d__law_settings : He.DefD := ⟨("_law_settings", none), "_law_settings", "_law_settings", defArgs s__law_settings, defBody s__law_settings, defScope s__law_settings, [], []⟩
theorem sc__law_settings : FnScope N__law_settings [("_law_s" : Str)] d__law_settings.scope := ⟨rfl, rfl, rfl, by decide +kernel, rfl, by decide +kernel, by decide +kernel⟩
abbrev s__law_steps : Stmt := top 48
abbrev N__law_steps : List Str := [("_law_s" : Str), ("_law_steps_here" : Str), ("_law_k" : Str), ("_law_h" : Str)]
def d__law_steps : He.DefD := ⟨("_law_steps", none), "_law_steps", "_law_steps", defArgs s__law_steps, defBody s__law_steps, defScope s__law_steps, [], []⟩
theorem sc__law_steps : FnScope N__law_steps [("_law_s" : Str)] d__law_steps.scope := ⟨rfl, rfl, rfl, by decide +kernel, rfl, by decide +kernel, by decide +kernel⟩
abbrev s__law_on : Stmt := top 50
abbrev N__law_on : List Str := [("_law_s" : Str), ("_law_steps_here" : Str), ("_law_l" : Str), ("_law_x" : Str), ("_law_h" : Str)]
def d__law_on : He.DefD := ⟨("_law_on", none), "_law_on", "_law_on", defArgs s__law_on, defBody s__law_on, defScope s__law_on, [], []⟩
theorem sc__law_on : FnScope N__law_on [("_law_s" : Str), ("_law_steps_here" : Str), ("_law_l" : Str), ("_law_x" : Str)] d__law_on.scope := ⟨rfl, rfl, rfl, by decide +kernel, rfl, by decide +kernel, by decide +kernel⟩
abbrev s__law_summed : Stmt := top 51
abbrev N__law_summed : List Str := [("_law_row_here" : Str), ("_law_s" : Str), ("_law_start" : Str), ("_law_rows" : Str), ("_law_steps_here" : Str), ("_law_t" : Str), ("_law_turn" : Str), ("_law_l" : Str), ("_law_k" : Str), ("_law_h" : Str)]
def d__law_summed : He.DefD := ⟨("_law_summed", none), "_law_summed", "_law_summed", defArgs s__law_summed, defBody s__law_summed, defScope s__law_summed, [], []⟩
theorem sc__law_summed : FnScope N__law_summed [("_law_row_here" : Str), ("_law_s" : Str), ("_law_start" : Str)] d__law_summed.scope := ⟨rfl, rfl, rfl, by decide +kernel, rfl, by decide +kernel, by decide +kernel⟩
abbrev s__law_by_terms : Stmt := top 52
abbrev N__law_by_terms : List Str := [("_law_row_here" : Str), ("_law_s" : Str), ("_law_start" : Str), ("_law_rows" : Str), ("_law_t" : Str), ("_law_turn" : Str), ("_law_pick" : Str), ("_law_l" : Str), ("_law_k" : Str), ("_law_h" : Str), ("_law_hit" : Str)]
def d__law_by_terms : He.DefD := ⟨("_law_by_terms", none), "_law_by_terms", "_law_by_terms", defArgs s__law_by_terms, defBody s__law_by_terms, defScope s__law_by_terms, [], []⟩
theorem sc__law_by_terms : FnScope N__law_by_terms [("_law_row_here" : Str), ("_law_s" : Str), ("_law_start" : Str)] d__law_by_terms.scope := ⟨rfl, rfl, rfl, by decide +kernel, rfl, by decide +kernel, by decide +kernel⟩
abbrev s__law_table : Stmt := top 53
abbrev N__law_table : List Str := [("_law_row_here" : Str), ("_law_s" : Str), ("_law_start" : Str), ("_law_many" : Str), ("_law_mode" : Str), ("_law_t" : Str), ("_law_k" : Str)]
def d__law_table : He.DefD := ⟨("_law_table", none), "_law_table", "_law_table", defArgs s__law_table, defBody s__law_table, defScope s__law_table, [], []⟩
theorem sc__law_table : FnScope N__law_table [("_law_row_here" : Str), ("_law_s" : Str), ("_law_start" : Str)] d__law_table.scope := ⟨rfl, rfl, rfl, by decide +kernel, rfl, by decide +kernel, by decide +kernel⟩
abbrev s__law_idle : Stmt := top 60
abbrev N__law_idle : List Str := [("_law_s" : Str), ("_law_t" : Str), ("_law_steps_here" : Str), ("_law_rows" : Str), ("_law_idle_here" : Str), ("_law_h" : Str), ("_law_k" : Str)]
def d__law_idle : He.DefD := ⟨("_law_idle", none), "_law_idle", "_law_idle", defArgs s__law_idle, defBody s__law_idle, defScope s__law_idle, [], []⟩
theorem sc__law_idle : FnScope N__law_idle [("_law_s" : Str), ("_law_t" : Str)] d__law_idle.scope := ⟨rfl, rfl, rfl, by decide +kernel, rfl, by decide +kernel, by decide +kernel⟩
abbrev s_a_want : Stmt := top 5
abbrev N_a_want : List Str := [("good" : Str), ("word" : Str)]
def d_a_want : He.DefD := ⟨("a_want", none), "a_want", "a_want", defArgs s_a_want, defBody s_a_want, defScope s_a_want, [], []⟩
theorem sc_a_want : FnScope N_a_want [("good" : Str), ("word" : Str)] d_a_want.scope := ⟨rfl, rfl, rfl, by decide +kernel, rfl, by decide +kernel, by decide +kernel⟩
abbrev s_integer_fits : Stmt := top 6
abbrev N_integer_fits : List Str := [("thing" : Str)]
def d_integer_fits : He.DefD := ⟨("integer_fits", none), "integer_fits", "integer_fits", defArgs s_integer_fits, defBody s_integer_fits, defScope s_integer_fits, [], []⟩
theorem sc_integer_fits : FnScope N_integer_fits [("thing" : Str)] d_integer_fits.scope := ⟨rfl, rfl, rfl, by decide +kernel, rfl, by decide +kernel, by decide +kernel⟩
abbrev s_many_fits : Stmt := top 8
abbrev N_many_fits : List Str := [("thing" : Str)]
def d_many_fits : He.DefD := ⟨("many_fits", none), "many_fits", "many_fits", defArgs s_many_fits, defBody s_many_fits, defScope s_many_fits, [], []⟩
theorem sc_many_fits : FnScope N_many_fits [("thing" : Str)] d_many_fits.scope := ⟨rfl, rfl, rfl, by decide +kernel, rfl, by decide +kernel, by decide +kernel⟩
abbrev s_sizes_fit : Stmt := top 9
abbrev N_sizes_fit : List Str := [("thing" : Str), ("size" : Str)]
def d_sizes_fit : He.DefD := ⟨("sizes_fit", none), "sizes_fit", "sizes_fit", defArgs s_sizes_fit, defBody s_sizes_fit, defScope s_sizes_fit, [], []⟩
theorem sc_sizes_fit : FnScope N_sizes_fit [("thing" : Str)] d_sizes_fit.scope := ⟨rfl, rfl, rfl, by decide +kernel, rfl, by decide +kernel, by decide +kernel⟩
abbrev s_is_sizes : Stmt := top 23
abbrev N_is_sizes : List Str := [("thing" : Str)]
def d_is_sizes : He.DefD := ⟨("is_sizes", none), "is_sizes", "is_sizes", defArgs s_is_sizes, defBody s_is_sizes, defScope s_is_sizes, [], []⟩
theorem sc_is_sizes : FnScope N_is_sizes [("thing" : Str)] d_is_sizes.scope := ⟨rfl, rfl, rfl, by decide +kernel, rfl, by decide +kernel, by decide +kernel⟩
abbrev s_many_settings : Stmt := top 15
abbrev N_many_settings : List Str := [("sizes" : Str), ("many" : Str), ("size" : Str)]
def d_many_settings : He.DefD := ⟨("many_settings", none), "many_settings", "many_settings", defArgs s_many_settings, defBody s_many_settings, defScope s_many_settings, [], []⟩
theorem sc_many_settings : FnScope N_many_settings [("sizes" : Str)] d_many_settings.scope := ⟨rfl, rfl, rfl, by decide +kernel, rfl, by decide +kernel, by decide +kernel⟩
abbrev s_number_fits : Stmt := top 7
abbrev N_number_fits : List Str := [("thing" : Str)]
def d_number_fits : He.DefD := ⟨("number_fits", none), "number_fits", "number_fits", defArgs s_number_fits, defBody s_number_fits, defScope s_number_fits, [], []⟩
theorem sc_number_fits : FnScope N_number_fits [("thing" : Str)] d_number_fits.scope := ⟨rfl, rfl, rfl, by decide +kernel, rfl, by decide +kernel, by decide +kernel⟩
abbrev s_is_bit : Stmt := top 22
abbrev N_is_bit : List Str := [("thing" : Str)]
def d_is_bit : He.DefD := ⟨("is_bit", none), "is_bit", "is_bit", defArgs s_is_bit, defBody s_is_bit, defScope s_is_bit, [], []⟩
theorem sc_is_bit : FnScope N_is_bit [("thing" : Str)] d_is_bit.scope := ⟨rfl, rfl, rfl, by decide +kernel, rfl, by decide +kernel, by decide +kernel⟩
abbrev s_is_table : Stmt := top 27
abbrev N_is_table : List Str := [("sizes" : Str), ("thing" : Str), ("bit" : Str)]
def d_is_table : He.DefD := ⟨("is_table", none), "is_table", "is_table", defArgs s_is_table, defBody s_is_table, defScope s_is_table, [], []⟩
theorem sc_is_table : FnScope N_is_table [("sizes" : Str), ("thing" : Str)] d_is_table.scope := ⟨rfl, rfl, rfl, by decide +kernel, rfl, by decide +kernel, by decide +kernel⟩
abbrev s_spans_of : Stmt := top 14
abbrev N_spans_of : List Str := [("sizes" : Str), ("spans" : Str), ("house" : Str), ("_" : Str)]
def d_spans_of : He.DefD := ⟨("spans_of", none), "spans_of", "spans_of", defArgs s_spans_of, defBody s_spans_of, defScope s_spans_of, [], []⟩
theorem sc_spans_of : FnScope N_spans_of [("sizes" : Str)] d_spans_of.scope := ⟨rfl, rfl, rfl, by decide +kernel, rfl, by decide +kernel, by decide +kernel⟩
abbrev s_corner_places : Stmt := top 18
abbrev N_corner_places : List Str := [("sizes" : Str), ("lot" : Str), ("spans" : Str), ("places" : Str), ("house" : Str), ("place" : Str), ("choice" : Str)]
def d_corner_places : He.DefD := ⟨("corner_places", none), "corner_places", "corner_places", defArgs s_corner_places, defBody s_corner_places, defScope s_corner_places, [], []⟩
theorem sc_corner_places : FnScope N_corner_places [("sizes" : Str), ("lot" : Str)] d_corner_places.scope := ⟨rfl, rfl, rfl, by decide +kernel, rfl, by decide +kernel, by decide +kernel⟩
abbrev s_odd_spot : Stmt := top 19
abbrev N_odd_spot : List Str := [("sizes" : Str), ("table" : Str), ("one" : Str), ("other" : Str), ("spans" : Str), ("rest" : Str), ("place" : Str), ("first" : Str), ("house" : Str), ("near" : Str), ("second" : Str), ("far" : Str)]
def d_odd_spot : He.DefD := ⟨("odd_spot", none), "odd_spot", "odd_spot", defArgs s_odd_spot, defBody s_odd_spot, defScope s_odd_spot, [], []⟩
theorem sc_odd_spot : FnScope N_odd_spot [("sizes" : Str), ("table" : Str), ("one" : Str), ("other" : Str)] d_odd_spot.scope := ⟨rfl, rfl, rfl, by decide +kernel, rfl, by decide +kernel, by decide +kernel⟩
abbrev s_knit_pairs : Stmt := top 32
abbrev N_knit_pairs : List Str := [("sizes" : Str), ("table" : Str), ("pairs" : Str), ("one" : Str), ("other" : Str)]
def d_knit_pairs : He.DefD := ⟨("knit_pairs", none), "knit_pairs", "knit_pairs", defArgs s_knit_pairs, defBody s_knit_pairs, defScope s_knit_pairs, [], []⟩
theorem sc_knit_pairs : FnScope N_knit_pairs [("sizes" : Str), ("table" : Str)] d_knit_pairs.scope := ⟨rfl, rfl, rfl, by decide +kernel, rfl, by decide +kernel, by decide +kernel⟩
abbrev s_clumps_of : Stmt := top 33
abbrev N_clumps_of : List Str := [("sizes" : Str), ("table" : Str), ("marks" : Str), ("pairs" : Str), ("house" : Str), ("clumps" : Str), ("mark" : Str), ("one" : Str), ("other" : Str), ("low" : Str), ("high" : Str)]
def d_clumps_of : He.DefD := ⟨("clumps_of", none), "clumps_of", "clumps_of", defArgs s_clumps_of, defBody s_clumps_of, defScope s_clumps_of, [], []⟩
theorem sc_clumps_of : FnScope N_clumps_of [("sizes" : Str), ("table" : Str)] d_clumps_of.scope := ⟨rfl, rfl, rfl, by decide +kernel, rfl, by decide +kernel, by decide +kernel⟩
abbrev s__law_classes : Stmt := top 56
abbrev N__law_classes : List Str := [("_law_n" : Str), ("_law_pairs" : Str), ("_law_label" : Str), ("_law_classes_here" : Str), ("_law_c" : Str), ("_law_i" : Str), ("_law_j" : Str), ("_law_low" : Str), ("_law_high" : Str), ("_law_members" : Str), ("_law_h" : Str)]
def d__law_classes : He.DefD := ⟨("_law_classes", none), "_law_classes", "_law_classes", defArgs s__law_classes, defBody s__law_classes, defScope s__law_classes, [], []⟩
theorem sc__law_classes : FnScope N__law_classes [("_law_n" : Str), ("_law_pairs" : Str)] d__law_classes.scope := ⟨rfl, rfl, rfl, by decide +kernel, rfl, by decide +kernel, by decide +kernel⟩
abbrev s__law_lots : Stmt := top 57
abbrev N__law_lots : List Str := [("_law_n" : Str), ("_law_lots_here" : Str), ("_law_h" : Str), ("_law_l" : Str)]
def d__law_lots : He.DefD := ⟨("_law_lots", none), "_law_lots", "_law_lots", defArgs s__law_lots, defBody s__law_lots, defScope s__law_lots, [], []⟩
theorem sc__law_lots : FnScope N__law_lots [("_law_n" : Str)] d__law_lots.scope := ⟨rfl, rfl, rfl, by decide +kernel, rfl, by decide +kernel, by decide +kernel⟩
abbrev s__law_seam : Stmt := top 58
abbrev N__law_seam : List Str := [("_law_s" : Str), ("_law_t" : Str), ("_law_l" : Str), ("_law_steps_here" : Str), ("_law_rows" : Str), ("_law_k" : Str), ("_law_p" : Str)]
def d__law_seam : He.DefD := ⟨("_law_seam", none), "_law_seam", "_law_seam", defArgs s__law_seam, defBody s__law_seam, defScope s__law_seam, [], []⟩
theorem sc__law_seam : FnScope N__law_seam [("_law_s" : Str), ("_law_t" : Str), ("_law_l" : Str)] d__law_seam.scope := ⟨rfl, rfl, rfl, by decide +kernel, rfl, by decide +kernel, by decide +kernel⟩
abbrev s__law_same : Stmt := top 46
abbrev N__law_same : List Str := [("_law_a" : Str), ("_law_b" : Str), ("_law_k" : Str)]
def d__law_same : He.DefD := ⟨("_law_same", none), "_law_same", "_law_same", defArgs s__law_same, defBody s__law_same, defScope s__law_same, [], []⟩
theorem sc__law_same : FnScope N__law_same [("_law_a" : Str), ("_law_b" : Str)] d__law_same.scope := ⟨rfl, rfl, rfl, by decide +kernel, rfl, by decide +kernel, by decide +kernel⟩
abbrev s__law_odd_sum : Stmt := top 54
abbrev N__law_odd_sum : List Str := [("_law_t" : Str), ("_law_p" : Str), ("_law_up" : Str), ("_law_across" : Str)]
def d__law_odd_sum : He.DefD := ⟨("_law_odd_sum", none), "_law_odd_sum", "_law_odd_sum", defArgs s__law_odd_sum, defBody s__law_odd_sum, defScope s__law_odd_sum, [], []⟩
theorem sc__law_odd_sum : FnScope N__law_odd_sum [("_law_t" : Str), ("_law_p" : Str), ("_law_up" : Str), ("_law_across" : Str)] d__law_odd_sum.scope := ⟨rfl, rfl, rfl, by decide +kernel, rfl, by decide +kernel, by decide +kernel⟩
abbrev s__law_knit : Stmt := top 55
abbrev N__law_knit : List Str := [("_law_s" : Str), ("_law_t" : Str), ("_law_i" : Str), ("_law_j" : Str), ("_law_steps_here" : Str), ("_law_rows" : Str), ("_law_k" : Str), ("_law_x" : Str), ("_law_a" : Str), ("_law_b" : Str)]
def d__law_knit : He.DefD := ⟨("_law_knit", none), "_law_knit", "_law_knit", defArgs s__law_knit, defBody s__law_knit, defScope s__law_knit, [], []⟩
theorem sc__law_knit : FnScope N__law_knit [("_law_s" : Str), ("_law_t" : Str), ("_law_i" : Str), ("_law_j" : Str)] d__law_knit.scope := ⟨rfl, rfl, rfl, by decide +kernel, rfl, by decide +kernel, by decide +kernel⟩
abbrev s_is_number : Stmt := top 21
abbrev N_is_number : List Str := [("thing" : Str)]
def d_is_number : He.DefD := ⟨("is_number", none), "is_number", "is_number", defArgs s_is_number, defBody s_is_number, defScope s_is_number, [], []⟩
theorem sc_is_number : FnScope N_is_number [("thing" : Str)] d_is_number.scope := ⟨rfl, rfl, rfl, by decide +kernel, rfl, by decide +kernel, by decide +kernel⟩
abbrev s__want_houses : Stmt := top 29
abbrev N__want_houses : List Str := [("sizes" : Str), ("table" : Str), ("one" : Str), ("other" : Str)]
def d__want_houses : He.DefD := ⟨("_want_houses", none), "_want_houses", "_want_houses", defArgs s__want_houses, defBody s__want_houses, defScope s__want_houses, [], []⟩
theorem sc__want_houses : FnScope N__want_houses [("sizes" : Str), ("table" : Str), ("one" : Str), ("other" : Str)] d__want_houses.scope := ⟨rfl, rfl, rfl, by decide +kernel, rfl, by decide +kernel, by decide +kernel⟩
abbrev s_setting_by : Stmt := top 17
abbrev N_setting_by : List Str := [("sizes" : Str), ("place" : Str), ("spans" : Str), ("house" : Str)]
def d_setting_by : He.DefD := ⟨("setting_by", none), "setting_by", "setting_by", defArgs s_setting_by, defBody s_setting_by, defScope s_setting_by, [], []⟩
theorem sc_setting_by : FnScope N_setting_by [("sizes" : Str), ("place" : Str)] d_setting_by.scope := ⟨rfl, rfl, rfl, by decide +kernel, rfl, by decide +kernel, by decide +kernel⟩
abbrev s_odd_four : Stmt := top 30
abbrev N_odd_four : List Str := [("sizes" : Str), ("table" : Str), ("one" : Str), ("other" : Str), ("spot" : Str), ("place" : Str), ("first" : Str), ("second" : Str)]
def d_odd_four : He.DefD := ⟨("odd_four", none), "odd_four", "odd_four", defArgs s_odd_four, defBody s_odd_four, defScope s_odd_four, [], []⟩
theorem sc_odd_four : FnScope N_odd_four [("sizes" : Str), ("table" : Str), ("one" : Str), ("other" : Str)] d_odd_four.scope := ⟨rfl, rfl, rfl, by decide +kernel, rfl, by decide +kernel, by decide +kernel⟩
abbrev s_house_fits : Stmt := top 11
abbrev N_house_fits : List Str := [("many" : Str), ("thing" : Str)]
def d_house_fits : He.DefD := ⟨("house_fits", none), "house_fits", "house_fits", defArgs s_house_fits, defBody s_house_fits, defScope s_house_fits, [], []⟩
theorem sc_house_fits : FnScope N_house_fits [("many" : Str), ("thing" : Str)] d_house_fits.scope := ⟨rfl, rfl, rfl, by decide +kernel, rfl, by decide +kernel, by decide +kernel⟩
abbrev s_lot_fits : Stmt := top 12
abbrev N_lot_fits : List Str := [("many" : Str), ("thing" : Str), ("last" : Str), ("house" : Str)]
def d_lot_fits : He.DefD := ⟨("lot_fits", none), "lot_fits", "lot_fits", defArgs s_lot_fits, defBody s_lot_fits, defScope s_lot_fits, [], []⟩
theorem sc_lot_fits : FnScope N_lot_fits [("many" : Str), ("thing" : Str)] d_lot_fits.scope := ⟨rfl, rfl, rfl, by decide +kernel, rfl, by decide +kernel, by decide +kernel⟩
abbrev s_is_lot : Stmt := top 25
abbrev N_is_lot : List Str := [("many" : Str), ("thing" : Str)]
def d_is_lot : He.DefD := ⟨("is_lot", none), "is_lot", "is_lot", defArgs s_is_lot, defBody s_is_lot, defScope s_is_lot, [], []⟩
theorem sc_is_lot : FnScope N_is_lot [("many" : Str), ("thing" : Str)] d_is_lot.scope := ⟨rfl, rfl, rfl, by decide +kernel, rfl, by decide +kernel, by decide +kernel⟩
abbrev s_is_seam : Stmt := top 43
abbrev N_is_seam : List Str := [("sizes" : Str), ("table" : Str), ("lot" : Str), ("one" : Str), ("other" : Str)]
def d_is_seam : He.DefD := ⟨("is_seam", none), "is_seam", "is_seam", defArgs s_is_seam, defBody s_is_seam, defScope s_is_seam, [], []⟩
theorem sc_is_seam : FnScope N_is_seam [("sizes" : Str), ("table" : Str), ("lot" : Str)] d_is_seam.scope := ⟨rfl, rfl, rfl, by decide +kernel, rfl, by decide +kernel, by decide +kernel⟩
abbrev s_are_knit : Stmt := top 31
abbrev N_are_knit : List Str := [("sizes" : Str), ("table" : Str), ("one" : Str), ("other" : Str)]
def d_are_knit : He.DefD := ⟨("are_knit", none), "are_knit", "are_knit", defArgs s_are_knit, defBody s_are_knit, defScope s_are_knit, [], []⟩
theorem sc_are_knit : FnScope N_are_knit [("sizes" : Str), ("table" : Str), ("one" : Str), ("other" : Str)] d_are_knit.scope := ⟨rfl, rfl, rfl, by decide +kernel, rfl, by decide +kernel, by decide +kernel⟩
abbrev s__changed : Stmt := top 39
abbrev N__changed : List Str := [("setting" : Str), ("house" : Str), ("choice" : Str)]
def d__changed : He.DefD := ⟨("_changed", none), "_changed", "_changed", defArgs s__changed, defBody s__changed, defScope s__changed, [], []⟩
theorem sc__changed : FnScope N__changed [("setting" : Str), ("house" : Str), ("choice" : Str)] d__changed.scope := ⟨rfl, rfl, rfl, by decide +kernel, rfl, by decide +kernel, by decide +kernel⟩
abbrev s__is_change : Stmt := top 38
abbrev N__is_change : List Str := [("sizes" : Str), ("setting" : Str), ("house" : Str), ("choice" : Str)]
def d__is_change : He.DefD := ⟨("_is_change", none), "_is_change", "_is_change", defArgs s__is_change, defBody s__is_change, defScope s__is_change, [], []⟩
theorem sc__is_change : FnScope N__is_change [("sizes" : Str), ("setting" : Str), ("house" : Str), ("choice" : Str)] d__is_change.scope := ⟨rfl, rfl, rfl, by decide +kernel, rfl, by decide +kernel, by decide +kernel⟩
abbrev s_setting_fits : Stmt := top 10
abbrev N_setting_fits : List Str := [("sizes" : Str), ("thing" : Str), ("choice" : Str), ("size" : Str)]
def d_setting_fits : He.DefD := ⟨("setting_fits", none), "setting_fits", "setting_fits", defArgs s_setting_fits, defBody s_setting_fits, defScope s_setting_fits, [], []⟩
theorem sc_setting_fits : FnScope N_setting_fits [("sizes" : Str), ("thing" : Str)] d_setting_fits.scope := ⟨rfl, rfl, rfl, by decide +kernel, rfl, by decide +kernel, by decide +kernel⟩
abbrev s_is_setting : Stmt := top 24
abbrev N_is_setting : List Str := [("sizes" : Str), ("thing" : Str)]
def d_is_setting : He.DefD := ⟨("is_setting", none), "is_setting", "is_setting", defArgs s_is_setting, defBody s_is_setting, defScope s_is_setting, [], []⟩
theorem sc_is_setting : FnScope N_is_setting [("sizes" : Str), ("thing" : Str)] d_is_setting.scope := ⟨rfl, rfl, rfl, by decide +kernel, rfl, by decide +kernel, by decide +kernel⟩
abbrev s_is_four : Stmt := top 37
abbrev N_is_four : List Str := [("sizes" : Str), ("thing" : Str), ("setting" : Str), ("one" : Str), ("first" : Str), ("other" : Str), ("second" : Str)]
def d_is_four : He.DefD := ⟨("is_four", none), "is_four", "is_four", defArgs s_is_four, defBody s_is_four, defScope s_is_four, [], []⟩
theorem sc_is_four : FnScope N_is_four [("sizes" : Str), ("thing" : Str)] d_is_four.scope := ⟨rfl, rfl, rfl, by decide +kernel, rfl, by decide +kernel, by decide +kernel⟩
abbrev s_four_settings : Stmt := top 40
abbrev N_four_settings : List Str := [("sizes" : Str), ("four" : Str), ("near" : Str), ("setting" : Str), ("one" : Str), ("first" : Str), ("other" : Str), ("second" : Str)]
def d_four_settings : He.DefD := ⟨("four_settings", none), "four_settings", "four_settings", defArgs s_four_settings, defBody s_four_settings, defScope s_four_settings, [], []⟩
theorem sc_four_settings : FnScope N_four_settings [("sizes" : Str), ("four" : Str)] d_four_settings.scope := ⟨rfl, rfl, rfl, by decide +kernel, rfl, by decide +kernel, by decide +kernel⟩
abbrev s_place_by : Stmt := top 16
abbrev N_place_by : List Str := [("sizes" : Str), ("setting" : Str), ("place" : Str), ("house" : Str)]
def d_place_by : He.DefD := ⟨("place_by", none), "place_by", "place_by", defArgs s_place_by, defBody s_place_by, defScope s_place_by, [], []⟩
theorem sc_place_by : FnScope N_place_by [("sizes" : Str), ("setting" : Str)] d_place_by.scope := ⟨rfl, rfl, rfl, by decide +kernel, rfl, by decide +kernel, by decide +kernel⟩
abbrev s_is_odd : Stmt := top 41
abbrev N_is_odd : List Str := [("sizes" : Str), ("table" : Str), ("four" : Str), ("total" : Str), ("setting" : Str)]
def d_is_odd : He.DefD := ⟨("is_odd", none), "is_odd", "is_odd", defArgs s_is_odd, defBody s_is_odd, defScope s_is_odd, [], []⟩
theorem sc_is_odd : FnScope N_is_odd [("sizes" : Str), ("table" : Str), ("four" : Str)] d_is_odd.scope := ⟨rfl, rfl, rfl, by decide +kernel, rfl, by decide +kernel, by decide +kernel⟩
abbrev s__law_four_right : Stmt := top 59
abbrev N__law_four_right : List Str := [("_law_s" : Str), ("_law_t" : Str), ("_law_i" : Str), ("_law_j" : Str), ("_law_told" : Str), ("_law_k" : Str), ("_law_steps_here" : Str), ("_law_p" : Str), ("_law_up" : Str), ("_law_across" : Str), ("_law_c" : Str), ("_law_h" : Str)]
def d__law_four_right : He.DefD := ⟨("_law_four_right", none), "_law_four_right", "_law_four_right", defArgs s__law_four_right, defBody s__law_four_right, defScope s__law_four_right, [], []⟩
theorem sc__law_four_right : FnScope N__law_four_right [("_law_s" : Str), ("_law_t" : Str), ("_law_i" : Str), ("_law_j" : Str), ("_law_told" : Str)] d__law_four_right.scope := ⟨rfl, rfl, rfl, by decide +kernel, rfl, by decide +kernel, by decide +kernel⟩
abbrev s__law_pairs_right : Stmt := top 61
abbrev N__law_pairs_right : List Str := [("_law_s" : Str), ("_law_t" : Str), ("_law_n" : Str), ("_law_pairs" : Str), ("_law_i" : Str), ("_law_clumps" : Str), ("_law_l" : Str), ("_law_j" : Str), ("_law_parted" : Str), ("_law_clump" : Str), ("_law_due" : Str), ("_law_inside" : Str), ("_law_knit_here" : Str), ("_law_first" : Str), ("_law_second" : Str), ("_law_told" : Str), ("_law_h" : Str)]
def d__law_pairs_right : He.DefD := ⟨("_law_pairs_right", none), "_law_pairs_right", "_law_pairs_right", defArgs s__law_pairs_right, defBody s__law_pairs_right, defScope s__law_pairs_right, [], []⟩
theorem sc__law_pairs_right : FnScope N__law_pairs_right [("_law_s" : Str), ("_law_t" : Str)] d__law_pairs_right.scope := ⟨rfl, rfl, rfl, by decide +kernel, rfl, by decide +kernel, by decide +kernel⟩
abbrev s__is_idle : Stmt := top 35
abbrev N__is_idle : List Str := [("sizes" : Str), ("table" : Str), ("house" : Str), ("span" : Str), ("place" : Str), ("choice" : Str), ("near" : Str)]
def d__is_idle : He.DefD := ⟨("_is_idle", none), "_is_idle", "_is_idle", defArgs s__is_idle, defBody s__is_idle, defScope s__is_idle, [], []⟩
theorem sc__is_idle : FnScope N__is_idle [("sizes" : Str), ("table" : Str), ("house" : Str)] d__is_idle.scope := ⟨rfl, rfl, rfl, by decide +kernel, rfl, by decide +kernel, by decide +kernel⟩
abbrev s_idle_houses : Stmt := top 34
abbrev N_idle_houses : List Str := [("sizes" : Str), ("table" : Str), ("house" : Str)]
def d_idle_houses : He.DefD := ⟨("idle_houses", none), "idle_houses", "idle_houses", defArgs s_idle_houses, defBody s_idle_houses, defScope s_idle_houses, [], []⟩
theorem sc_idle_houses : FnScope N_idle_houses [("sizes" : Str), ("table" : Str)] d_idle_houses.scope := ⟨rfl, rfl, rfl, by decide +kernel, rfl, by decide +kernel, by decide +kernel⟩
abbrev s_law : Stmt := top 62
abbrev N_law : List Str := [("_law_script" : Str), ("_law_row_here" : Str), ("_law_s" : Str), ("_law_t" : Str), ("_law_due" : Str), ("_law_clumps" : Str), ("_law_more" : Str), ("_law_pairs" : Str), ("_law_i" : Str), ("_law_j" : Str)]
def d_law : He.DefD := ⟨("law", none), "law", "law", defArgs s_law, defBody s_law, defScope s_law, [], []⟩
theorem sc_law : FnScope N_law [("_law_script" : Str)] d_law.scope := ⟨rfl, rfl, rfl, by decide +kernel, rfl, by decide +kernel, by decide +kernel⟩
abbrev s_NotUsable : Stmt := clsBody (top 3) 0
def d_NotUsable : He.DefD := ⟨("NotUsable", some "__init__"), "__init__", "NotUsable.__init__", defArgs s_NotUsable, defBody s_NotUsable, defScope s_NotUsable, [], []⟩
theorem sc_NotUsable : FnScope [("self" : Str), "word", "at"] [("self" : Str), "word", "at"] d_NotUsable.scope := ⟨rfl, rfl, rfl, by decide +kernel, rfl, by decide +kernel, by decide +kernel⟩
def faL : List He.Fa := [.glo "_law_row", .glo "_law_sizes", .glo "_law_settings", .glo "_law_steps", .glo "_law_on", .glo "_law_summed", .glo "_law_by_terms", .glo "_law_table", .glo "_law_idle", .glo "a_want", .glo "integer_fits", .glo "many_fits", .glo "sizes_fit", .glo "is_sizes", .glo "many_settings", .glo "number_fits", .glo "is_bit", .glo "is_table", .glo "spans_of", .glo "corner_places", .glo "odd_spot", .glo "knit_pairs", .glo "clumps_of", .glo "_law_classes", .glo "_law_lots", .glo "_law_seam", .glo "_law_same", .glo "_law_odd_sum", .glo "_law_knit", .glo "is_number", .glo "_want_houses", .glo "setting_by", .glo "odd_four", .glo "house_fits", .glo "lot_fits", .glo "is_lot", .glo "is_seam", .glo "are_knit", .glo "_changed", .glo "_is_change", .glo "setting_fits", .glo "is_setting", .glo "is_four", .glo "four_settings", .glo "place_by", .glo "is_odd", .glo "_law_four_right", .glo "_law_pairs_right", .glo "_is_idle", .glo "idle_houses", .glo "law", .glo "NotUsable", .free "abs", .free "all", .free "bool", .free "int", .free "isinstance", .free "len", .free "list", .free "max", .free "min", .free "range", .free "sorted", .free "str", .free "sum", .free "tuple", .free "zip", .exm "NotUsable" "NotUsable" true]
def fnL : List He.DefD := [d__law_row, d__law_sizes, d__law_settings, d__law_steps, d__law_on, d__law_summed, d__law_by_terms, d__law_table, d__law_idle, d_a_want, d_integer_fits, d_many_fits, d_sizes_fit, d_is_sizes, d_many_settings, d_number_fits, d_is_bit, d_is_table, d_spans_of, d_corner_places, d_odd_spot, d_knit_pairs, d_clumps_of, d__law_classes, d__law_lots, d__law_seam, d__law_same, d__law_odd_sum, d__law_knit, d_is_number, d__want_houses, d_setting_by, d_odd_four, d_house_fits, d_lot_fits, d_is_lot, d_is_seam, d_are_knit, d__changed, d__is_change, d_setting_fits, d_is_setting, d_is_four, d_four_settings, d_place_by, d_is_odd, d__law_four_right, d__law_pairs_right, d__is_idle, d_idle_houses, d_law, d_NotUsable]
def ysL : List YesNo := errY "NotUsable" ("NotUsable", some "__init__") "word" "at"
abbrev TX (K : PySem.W.Frag) (mg : Str → Option Value) : Prop := Tx faL fnL ysL K mg
theorem mem_at {A : Type} {l : List A} {a : A} (i : Nat) (h : l[i]? = some a) : a ∈ l := List.mem_of_getElem? h
section
variable {P : Program} {w : World} {K : PySem.W.Frag} {mg : Str → Option Value} {base : Heap}
theorem hy_NotUsable : ∀ y ∈ errY "NotUsable" d_NotUsable.at_ "word" "at", y ∈ ysL := fun y h => by
  unfold ysL
  exact h
theorem err_NotUsable (T : TX K mg) : ErrC P w K mg base "NotUsable" "word" "at" d_NotUsable :=
  errC_of T (mem_at 51 rfl) rfl rfl (mem_at 51 rfl) hy_NotUsable sc_NotUsable (fun _ _ _ _ _ _ us hl => match us, hl with | [_, _, _], _ => rfl) fun X hN hs => by
    have h0 : X.N[0]? = some ("self" : Str) := by rw [hN]; rfl
    have h1 : X.N[1]? = some ("word" : Str) := by rw [hN]; rfl
    have h2 : X.N[2]? = some ("at" : Str) := by rw [hN]; rfl
    have v0 : Vis X.env.scope ("self" : Str) := by rw [hs]; exact Or.inl rfl
    have v1 : Vis X.env.scope ("word" : Str) := by rw [hs]; exact Or.inl rfl
    have v2 : Vis X.env.scope ("at" : Str) := by rw [hs]; exact Or.inl rfl
    exact pss_cons (ps_ost (pe_var h0 v0) (pe_var h1 v1)) (pss_one (ps_ost (pe_var h0 v0) (pe_var h2 v2)))
theorem hcs_NotUsable (T : TX K mg) : ∀ (x : Str) (bb : Bool) (C : Addr), (x, bb) ∈ [(("NotUsable" : Str), true)] → mg x = some (.ref C) → PySem.W.exmOne K (.ref C) (.ref (He.ga K "NotUsable")) = some bb := fun x bb C hm hC => by
  simp only [List.mem_singleton, Prod.mk.injEq] at hm
  obtain ⟨rfl, rfl⟩ := hm
  have e := (T.glo "NotUsable" (mem_at 51 rfl)).symm.trans hC
  injection e with e
  injection e with e
  subst e
  exact He.exm_ok (T.says.fact (f := .exm "NotUsable" "NotUsable" true) (mem_at 67 rfl))
theorem only_NotUsable (T : TX K mg) {C : Addr} (h : ∃ x : Str, (x, true) ∈ [(("NotUsable" : Str), true)] ∧ mg x = some (.ref C)) : C = He.ga K "NotUsable" := by
  obtain ⟨x, hm, hC⟩ := h
  simp only [List.mem_singleton, Prod.mk.injEq] at hm
  obtain ⟨rfl, _⟩ := hm
  have e := (T.glo "NotUsable" (mem_at 51 rfl)).symm.trans hC
  injection e with e
  injection e with e
  exact e.symm
theorem xf_NotUsable (T : TX K mg) : XfC K (He.ga K "NotUsable") := xfB_ok (T.says.own (y := fun K => xfB K (He.ga K "NotUsable")) (hy_NotUsable _ (by simp [errY, d_NotUsable])))
theorem no_NotUsable_word (T : TX K mg) : PySem.W.findIn K (.ref (He.ga K "NotUsable")) "word" = some none := of_decide_eq_true (T.says.own (y := fun K => decide (PySem.W.findIn K (.ref (He.ga K "NotUsable")) "word" = some none)) (hy_NotUsable _ (by simp [errY, d_NotUsable])))
theorem no_NotUsable_at (T : TX K mg) : PySem.W.findIn K (.ref (He.ga K "NotUsable")) "at" = some none := of_decide_eq_true (T.says.own (y := fun K => decide (PySem.W.findIn K (.ref (He.ga K "NotUsable")) "at" = some none)) (hy_NotUsable _ (by simp [errY, d_NotUsable])))
theorem cal__law_row (T : TX K mg) : CalG P w K mg base 1 d__law_row [("_law_script" : Str), ("_law_many" : Str)] (spP K mg M__law_row) := by
  have f_abs : mg "abs" = none := T.free "abs" (mem_at 52 rfl)
  have f_int : mg "int" = none := T.free "int" (mem_at 55 rfl)
  have f_len : mg "len" = none := T.free "len" (mem_at 57 rfl)
  have f_range : mg "range" = none := T.free "range" (mem_at 61 rfl)
  obtain ⟨fd, F0⟩ := T.says.def_ (d := d__law_row) (mem_at 0 rfl)
  have F : FunD K d__law_row.name d__law_row.qual d__law_row.params d__law_row.body d__law_row.scope [] [] (He.fAd K d__law_row.at_) fd := F0
  have B : Binds K fd [("_law_script" : Str), ("_law_many" : Str)] [] := F.bindsN fun _ _ _ _ _ _ us hl => match us, hl with | [_, _], _ => rfl
  have glo : mg d__law_row.name = some (.ref (He.fAd K d__law_row.at_)) := T.glo "_law_row" (mem_at 0 rfl)
  refine ⟨⟨fd, F, ?_, B⟩, glo⟩
  refine fnP_ok F sc__law_row (by decide) ?_
  intro cdv A outer s H E hgd hr
  exact ⟨_, (pss_cons (ps_if (pt_cmpR (op_eqG (room65 hr)) (pe_callB call_len_seq (by rfl) (by exact f_len) (by decide +kernel) (pa_cons (pv 0) pa_nil)) pe_int (nomark _)) (pss_one (ps_ret (pe_lc (own := [(("_law_k" : Str), 5)]) (g := gName 5) rfl sc__law_row.nd (pi_range1 (by rfl) (by exact f_range) (pa_cons (pv 1) pa_nil)) (blkOk_by (own := [(("_law_k" : Str), 5)]) (N := N__law_row) (sc := d__law_row.scope) (by decide +kernel)) (fun _ _ _ _ _ => pg_name (i := 5) sc__law_row.nd rfl (by first | exact Or.inl rfl | exact Or.inr rfl)) (fun _ _ _ _ _ => pts_nil) (fun _ _ _ _ _ => (pe_op op_add3 (pv 5) pe_int))))) pss_nil)
  (pss_cons (ps_set (i := 2) sc__law_row.nd rfl (Or.inl rfl) pe_int)
  (pss_cons (ps_set (i := 3) sc__law_row.nd rfl (Or.inl rfl) (pe_lst pa_nil))
  (pss_cons (ps_for (passes_of rfl) rfl (pi_seq (pv 0)) (pg_name (i := 4) sc__law_row.nd rfl (Or.inl rfl)) (pss_cons (ps_set (i := 2) sc__law_row.nd rfl (Or.inl rfl) (pe_op op_mod (pe_callTy call_int1 (by rfl) (by exact f_int) (by decide +kernel) (pa_cons (pe_op op_add3 (pe_op op_mulX (pv 2) pe_int) (pv 4)) pa_nil)) pe_int))
  (pss_cons (ps_set (i := 6) sc__law_row.nd rfl (Or.inl rfl) (pe_callB call_abs (by rfl) (by exact f_abs) (by decide +kernel) (pa_cons (pv 4) pa_nil)))
  (pss_one (ps_if (pt_cmpR (op_geG (room65 hr)) (pv 6) pe_int (nomark _)) (pss_one (ps_for (passes_of rfl) rfl (pi_range1 (by rfl) (by exact f_range) (pa_cons pe_int pa_nil)) (pg_name (i := 5) sc__law_row.nd rfl (Or.inl rfl)) (pss_one (ps_if (pt_cmpR (op_gtG (room65 hr)) (pv 6) pe_int (nomark _)) (pss_cons (ps_expr (pe_bm PySem.F.plainAttrs_list PySem.F.slot_list_append PySem.F.type_list_append mt_append (pv 3) (pa_cons (pe_op op_mod (pe_callTy call_int1 (by rfl) (by exact f_int) (by decide +kernel) (pa_cons (pv 6) pa_nil)) pe_int) pa_nil)))
  (pss_one (ps_set (i := 6) sc__law_row.nd rfl (Or.inl rfl) (pe_op op_fdivW (pv 6) pe_int)))) pss_nil)))) pss_nil)))))
  (pss_cons (ps_for (passes_of rfl) rfl (pi_range1 (by rfl) (by exact f_range) (pa_cons (pv 1) pa_nil)) (pg_name (i := 5) sc__law_row.nd rfl (Or.inl rfl)) (pss_cons (ps_set (i := 2) sc__law_row.nd rfl (Or.inl rfl) (pe_op op_mod (pe_callTy call_int1 (by rfl) (by exact f_int) (by decide +kernel) (pa_cons (pe_op op_add3 (pe_op op_add3 (pe_op op_mulX (pv 2) pe_int) pe_int) (pv 5)) pa_nil)) pe_int))
  (pss_cons (ps_set (i := 7) sc__law_row.nd rfl (Or.inl rfl) (pe_op op_mod (pe_callTy call_int1 (by rfl) (by exact f_int) (by decide +kernel) (pa_cons (pe_op op_add3 (pe_op op_add3 (pe_op op_mulX (pv 2) (pv 2)) (pe_op op_fdivW (pv 2) pe_int)) pe_int) pa_nil)) pe_int))
  (pss_one (ps_expr (pe_bm PySem.F.plainAttrs_list PySem.F.slot_list_append PySem.F.type_list_append mt_append (pv 3) (pa_cons (pe_op op_mod (pe_callTy call_int1 (by rfl) (by exact f_int) (by decide +kernel) (pa_cons (pe_op op_fdivW (pv 7) pe_int) pa_nil)) pe_int) pa_nil)))))))
  (pss_one (ps_ret (pv 3)))))))),
  (ss_seq (ss_if (st_test (se_2 o_eq (se_n o_len (sa_cons se_var sa_nil)) se_int)) (ss_ret (se_l (sl_lc (si_rng1 (sa_cons se_var sa_nil)) (by decide) sg_name st_yes (se_2 o_add se_var se_int)))) ss_next)
  (ss_seq (ss_asg se_int sg_name)
  (ss_seq (ss_asgO (sl_lst sa_nil))
  (ss_seq (ss_for (si_seq se_var) sg_name (ss_seq (ss_asg (se_2 o_mod (se_n o_int (sa_cons (se_2 o_add (se_2 o_mul se_var se_int) se_var) sa_nil)) se_int) sg_name)
  (ss_seq (ss_asg (se_n o_abs (sa_cons se_var sa_nil)) sg_name)
  (ss_if (st_test (se_2 o_ge se_var se_int)) (ss_for (si_rng1 (sa_cons se_int sa_nil)) sg_name (ss_if (st_test (se_2 o_gt se_var se_int)) (ss_seq (ss_app (se_2 o_mod (se_n o_int (sa_cons se_var sa_nil)) se_int))
  (ss_asg (se_2 o_div se_var se_int) sg_name)) ss_next)) ss_next))))
  (ss_seq (ss_for (si_rng1 (sa_cons se_var sa_nil)) sg_name (ss_seq (ss_asg (se_2 o_mod (se_n o_int (sa_cons (se_2 o_add (se_2 o_add (se_2 o_mul se_var se_int) se_int) se_var) sa_nil)) se_int) sg_name)
  (ss_seq (ss_asg (se_2 o_mod (se_n o_int (sa_cons (se_2 o_add (se_2 o_add (se_2 o_mul se_var se_var) (se_2 o_div se_var se_int)) se_int) sa_nil)) se_int) sg_name)
  (ss_app (se_2 o_mod (se_n o_int (sa_cons (se_2 o_div se_var se_int) sa_nil)) se_int)))))
  (ss_ret se_var))))))⟩
theorem cal__law_sizes (T : TX K mg) : CalG P w K mg base 1 d__law_sizes [("_law_row_here" : Str)] (spP K mg M__law_sizes) := by
  have f_int : mg "int" = none := T.free "int" (mem_at 55 rfl)
  have f_range : mg "range" = none := T.free "range" (mem_at 61 rfl)
  have f_tuple : mg "tuple" = none := T.free "tuple" (mem_at 65 rfl)
  obtain ⟨fd, F0⟩ := T.says.def_ (d := d__law_sizes) (mem_at 1 rfl)
  have F : FunD K d__law_sizes.name d__law_sizes.qual d__law_sizes.params d__law_sizes.body d__law_sizes.scope [] [] (He.fAd K d__law_sizes.at_) fd := F0
  have B : Binds K fd [("_law_row_here" : Str)] [] := F.bindsN fun _ _ _ _ _ _ us hl => match us, hl with | [_], _ => rfl
  have glo : mg d__law_sizes.name = some (.ref (He.fAd K d__law_sizes.at_)) := T.glo "_law_sizes" (mem_at 1 rfl)
  refine ⟨⟨fd, F, ?_, B⟩, glo⟩
  refine fnP_ok F sc__law_sizes (by decide) ?_
  intro cdv A outer s H E hgd hr
  exact ⟨_, (pss_cons (ps_set (i := 1) sc__law_sizes.nd rfl (Or.inl rfl) (pe_op op_add3 pe_int (pe_op op_mod (pe_callTy call_int1 (by rfl) (by exact f_int) (by decide +kernel) (pa_cons (pe_ix ix_seq (pv 0) pe_int fun _ _ => rfl) pa_nil)) pe_int)))
  (pss_cons (ps_set (i := 2) sc__law_sizes.nd rfl (Or.inl rfl) pe_int)
  (pss_cons (ps_if (pt_cmpR (op_eqG (room65 hr)) (pe_op op_mod (pe_callTy call_int1 (by rfl) (by exact f_int) (by decide +kernel) (pa_cons (pe_ix ix_seq (pv 0) pe_int fun _ _ => rfl) pa_nil)) pe_int) pe_int (nomark _)) (pss_one (ps_set (i := 2) sc__law_sizes.nd rfl (Or.inl rfl) pe_int)) pss_nil)
  (pss_cons (ps_if (pt_cmpR (op_eqG (room65 hr)) (pe_op op_mod (pe_callTy call_int1 (by rfl) (by exact f_int) (by decide +kernel) (pa_cons (pe_ix ix_seq (pv 0) pe_int fun _ _ => rfl) pa_nil)) pe_int) pe_int (nomark _)) (pss_one (ps_set (i := 2) sc__law_sizes.nd rfl (Or.inl rfl) pe_int)) pss_nil)
  (pss_cons (ps_set (i := 3) sc__law_sizes.nd rfl (Or.inl rfl) (pe_lst pa_nil))
  (pss_cons (ps_set (i := 4) sc__law_sizes.nd rfl (Or.inl rfl) pe_int)
  (pss_cons (ps_for (passes_of rfl) rfl (pi_range1 (by rfl) (by exact f_range) (pa_cons (pv 1) pa_nil)) (pg_name (i := 5) sc__law_sizes.nd rfl (Or.inl rfl)) (pss_cons (ps_set (i := 6) sc__law_sizes.nd rfl (Or.inl rfl) (pe_ix ix_seq (pe_lst (pa_cons pe_int (pa_cons pe_int (pa_cons pe_int (pa_cons pe_int (pa_cons pe_int (pa_cons pe_int pa_nil))))))) (pe_op op_mod (pe_callTy call_int1 (by rfl) (by exact f_int) (by decide +kernel) (pa_cons (pe_ix ix_seq (pv 0) (pe_op op_add3 pe_int (pv 5)) fun _ _ => rfl) pa_nil)) pe_int) fun _ _ => rfl))
  (pss_cons (ps_for (passes_of rfl) rfl (pi_range1 (by rfl) (by exact f_range) (pa_cons pe_int pa_nil)) (pg_name (i := 7) sc__law_sizes.nd rfl (Or.inl rfl)) (pss_one (ps_if (pt_cmpR (op_gtG (room65 hr)) (pe_op op_mulX (pv 4) (pv 6)) (pv 2) (nomark _)) (pss_one (ps_set (i := 6) sc__law_sizes.nd rfl (Or.inl rfl) (pe_op op_sub (pv 6) pe_int))) pss_nil)))
  (pss_cons (ps_set (i := 4) sc__law_sizes.nd rfl (Or.inl rfl) (pe_op op_mulX (pv 4) (pv 6)))
  (pss_one (ps_expr (pe_bm PySem.F.plainAttrs_list PySem.F.slot_list_append PySem.F.type_list_append mt_append (pv 3) (pa_cons (pv 6) pa_nil))))))))
  (pss_cons (ps_if (pt_cmpR (op_eqG (room65 hr)) (pe_op op_mod (pe_callTy call_int1 (by rfl) (by exact f_int) (by decide +kernel) (pa_cons (pe_ix ix_seq (pv 0) pe_int fun _ _ => rfl) pa_nil)) pe_int) pe_int (nomark _)) (pss_one (ps_set (i := 3) sc__law_sizes.nd rfl (Or.inl rfl) (pe_revL (pv 3)))) pss_nil)
  (pss_one (ps_ret (pe_callTy call_tuple_of (by rfl) (by exact f_tuple) (by decide +kernel) (pa_cons (pv 3) pa_nil)))))))))))),
  (ss_seq (ss_asg (se_2 o_add se_int (se_2 o_mod (se_n o_int (sa_cons (se_2 o_ix se_var se_int) sa_nil)) se_int)) sg_name)
  (ss_seq (ss_asg se_int sg_name)
  (ss_seq (ss_if (st_test (se_2 o_eq (se_2 o_mod (se_n o_int (sa_cons (se_2 o_ix se_var se_int) sa_nil)) se_int) se_int)) (ss_asg se_int sg_name) ss_next)
  (ss_seq (ss_if (st_test (se_2 o_eq (se_2 o_mod (se_n o_int (sa_cons (se_2 o_ix se_var se_int) sa_nil)) se_int) se_int)) (ss_asg se_int sg_name) ss_next)
  (ss_seq (ss_asgO (sl_lst sa_nil))
  (ss_seq (ss_asg se_int sg_name)
  (ss_seq (ss_for (si_rng1 (sa_cons se_var sa_nil)) sg_name (ss_seq (ss_asg (se_2 o_ix (se_l (sl_lst (sa_cons se_int (sa_cons se_int (sa_cons se_int (sa_cons se_int (sa_cons se_int (sa_cons se_int sa_nil)))))))) (se_2 o_mod (se_n o_int (sa_cons (se_2 o_ix se_var (se_2 o_add se_int se_var)) sa_nil)) se_int)) sg_name)
  (ss_seq (ss_for (si_rng1 (sa_cons se_int sa_nil)) sg_name (ss_if (st_test (se_2 o_gt (se_2 o_mul se_var se_var) se_var)) (ss_asg (se_2 o_sub se_var se_int) sg_name) ss_next))
  (ss_seq (ss_asg (se_2 o_mul se_var se_var) sg_name)
  (ss_app se_var)))))
  (ss_seq (ss_if (st_test (se_2 o_eq (se_2 o_mod (se_n o_int (sa_cons (se_2 o_ix se_var se_int) sa_nil)) se_int) se_int)) (ss_asgO (sl_rev se_var)) ss_next)
  (ss_ret (se_n o_tuple (sa_cons se_var sa_nil)))))))))))⟩
theorem cal__law_settings (T : TX K mg) : CalG P w K mg base 1 d__law_settings [("_law_s" : Str)] (spP K mg M__law_settings) := by
  have f_list : mg "list" = none := T.free "list" (mem_at 58 rfl)
  have f_range : mg "range" = none := T.free "range" (mem_at 61 rfl)
  obtain ⟨fd, F0⟩ := T.says.def_ (d := d__law_settings) (mem_at 2 rfl)
  have F : FunD K d__law_settings.name d__law_settings.qual d__law_settings.params d__law_settings.body d__law_settings.scope [] [] (He.fAd K d__law_settings.at_) fd := F0
  have B : Binds K fd [("_law_s" : Str)] [] := F.bindsN fun _ _ _ _ _ _ us hl => match us, hl with | [_], _ => rfl
  have glo : mg d__law_settings.name = some (.ref (He.fAd K d__law_settings.at_)) := T.glo "_law_settings" (mem_at 2 rfl)
  refine ⟨⟨fd, F, ?_, B⟩, glo⟩
  refine fnP_ok F sc__law_settings (by decide) ?_
  intro cdv A outer s H E hgd hr
  exact ⟨_, (pss_cons (ps_set (i := 1) sc__law_settings.nd rfl (Or.inl rfl) (pe_lst (pa_cons (pe_tup pa_nil) pa_nil)))
  (pss_cons (ps_for (passes_of rfl) rfl (pi_seq (pv 0)) (pg_name (i := 2) sc__law_settings.nd rfl (Or.inl rfl)) (pss_cons (ps_set (i := 3) sc__law_settings.nd rfl (Or.inl rfl) (pe_lst pa_nil))
  (pss_cons (ps_for (passes_of rfl) rfl (pi_seq (pv 1)) (pg_name (i := 4) sc__law_settings.nd rfl (Or.inl rfl)) (pss_one (ps_for (passes_of rfl) rfl (pi_range1 (by rfl) (by exact f_range) (pa_cons (pv 2) pa_nil)) (pg_name (i := 5) sc__law_settings.nd rfl (Or.inl rfl)) (pss_one (ps_expr (pe_bm PySem.F.plainAttrs_list PySem.F.slot_list_append PySem.F.type_list_append mt_append (pv 3) (pa_cons (pe_op op_add3 (pv 4) (pe_tup (pa_cons (pv 5) pa_nil))) pa_nil)))))))
  (pss_one (ps_set (i := 1) sc__law_settings.nd rfl (Or.inl rfl) (pe_callTy call_list_of (by rfl) (by exact f_list) (by decide +kernel) (pa_cons (pv 3) pa_nil)))))))
  (pss_one (ps_ret (pv 1))))),
  (ss_seq (ss_asg (se_l (sl_lst (sa_cons (se_tup sa_nil) sa_nil))) sg_name)
  (ss_seq (ss_for (si_seq se_var) sg_name (ss_seq (ss_asgO (sl_lst sa_nil))
  (ss_seq (ss_for (si_seq se_var) sg_name (ss_for (si_rng1 (sa_cons se_var sa_nil)) sg_name (ss_app (se_2 o_add se_var (se_tup (sa_cons se_var sa_nil))))))
  (ss_asg (se_l (sl_n o_list (sa_cons se_var sa_nil))) sg_name))))
  (ss_ret se_var)))⟩
theorem cal__law_steps (T : TX K mg) : CalG P w K mg base 1 d__law_steps [("_law_s" : Str)] (spP K mg M__law_steps) := by
  have f_len : mg "len" = none := T.free "len" (mem_at 57 rfl)
  have f_range : mg "range" = none := T.free "range" (mem_at 61 rfl)
  obtain ⟨fd, F0⟩ := T.says.def_ (d := d__law_steps) (mem_at 3 rfl)
  have F : FunD K d__law_steps.name d__law_steps.qual d__law_steps.params d__law_steps.body d__law_steps.scope [] [] (He.fAd K d__law_steps.at_) fd := F0
  have B : Binds K fd [("_law_s" : Str)] [] := F.bindsN fun _ _ _ _ _ _ us hl => match us, hl with | [_], _ => rfl
  have glo : mg d__law_steps.name = some (.ref (He.fAd K d__law_steps.at_)) := T.glo "_law_steps" (mem_at 3 rfl)
  refine ⟨⟨fd, F, ?_, B⟩, glo⟩
  refine fnP_ok F sc__law_steps (by decide) ?_
  intro cdv A outer s H E hgd hr
  exact ⟨_, (pss_cons (ps_set (i := 1) sc__law_steps.nd rfl (Or.inl rfl) (pe_op op_rep (pe_lst (pa_cons pe_int pa_nil)) (pe_callB call_len_seq (by rfl) (by exact f_len) (by decide +kernel) (pa_cons (pv 0) pa_nil))))
  (pss_cons (ps_for (passes_of rfl) rfl (pi_range2 (by rfl) (by exact f_range) (pa_cons pe_int (pa_cons (pe_callB call_len_seq (by rfl) (by exact f_len) (by decide +kernel) (pa_cons (pv 0) pa_nil)) pa_nil))) (pg_name (i := 2) sc__law_steps.nd rfl (Or.inl rfl)) (pss_cons (ps_set (i := 3) sc__law_steps.nd rfl (Or.inl rfl) (pe_op op_sub (pe_op op_sub (pe_callB call_len_seq (by rfl) (by exact f_len) (by decide +kernel) (pa_cons (pv 0) pa_nil)) pe_int) (pv 2)))
  (pss_one (ps_asg (pe_op op_mulX (pe_ix ix_seq (pv 1) (pe_op op_add3 (pv 3) pe_int) fun _ _ => rfl) (pe_ix ix_seq (pv 0) (pe_op op_add3 (pv 3) pe_int) fun _ _ => rfl)) (pg_sub (pv 1) (pv 3) set_list)))))
  (pss_one (ps_ret (pv 1))))),
  (ss_seq (ss_asgO (sl_rep (sl_lst (sa_cons se_int sa_nil)) (se_n o_len (sa_cons se_var sa_nil))))
  (ss_seq (ss_for (si_rng2 (sa_cons se_int (sa_cons (se_n o_len (sa_cons se_var sa_nil)) sa_nil))) sg_name (ss_seq (ss_asg (se_2 o_sub (se_2 o_sub (se_n o_len (sa_cons se_var sa_nil)) se_int) se_var) sg_name)
  (ss_setO (se_2 o_mul (se_bIx (se_2 o_add se_var se_int)) (se_2 o_ix se_var (se_2 o_add se_var se_int))) se_var)))
  (ss_ret se_var)))⟩
theorem cal__law_on (T : TX K mg) : CalG P w K mg base 1 d__law_on [("_law_s" : Str), ("_law_steps_here" : Str), ("_law_l" : Str), ("_law_x" : Str)] (spP K mg M__law_on) := by
  have f_sum : mg "sum" = none := T.free "sum" (mem_at 64 rfl)
  obtain ⟨fd, F0⟩ := T.says.def_ (d := d__law_on) (mem_at 4 rfl)
  have F : FunD K d__law_on.name d__law_on.qual d__law_on.params d__law_on.body d__law_on.scope [] [] (He.fAd K d__law_on.at_) fd := F0
  have B : Binds K fd [("_law_s" : Str), ("_law_steps_here" : Str), ("_law_l" : Str), ("_law_x" : Str)] [] := F.bindsN fun _ _ _ _ _ _ us hl => match us, hl with | [_, _, _, _], _ => rfl
  have glo : mg d__law_on.name = some (.ref (He.fAd K d__law_on.at_)) := T.glo "_law_on" (mem_at 4 rfl)
  refine ⟨⟨fd, F, ?_, B⟩, glo⟩
  refine fnP_ok F sc__law_on (by decide) ?_
  intro cdv A outer s H E hgd hr
  exact ⟨_, (pss_one (ps_ret (pe_callB (cr_sum (by rfl)) (by rfl) (by exact f_sum) (by decide +kernel) (pa_cons (pe_lc (own := [(("_law_h" : Str), 4)]) (g := gName 4) rfl sc__law_on.nd (pi_seq (pv 2)) (blkOk_by (own := [(("_law_h" : Str), 4)]) (N := N__law_on) (sc := d__law_on.scope) (by decide +kernel)) (fun _ _ _ _ _ => pg_name (i := 4) sc__law_on.nd rfl (by first | exact Or.inl rfl | exact Or.inr rfl)) (fun _ _ _ _ _ => pts_nil) (fun _ _ _ _ _ => (pe_op op_mulX (pe_ix ix_seq (pv 3) (pv 4) fun _ _ => rfl) (pe_ix ix_seq (pv 1) (pv 4) fun _ _ => rfl)))) pa_nil)))),
  (ss_ret (se_n o_sum (sa_cons (se_l (sl_lc (si_seq se_var) (by decide) sg_name st_yes (se_2 o_mul (se_2 o_ix se_var se_var) (se_2 o_ix se_var se_var)))) sa_nil)))⟩
theorem cal__law_summed (T : TX K mg) : CalG P w K mg base 2 d__law_summed [("_law_row_here" : Str), ("_law_s" : Str), ("_law_start" : Str)] (spO K mg M__law_summed) := by
  have c__law_settings : CalG P w K mg base 1 d__law_settings [("_law_s" : Str)] (spP K mg M__law_settings) := cal__law_settings T
  have c__law_steps : CalG P w K mg base 1 d__law_steps [("_law_s" : Str)] (spP K mg M__law_steps) := cal__law_steps T
  have c__law_on : CalG P w K mg base 1 d__law_on [("_law_s" : Str), ("_law_steps_here" : Str), ("_law_l" : Str), ("_law_x" : Str)] (spP K mg M__law_on) := cal__law_on T
  have f_int : mg "int" = none := T.free "int" (mem_at 55 rfl)
  have f_len : mg "len" = none := T.free "len" (mem_at 57 rfl)
  have f_range : mg "range" = none := T.free "range" (mem_at 61 rfl)
  obtain ⟨fd, F0⟩ := T.says.def_ (d := d__law_summed) (mem_at 5 rfl)
  have F : FunD K d__law_summed.name d__law_summed.qual d__law_summed.params d__law_summed.body d__law_summed.scope [] [] (He.fAd K d__law_summed.at_) fd := F0
  have B : Binds K fd [("_law_row_here" : Str), ("_law_s" : Str), ("_law_start" : Str)] [] := F.bindsN fun _ _ _ _ _ _ us hl => match us, hl with | [_, _, _], _ => rfl
  have glo : mg d__law_summed.name = some (.ref (He.fAd K d__law_summed.at_)) := T.glo "_law_summed" (mem_at 5 rfl)
  refine ⟨⟨fd, F, ?_, B⟩, glo⟩
  refine fnO_ok F sc__law_summed (by decide) ?_
  intro cdv A outer s H E hgd hr
  exact ⟨_, (pss_cons (ps_set (i := 3) sc__law_summed.nd rfl (Or.inl rfl) (pe_cal c__law_settings hgd hr (by decide) (passE (takes_of rfl rfl rfl rfl)) (pa_cons (pv 1) pa_nil)))
  (pss_cons (ps_set (i := 4) sc__law_summed.nd rfl (Or.inl rfl) (pe_cal c__law_steps hgd hr (by decide) (passE (takes_of rfl rfl rfl rfl)) (pa_cons (pv 1) pa_nil)))
  (pss_cons (ps_set (i := 5) sc__law_summed.nd rfl (Or.inl rfl) (pe_op op_rep (pe_lst (pa_cons (pe_op op_mod (pe_callTy call_int1 (by rfl) (by exact f_int) (by decide +kernel) (pa_cons (pe_ix ix_seq (pv 0) (pv 2) fun _ _ => rfl) pa_nil)) pe_int) pa_nil)) (pe_callB call_len_seq (by rfl) (by exact f_len) (by decide +kernel) (pa_cons (pv 3) pa_nil))))
  (pss_cons (ps_for (passes_of rfl) rfl (pi_range1 (by rfl) (by exact f_range) (pa_cons pe_int pa_nil)) (pg_name (i := 6) sc__law_summed.nd rfl (Or.inr rfl)) (pss_cons (ps_setLc (i := 7) (own := [(("_law_h" : Str), 9)]) (g := gName 9) rfl sc__law_summed.nd rfl rfl (sw_true rfl rfl rfl (by decide +kernel)) (pi_range1 (by rfl) (by exact f_range) (pa_cons (pe_callB call_len_seq (by rfl) (by exact f_len) (by decide +kernel) (pa_cons (pv 1) pa_nil)) pa_nil)) (blkOk_by (own := [(("_law_h" : Str), 9)]) (N := N__law_summed) (sc := d__law_summed.scope) (by decide +kernel)) (fun _ _ _ _ _ => pg_name (i := 9) sc__law_summed.nd rfl (by first | exact Or.inl rfl | exact Or.inr rfl)) (fun _ _ _ _ _ => pts_one (pt_cmpR (op_eqG (room65 hr)) (pe_op op_mod (pe_op op_fdivW (pe_ix ix_seq (pv 0) (pe_op op_add3 (pe_op op_add3 (pv 2) pe_int) (pv 9)) fun _ _ => rfl) pe_int) pe_int) (pv 6) (nomark _))) (fun _ _ _ _ _ => (pv 9)))
  (pss_one (ps_for (passes_of rfl) rfl (pi_range1 (by rfl) (by exact f_range) (pa_cons (pe_callB call_len_seq (by rfl) (by exact f_len) (by decide +kernel) (pa_cons (pv 3) pa_nil)) pa_nil)) (pg_name (i := 8) sc__law_summed.nd rfl (Or.inl rfl)) (pss_one (ps_asg (pe_op op_mod (pe_callTy call_int1 (by rfl) (by exact f_int) (by decide +kernel) (pa_cons (pe_op op_add3 (pe_ix ix_seq (pv 5) (pv 8) fun _ _ => rfl) (pe_op op_fdivW (pe_ix ix_seq (pv 0) (pe_op op_add3 (pe_op op_add3 (pe_op op_add3 (pv 2) pe_int) (pv 6)) (pe_cal c__law_on hgd hr (by decide) (passE (takes_of rfl rfl rfl rfl)) (pa_cons (pv 1) (pa_cons (pv 4) (pa_cons (pv 7) (pa_cons (pe_ix ix_seq (pv 3) (pv 8) fun _ _ => rfl) pa_nil)))))) fun _ _ => rfl) pe_int)) pa_nil)) pe_int) (pg_sub (pv 5) (pv 8) set_list)))))))
  (pss_one (ps_ret (pv 5))))))),
  (so_seq (ss_asg (se_callD (sa_cons se_var sa_nil)) sg_name)
  (so_seq (ss_asg (se_callD (sa_cons se_var sa_nil)) sg_name)
  (so_seq (ss_asgO (sl_rep (sl_lst (sa_cons (se_2 o_mod (se_n o_int (sa_cons (se_2 o_ix se_var se_var) sa_nil)) se_int) sa_nil)) (se_n o_len (sa_cons se_var sa_nil))))
  (so_seq (ss_for (si_rng1 (sa_cons se_int sa_nil)) sg_name (ss_seq (ss_asg (se_l (sl_lc (si_rng1 (sa_cons (se_n o_len (sa_cons se_var sa_nil)) sa_nil)) (by decide) sg_name (st_test (se_2 o_eq (se_2 o_mod (se_2 o_div (se_2 o_ix se_var (se_2 o_add (se_2 o_add se_var se_int) se_var)) se_int) se_int) se_var)) se_var)) sg_name)
  (ss_for (si_rng1 (sa_cons (se_n o_len (sa_cons se_var sa_nil)) sa_nil)) sg_name (ss_setO (se_2 o_mod (se_n o_int (sa_cons (se_2 o_add (se_bIx se_var) (se_2 o_div (se_2 o_ix se_var (se_2 o_add (se_2 o_add (se_2 o_add se_var se_int) se_var) (se_callD (sa_cons se_var (sa_cons se_var (sa_cons se_var (sa_cons (se_2 o_ix se_var se_var) sa_nil))))))) se_int)) sa_nil)) se_int) se_var))))
  so_ret))))⟩
theorem cal__law_by_terms (T : TX K mg) : CalG P w K mg base 2 d__law_by_terms [("_law_row_here" : Str), ("_law_s" : Str), ("_law_start" : Str)] (spO K mg M__law_by_terms) := by
  have c__law_settings : CalG P w K mg base 1 d__law_settings [("_law_s" : Str)] (spP K mg M__law_settings) := cal__law_settings T
  have f_int : mg "int" = none := T.free "int" (mem_at 55 rfl)
  have f_len : mg "len" = none := T.free "len" (mem_at 57 rfl)
  have f_range : mg "range" = none := T.free "range" (mem_at 61 rfl)
  have f_sum : mg "sum" = none := T.free "sum" (mem_at 64 rfl)
  obtain ⟨fd, F0⟩ := T.says.def_ (d := d__law_by_terms) (mem_at 6 rfl)
  have F : FunD K d__law_by_terms.name d__law_by_terms.qual d__law_by_terms.params d__law_by_terms.body d__law_by_terms.scope [] [] (He.fAd K d__law_by_terms.at_) fd := F0
  have B : Binds K fd [("_law_row_here" : Str), ("_law_s" : Str), ("_law_start" : Str)] [] := F.bindsN fun _ _ _ _ _ _ us hl => match us, hl with | [_, _, _], _ => rfl
  have glo : mg d__law_by_terms.name = some (.ref (He.fAd K d__law_by_terms.at_)) := T.glo "_law_by_terms" (mem_at 6 rfl)
  refine ⟨⟨fd, F, ?_, B⟩, glo⟩
  refine fnO_ok F sc__law_by_terms (by decide) ?_
  intro cdv A outer s H E hgd hr
  exact ⟨_, (pss_cons (ps_set (i := 3) sc__law_by_terms.nd rfl (Or.inr rfl) (pe_cal c__law_settings hgd hr (by decide) (passE (takes_of rfl rfl rfl rfl)) (pa_cons (pv 1) pa_nil)))
  (pss_cons (ps_set (i := 4) sc__law_by_terms.nd rfl (Or.inl rfl) (pe_op op_rep (pe_lst (pa_cons (pe_op op_mod (pe_callTy call_int1 (by rfl) (by exact f_int) (by decide +kernel) (pa_cons (pe_ix ix_seq (pv 0) (pv 2) fun _ _ => rfl) pa_nil)) pe_int) pa_nil)) (pe_callB call_len_seq (by rfl) (by exact f_len) (by decide +kernel) (pa_cons (pv 3) pa_nil))))
  (pss_cons (ps_for (passes_of rfl) rfl (pi_range1 (by rfl) (by exact f_range) (pa_cons pe_int pa_nil)) (pg_name (i := 5) sc__law_by_terms.nd rfl (Or.inr rfl)) (pss_cons (ps_set (i := 6) sc__law_by_terms.nd rfl (Or.inl rfl) (pe_ix ix_seq (pv 0) (pe_op op_add3 (pe_op op_add3 (pv 2) pe_int) (pv 5)) fun _ _ => rfl))
  (pss_cons (ps_setLc (i := 7) (own := [(("_law_h" : Str), 9)]) (g := gName 9) rfl sc__law_by_terms.nd rfl rfl (sw_true rfl rfl rfl (by decide +kernel)) (pi_range1 (by rfl) (by exact f_range) (pa_cons (pe_callB call_len_seq (by rfl) (by exact f_len) (by decide +kernel) (pa_cons (pv 1) pa_nil)) pa_nil)) (blkOk_by (own := [(("_law_h" : Str), 9)]) (N := N__law_by_terms) (sc := d__law_by_terms.scope) (by decide +kernel)) (fun _ _ _ _ _ => pg_name (i := 9) sc__law_by_terms.nd rfl (by first | exact Or.inl rfl | exact Or.inr rfl)) (fun _ _ _ _ _ => pts_one (pt_cmpR (op_eqG (room65 hr)) (pe_op op_mod (pe_op op_fdivW (pe_ix ix_seq (pv 0) (pe_op op_add3 (pe_op op_add3 (pe_op op_add3 (pv 2) pe_int) (pe_op op_mulX pe_int (pv 5))) (pv 9)) fun _ _ => rfl) pe_int) pe_int) pe_int (nomark _))) (fun _ _ _ _ _ => (pv 9)))
  (pss_cons (ps_set (i := 7) sc__law_by_terms.nd rfl (Or.inl rfl) (pe_slice slr_2 (pv 7) po_none (po_some (pe_op op_add3 pe_int (pe_op op_mod (pe_callTy call_int1 (by rfl) (by exact f_int) (by decide +kernel) (pa_cons (pv 6) pa_nil)) pe_int)))))
  (pss_one (ps_if (pt_cmpR (op_gtG (room65 hr)) (pe_op op_mod (pe_op op_fdivW (pv 6) pe_int) pe_int) pe_int (nomark _)) (pss_one (ps_for (passes_of rfl) rfl (pi_range1 (by rfl) (by exact f_range) (pa_cons (pe_callB call_len_seq (by rfl) (by exact f_len) (by decide +kernel) (pa_cons (pv 3) pa_nil)) pa_nil)) (pg_name (i := 8) sc__law_by_terms.nd rfl (Or.inr rfl)) (pss_cons (ps_set (i := 10) sc__law_by_terms.nd rfl (Or.inl rfl) (pe_callB (cr_sum (by rfl)) (by rfl) (by exact f_sum) (by decide +kernel) (pa_cons (pe_lc (own := [(("_law_h" : Str), 9)]) (g := gName 9) rfl sc__law_by_terms.nd (pi_seq (pv 7)) (blkOk_by (own := [(("_law_h" : Str), 9)]) (N := N__law_by_terms) (sc := d__law_by_terms.scope) (by decide +kernel)) (fun _ _ _ _ _ => pg_name (i := 9) sc__law_by_terms.nd rfl (by first | exact Or.inl rfl | exact Or.inr rfl)) (fun _ _ _ _ _ => pts_one (pt_cmpR (op_eqG (room65 hr)) (pe_ix ix_seq (pe_ix ix_seq (pv 3) (pv 8) fun _ _ => rfl) (pv 9) fun _ _ => rfl) (pe_op op_add3 pe_int (pe_op op_mod (pe_callTy call_int1 (by rfl) (by exact f_int) (by decide +kernel) (pa_cons (pe_op op_fdivW (pe_ix ix_seq (pv 0) (pe_op op_add3 (pe_op op_add3 (pe_op op_add3 (pv 2) pe_int) (pe_op op_mulX pe_int (pv 5))) (pv 9)) fun _ _ => rfl) pe_int) pa_nil)) pe_int)) (nomark _))) (fun _ _ _ _ _ => pe_int)) pa_nil)))
  (pss_one (ps_if (pt_cmpR (op_eqG (room65 hr)) (pv 10) (pe_callB call_len_seq (by rfl) (by exact f_len) (by decide +kernel) (pa_cons (pv 7) pa_nil)) (nomark _)) (pss_one (ps_asg (pe_op op_sub pe_int (pe_ix ix_seq (pv 4) (pv 8) fun _ _ => rfl)) (pg_sub (pv 4) (pv 8) set_list))) pss_nil))))) pss_nil))))))
  (pss_one (ps_ret (pv 4)))))),
  (so_seq (ss_asg (se_callD (sa_cons se_var sa_nil)) sg_name)
  (so_seq (ss_asgO (sl_rep (sl_lst (sa_cons (se_2 o_mod (se_n o_int (sa_cons (se_2 o_ix se_var se_var) sa_nil)) se_int) sa_nil)) (se_n o_len (sa_cons se_var sa_nil))))
  (so_seq (ss_for (si_rng1 (sa_cons se_int sa_nil)) sg_name (ss_seq (ss_asg (se_2 o_ix se_var (se_2 o_add (se_2 o_add se_var se_int) se_var)) sg_name)
  (ss_seq (ss_asg (se_l (sl_lc (si_rng1 (sa_cons (se_n o_len (sa_cons se_var sa_nil)) sa_nil)) (by decide) sg_name (st_test (se_2 o_eq (se_2 o_mod (se_2 o_div (se_2 o_ix se_var (se_2 o_add (se_2 o_add (se_2 o_add se_var se_int) (se_2 o_mul se_int se_var)) se_var)) se_int) se_int) se_int)) se_var)) sg_name)
  (ss_seq (ss_asg (se_sl se_var so_none (so_some (se_2 o_add se_int (se_2 o_mod (se_n o_int (sa_cons se_var sa_nil)) se_int)))) sg_name)
  (ss_if (st_test (se_2 o_gt (se_2 o_mod (se_2 o_div se_var se_int) se_int) se_int)) (ss_for (si_rng1 (sa_cons (se_n o_len (sa_cons se_var sa_nil)) sa_nil)) sg_name (ss_seq (ss_asg (se_n o_sum (sa_cons (se_l (sl_lc (si_seq se_var) (by decide) sg_name (st_test (se_2 o_eq (se_2 o_ix (se_2 o_ix se_var se_var) se_var) (se_2 o_add se_int (se_2 o_mod (se_n o_int (sa_cons (se_2 o_div (se_2 o_ix se_var (se_2 o_add (se_2 o_add (se_2 o_add se_var se_int) (se_2 o_mul se_int se_var)) se_var)) se_int) sa_nil)) se_int)))) se_int)) sa_nil)) sg_name)
  (ss_if (st_test (se_2 o_eq se_var (se_n o_len (sa_cons se_var sa_nil)))) (ss_setO (se_2 o_sub se_int (se_bIx se_var)) se_var) ss_next))) ss_next)))))
  so_ret)))⟩
theorem cal__law_table (T : TX K mg) : CalG P w K mg base 3 d__law_table [("_law_row_here" : Str), ("_law_s" : Str), ("_law_start" : Str)] (spP K mg M__law_table) := by
  have c__law_settings : CalG P w K mg base 1 d__law_settings [("_law_s" : Str)] (spP K mg M__law_settings) := cal__law_settings T
  have c__law_summed : CalG P w K mg base 2 d__law_summed [("_law_row_here" : Str), ("_law_s" : Str), ("_law_start" : Str)] (spO K mg M__law_summed) := cal__law_summed T
  have c__law_by_terms : CalG P w K mg base 2 d__law_by_terms [("_law_row_here" : Str), ("_law_s" : Str), ("_law_start" : Str)] (spO K mg M__law_by_terms) := cal__law_by_terms T
  have f_int : mg "int" = none := T.free "int" (mem_at 55 rfl)
  have f_len : mg "len" = none := T.free "len" (mem_at 57 rfl)
  have f_range : mg "range" = none := T.free "range" (mem_at 61 rfl)
  have f_tuple : mg "tuple" = none := T.free "tuple" (mem_at 65 rfl)
  obtain ⟨fd, F0⟩ := T.says.def_ (d := d__law_table) (mem_at 7 rfl)
  have F : FunD K d__law_table.name d__law_table.qual d__law_table.params d__law_table.body d__law_table.scope [] [] (He.fAd K d__law_table.at_) fd := F0
  have B : Binds K fd [("_law_row_here" : Str), ("_law_s" : Str), ("_law_start" : Str)] [] := F.bindsN fun _ _ _ _ _ _ us hl => match us, hl with | [_, _, _], _ => rfl
  have glo : mg d__law_table.name = some (.ref (He.fAd K d__law_table.at_)) := T.glo "_law_table" (mem_at 7 rfl)
  refine ⟨⟨fd, F, ?_, B⟩, glo⟩
  refine fnP_ok F sc__law_table (by decide) ?_
  intro cdv A outer s H E hgd hr
  exact ⟨_, (pss_cons (ps_set (i := 3) sc__law_table.nd rfl (Or.inl rfl) (pe_callB call_len_seq (by rfl) (by exact f_len) (by decide +kernel) (pa_cons (pe_cal c__law_settings hgd hr (by decide) (passE (takes_of rfl rfl rfl rfl)) (pa_cons (pv 1) pa_nil)) pa_nil)))
  (pss_cons (ps_set (i := 4) sc__law_table.nd rfl (Or.inl rfl) (pe_op op_mod (pe_callTy call_int1 (by rfl) (by exact f_int) (by decide +kernel) (pa_cons (pe_ix ix_seq (pv 0) (pe_op op_add3 (pv 2) pe_int) fun _ _ => rfl) pa_nil)) pe_int))
  (pss_cons (ps_if (pt_cmpR (op_ltG (room65 hr)) (pv 4) pe_int (nomark _)) (pss_one (ps_set (i := 5) sc__law_table.nd rfl (Or.inl rfl) (pe_cal c__law_summed hgd hr (by decide) (passE (takes_of rfl rfl rfl rfl)) (pa_cons (pv 0) (pa_cons (pv 1) (pa_cons (pv 2) pa_nil)))))) (pss_one (ps_if (pt_cmpR (op_ltG (room65 hr)) (pv 4) pe_int (nomark _)) (pss_one (ps_set (i := 5) sc__law_table.nd rfl (Or.inl rfl) (pe_cal c__law_by_terms hgd hr (by decide) (passE (takes_of rfl rfl rfl rfl)) (pa_cons (pv 0) (pa_cons (pv 1) (pa_cons (pv 2) pa_nil)))))) (pss_one (ps_if (pt_cmpR (op_eqG (room65 hr)) (pv 4) pe_int (nomark _)) (pss_one (ps_setLc (i := 5) (own := [(("_law_k" : Str), 6)]) (g := gName 6) rfl sc__law_table.nd rfl rfl (sw_true rfl rfl rfl (by decide +kernel)) (pi_range1 (by rfl) (by exact f_range) (pa_cons (pv 3) pa_nil)) (blkOk_by (own := [(("_law_k" : Str), 6)]) (N := N__law_table) (sc := d__law_table.scope) (by decide +kernel)) (fun _ _ _ _ _ => pg_name (i := 6) sc__law_table.nd rfl (by first | exact Or.inl rfl | exact Or.inr rfl)) (fun _ _ _ _ _ => pts_nil) (fun _ _ _ _ _ => (pe_op op_mod (pe_callTy call_int1 (by rfl) (by exact f_int) (by decide +kernel) (pa_cons (pe_op op_fdivW (pe_ix ix_seq (pv 0) (pe_op op_add3 (pe_op op_add3 (pv 2) pe_int) (pv 6)) fun _ _ => rfl) pe_int) pa_nil)) pe_int)))) (pss_one (ps_set (i := 5) sc__law_table.nd rfl (Or.inl rfl) (pe_op op_rep (pe_lst (pa_cons (pe_op op_mod (pe_callTy call_int1 (by rfl) (by exact f_int) (by decide +kernel) (pa_cons (pe_ix ix_seq (pv 0) (pv 2) fun _ _ => rfl) pa_nil)) pe_int) pa_nil)) (pv 3)))))))))
  (pss_cons (ps_if (pt_cmpR (op_inG (room65 hr)) (pv 4) (pe_tup (pa_cons pe_int (pa_cons pe_int pa_nil))) (by with_unfolding_all rfl)) (pss_cons (ps_set (i := 6) sc__law_table.nd rfl (Or.inl rfl) (pe_op op_mod (pe_callTy call_int1 (by rfl) (by exact f_int) (by decide +kernel) (pa_cons (pe_ix ix_seq (pv 0) (pe_op op_add3 (pv 2) pe_int) fun _ _ => rfl) pa_nil)) (pv 3)))
  (pss_one (ps_asg (pe_op op_sub pe_int (pe_ix ix_seq (pv 5) (pv 6) fun _ _ => rfl)) (pg_sub (pv 5) (pv 6) set_list)))) pss_nil)
  (pss_one (ps_ret (pe_callTy call_tuple_of (by rfl) (by exact f_tuple) (by decide +kernel) (pa_cons (pv 5) pa_nil)))))))),
  (ss_seq (ss_asg (se_n o_len (sa_cons (se_callD (sa_cons se_var sa_nil)) sa_nil)) sg_name)
  (ss_seq (ss_asg (se_2 o_mod (se_n o_int (sa_cons (se_2 o_ix se_var (se_2 o_add se_var se_int)) sa_nil)) se_int) sg_name)
  (ss_seq (ss_if (st_test (se_2 o_lt se_var se_int)) (ss_asgO (sl_callO (sa_cons se_var (sa_cons se_var (sa_cons se_var sa_nil))))) (ss_if (st_test (se_2 o_lt se_var se_int)) (ss_asgO (sl_callO (sa_cons se_var (sa_cons se_var (sa_cons se_var sa_nil))))) (ss_if (st_test (se_2 o_eq se_var se_int)) (ss_asgO (sl_lc (si_rng1 (sa_cons se_var sa_nil)) (by decide) sg_name st_yes (se_2 o_mod (se_n o_int (sa_cons (se_2 o_div (se_2 o_ix se_var (se_2 o_add (se_2 o_add se_var se_int) se_var)) se_int) sa_nil)) se_int))) (ss_asgO (sl_rep (sl_lst (sa_cons (se_2 o_mod (se_n o_int (sa_cons (se_2 o_ix se_var se_var) sa_nil)) se_int) sa_nil)) se_var)))))
  (ss_seq (ss_if (st_test (se_2 o_in se_var (se_tup (sa_cons se_int (sa_cons se_int sa_nil))))) (ss_seq (ss_asg (se_2 o_mod (se_n o_int (sa_cons (se_2 o_ix se_var (se_2 o_add se_var se_int)) sa_nil)) se_var) sg_name)
  (ss_setO (se_2 o_sub se_int (se_bIx se_var)) se_var)) ss_next)
  (ss_ret (se_n o_tuple (sa_cons se_var sa_nil)))))))⟩
theorem cal__law_idle (T : TX K mg) : CalG P w K mg base 2 d__law_idle [("_law_s" : Str), ("_law_t" : Str)] (spP K mg M__law_idle) := by
  have c__law_steps : CalG P w K mg base 1 d__law_steps [("_law_s" : Str)] (spP K mg M__law_steps) := cal__law_steps T
  have c__law_settings : CalG P w K mg base 1 d__law_settings [("_law_s" : Str)] (spP K mg M__law_settings) := cal__law_settings T
  have f_len : mg "len" = none := T.free "len" (mem_at 57 rfl)
  have f_range : mg "range" = none := T.free "range" (mem_at 61 rfl)
  have f_sum : mg "sum" = none := T.free "sum" (mem_at 64 rfl)
  have f_tuple : mg "tuple" = none := T.free "tuple" (mem_at 65 rfl)
  obtain ⟨fd, F0⟩ := T.says.def_ (d := d__law_idle) (mem_at 8 rfl)
  have F : FunD K d__law_idle.name d__law_idle.qual d__law_idle.params d__law_idle.body d__law_idle.scope [] [] (He.fAd K d__law_idle.at_) fd := F0
  have B : Binds K fd [("_law_s" : Str), ("_law_t" : Str)] [] := F.bindsN fun _ _ _ _ _ _ us hl => match us, hl with | [_, _], _ => rfl
  have glo : mg d__law_idle.name = some (.ref (He.fAd K d__law_idle.at_)) := T.glo "_law_idle" (mem_at 8 rfl)
  refine ⟨⟨fd, F, ?_, B⟩, glo⟩
  refine fnP_ok F sc__law_idle (by decide) ?_
  intro cdv A outer s H E hgd hr
  exact ⟨_, (pss_cons (ps_set (i := 2) sc__law_idle.nd rfl (Or.inr rfl) (pe_cal c__law_steps hgd hr (by decide) (passE (takes_of rfl rfl rfl rfl)) (pa_cons (pv 0) pa_nil)))
  (pss_cons (ps_set (i := 3) sc__law_idle.nd rfl (Or.inr rfl) (pe_cal c__law_settings hgd hr (by decide) (passE (takes_of rfl rfl rfl rfl)) (pa_cons (pv 0) pa_nil)))
  (pss_cons (ps_set (i := 4) sc__law_idle.nd rfl (Or.inl rfl) (pe_lst pa_nil))
  (pss_cons (ps_for (passes_of rfl) rfl (pi_range1 (by rfl) (by exact f_range) (pa_cons (pe_callB call_len_seq (by rfl) (by exact f_len) (by decide +kernel) (pa_cons (pv 0) pa_nil)) pa_nil)) (pg_name (i := 5) sc__law_idle.nd rfl (Or.inr rfl)) (pss_one (ps_if (pt_cmpR (op_eqG (room65 hr)) (pe_callB (cr_sum (by rfl)) (by rfl) (by exact f_sum) (by decide +kernel) (pa_cons (pe_lc (own := [(("_law_k" : Str), 6)]) (g := gName 6) rfl sc__law_idle.nd (pi_range1 (by rfl) (by exact f_range) (pa_cons (pe_callB call_len_seq (by rfl) (by exact f_len) (by decide +kernel) (pa_cons (pv 3) pa_nil)) pa_nil)) (blkOk_by (own := [(("_law_k" : Str), 6)]) (N := N__law_idle) (sc := d__law_idle.scope) (by decide +kernel)) (fun _ _ _ _ _ => pg_name (i := 6) sc__law_idle.nd rfl (by first | exact Or.inl rfl | exact Or.inr rfl)) (fun _ _ _ _ _ => pts_one (pt_cmpR (op_neG (room65 hr)) (pe_ix ix_seq (pv 1) (pv 6) fun _ _ => rfl) (pe_ix ix_seq (pv 1) (pe_op op_sub (pv 6) (pe_op op_mulX (pe_ix ix_seq (pe_ix ix_seq (pv 3) (pv 6) fun _ _ => rfl) (pv 5) fun _ _ => rfl) (pe_ix ix_seq (pv 2) (pv 5) fun _ _ => rfl))) fun _ _ => rfl) (nomark _))) (fun _ _ _ _ _ => pe_int)) pa_nil)) pe_int (nomark _)) (pss_one (ps_expr (pe_bm PySem.F.plainAttrs_list PySem.F.slot_list_append PySem.F.type_list_append mt_append (pv 4) (pa_cons (pv 5) pa_nil)))) pss_nil)))
  (pss_one (ps_ret (pe_callTy call_tuple_of (by rfl) (by exact f_tuple) (by decide +kernel) (pa_cons (pv 4) pa_nil)))))))),
  (ss_seq (ss_asg (se_callD (sa_cons se_var sa_nil)) sg_name)
  (ss_seq (ss_asg (se_callD (sa_cons se_var sa_nil)) sg_name)
  (ss_seq (ss_asgO (sl_lst sa_nil))
  (ss_seq (ss_for (si_rng1 (sa_cons (se_n o_len (sa_cons se_var sa_nil)) sa_nil)) sg_name (ss_if (st_test (se_2 o_eq (se_n o_sum (sa_cons (se_l (sl_lc (si_rng1 (sa_cons (se_n o_len (sa_cons se_var sa_nil)) sa_nil)) (by decide) sg_name (st_test (se_2 o_ne (se_2 o_ix se_var se_var) (se_2 o_ix se_var (se_2 o_sub se_var (se_2 o_mul (se_2 o_ix (se_2 o_ix se_var se_var) se_var) (se_2 o_ix se_var se_var)))))) se_int)) sa_nil)) se_int)) (ss_app se_var) ss_next))
  (ss_ret (se_n o_tuple (sa_cons se_var sa_nil)))))))⟩
theorem cal_a_want (T : TX K mg) : CalG P w K mg base 3 d_a_want [("good" : Str), ("word" : Str)] (spP K mg M_a_want) := by
  have E_NotUsable : ErrC P w K mg base "NotUsable" "word" "at" d_NotUsable := err_NotUsable T
  obtain ⟨fd, F0⟩ := T.says.def_ (d := d_a_want) (mem_at 9 rfl)
  have F : FunD K d_a_want.name d_a_want.qual d_a_want.params d_a_want.body d_a_want.scope [] [] (He.fAd K d_a_want.at_) fd := F0
  have B : Binds K fd [("good" : Str), ("word" : Str)] [] := F.bindsN fun _ _ _ _ _ _ us hl => match us, hl with | [_, _], _ => rfl
  have glo : mg d_a_want.name = some (.ref (He.fAd K d_a_want.at_)) := T.glo "a_want" (mem_at 9 rfl)
  refine ⟨⟨fd, F, ?_, B⟩, glo⟩
  refine fnP_ok F sc_a_want (by decide) ?_
  intro cdv A outer s H E hgd hr
  exact ⟨_, (pss_one (ps_if (pt_not (pt_truth (pv 0) fun _ => rfl)) (pss_one (ps_raiseC E_NotUsable rfl hr (by decide) (takes_of rfl rfl rfl rfl) (pa_cons (pv 1) (pa_cons (pe_un un_neg pe_int) pa_nil)))) pss_nil)),
  (ss_if (st_not (st_tru se_var)) (ss_raise E_NotUsable.glo (sa_cons se_var (sa_cons (se_1 o_neg se_int) sa_nil))) ss_next)⟩
theorem cal_integer_fits (T : TX K mg) : CalG P w K mg base 1 d_integer_fits [("thing" : Str)] (spP K mg M_integer_fits) := by
  have f_bool : mg "bool" = none := T.free "bool" (mem_at 54 rfl)
  have f_int : mg "int" = none := T.free "int" (mem_at 55 rfl)
  have f_isinstance : mg "isinstance" = none := T.free "isinstance" (mem_at 56 rfl)
  obtain ⟨fd, F0⟩ := T.says.def_ (d := d_integer_fits) (mem_at 10 rfl)
  have F : FunD K d_integer_fits.name d_integer_fits.qual d_integer_fits.params d_integer_fits.body d_integer_fits.scope [] [] (He.fAd K d_integer_fits.at_) fd := F0
  have B : Binds K fd [("thing" : Str)] [] := F.bindsN fun _ _ _ _ _ _ us hl => match us, hl with | [_], _ => rfl
  have glo : mg d_integer_fits.name = some (.ref (He.fAd K d_integer_fits.at_)) := T.glo "integer_fits" (mem_at 10 rfl)
  refine ⟨⟨fd, F, ?_, B⟩, glo⟩
  refine fnP_ok F sc_integer_fits (by decide) ?_
  intro cdv A outer s H E hgd hr
  exact ⟨_, (pss_one (ps_ret (pe_and (pe_callB call_isi (by rfl) (by exact f_isinstance) boot_isinstance (pa_cons (pv 0) (pa_cons (pe_bltn (v := .ty (Ty.nm .int)) (by rfl) (by exact f_int) (by decide +kernel) rfl) pa_nil))) (pe_one (pe_not (pe_callB call_isi (by rfl) (by exact f_isinstance) boot_isinstance (pa_cons (pv 0) (pa_cons (pe_bltn (v := .ty (Ty.nm .bool)) (by rfl) (by exact f_bool) (by decide +kernel) rfl) pa_nil)))))))),
  (ss_ret (se_and (se_isi .int se_var) (se_not (se_isi .bool se_var))))⟩
theorem cal_many_fits (T : TX K mg) : CalG P w K mg base 2 d_many_fits [("thing" : Str)] (spP K mg M_many_fits) := by
  have c_integer_fits : CalG P w K mg base 1 d_integer_fits [("thing" : Str)] (spP K mg M_integer_fits) := cal_integer_fits T
  obtain ⟨fd, F0⟩ := T.says.def_ (d := d_many_fits) (mem_at 11 rfl)
  have F : FunD K d_many_fits.name d_many_fits.qual d_many_fits.params d_many_fits.body d_many_fits.scope [] [] (He.fAd K d_many_fits.at_) fd := F0
  have B : Binds K fd [("thing" : Str)] [] := F.bindsN fun _ _ _ _ _ _ us hl => match us, hl with | [_], _ => rfl
  have glo : mg d_many_fits.name = some (.ref (He.fAd K d_many_fits.at_)) := T.glo "many_fits" (mem_at 11 rfl)
  refine ⟨⟨fd, F, ?_, B⟩, glo⟩
  refine fnP_ok F sc_many_fits (by decide) ?_
  intro cdv A outer s H E hgd hr
  exact ⟨_, (pss_one (ps_ret (pe_and (pe_cal c_integer_fits hgd hr (by decide) (passE (takes_of rfl rfl rfl rfl)) (pa_cons (pv 0) pa_nil)) (pe_one (pe_cmpR (op_geG (room65 hr)) (pv 0) pe_int (nomark _)))))),
  (ss_ret (se_and (se_callD (sa_cons se_var sa_nil)) (se_2 o_ge se_var se_int)))⟩
theorem cal_sizes_fit (T : TX K mg) : CalG P w K mg base 3 d_sizes_fit [("thing" : Str)] (spP K mg M_sizes_fit) := by
  have c_many_fits : CalG P w K mg base 2 d_many_fits [("thing" : Str)] (spP K mg M_many_fits) := cal_many_fits T
  have f_all : mg "all" = none := T.free "all" (mem_at 53 rfl)
  have f_isinstance : mg "isinstance" = none := T.free "isinstance" (mem_at 56 rfl)
  have f_len : mg "len" = none := T.free "len" (mem_at 57 rfl)
  have f_tuple : mg "tuple" = none := T.free "tuple" (mem_at 65 rfl)
  obtain ⟨fd, F0⟩ := T.says.def_ (d := d_sizes_fit) (mem_at 12 rfl)
  have F : FunD K d_sizes_fit.name d_sizes_fit.qual d_sizes_fit.params d_sizes_fit.body d_sizes_fit.scope [] [] (He.fAd K d_sizes_fit.at_) fd := F0
  have B : Binds K fd [("thing" : Str)] [] := F.bindsN fun _ _ _ _ _ _ us hl => match us, hl with | [_], _ => rfl
  have glo : mg d_sizes_fit.name = some (.ref (He.fAd K d_sizes_fit.at_)) := T.glo "sizes_fit" (mem_at 12 rfl)
  refine ⟨⟨fd, F, ?_, B⟩, glo⟩
  refine fnP_ok F sc_sizes_fit (by decide) ?_
  intro cdv A outer s H E hgd hr
  exact ⟨_, (pss_one (ps_ret (pe_and (pe_callB call_isi (by rfl) (by exact f_isinstance) boot_isinstance (pa_cons (pv 0) (pa_cons (pe_bltn (v := .ty (Ty.nm .tup)) (by rfl) (by exact f_tuple) (by decide +kernel) rfl) pa_nil))) (pe_and (pe_cmpR (op_gtG (room65 hr)) (pe_callB call_len_seq (by rfl) (by exact f_len) (by decide +kernel) (pa_cons (pv 0) pa_nil)) pe_int (nomark _)) (pe_one (pe_callB (cr_all (by rfl)) (by rfl) (by exact f_all) (by decide +kernel) (pa_cons (pe_lc (own := [(("size" : Str), 1)]) (g := gName 1) rfl sc_sizes_fit.nd (pi_seq (pv 0)) (blkOk_by (own := [(("size" : Str), 1)]) (N := N_sizes_fit) (sc := d_sizes_fit.scope) (by decide +kernel)) (fun _ _ _ _ _ => pg_name (i := 1) sc_sizes_fit.nd rfl (by first | exact Or.inl rfl | exact Or.inr rfl)) (fun _ _ _ _ _ => pts_nil) (fun _ _ _ _ _ => (pe_cal c_many_fits hgd hr (by decide) passF (pa_cons (pv 1) pa_nil)))) pa_nil))))))),
  (ss_ret (se_and (se_isi .tup se_var) (se_and (se_2 o_gt (se_n o_len (sa_cons se_var sa_nil)) se_int) (se_n o_all (sa_cons (se_l (sl_lc (si_seq se_var) (by decide) sg_name st_yes (se_callD (sa_cons se_var sa_nil)))) sa_nil)))))⟩
theorem cal_is_sizes (T : TX K mg) : CalG P w K mg base 4 d_is_sizes [("thing" : Str)] (spP K mg M_is_sizes) := by
  have c_sizes_fit : CalG P w K mg base 3 d_sizes_fit [("thing" : Str)] (spP K mg M_sizes_fit) := cal_sizes_fit T
  obtain ⟨fd, F0⟩ := T.says.def_ (d := d_is_sizes) (mem_at 13 rfl)
  have F : FunD K d_is_sizes.name d_is_sizes.qual d_is_sizes.params d_is_sizes.body d_is_sizes.scope [] [] (He.fAd K d_is_sizes.at_) fd := F0
  have B : Binds K fd [("thing" : Str)] [] := F.bindsN fun _ _ _ _ _ _ us hl => match us, hl with | [_], _ => rfl
  have glo : mg d_is_sizes.name = some (.ref (He.fAd K d_is_sizes.at_)) := T.glo "is_sizes" (mem_at 13 rfl)
  refine ⟨⟨fd, F, ?_, B⟩, glo⟩
  refine fnP_ok F sc_is_sizes (by decide) ?_
  intro cdv A outer s H E hgd hr
  exact ⟨_, (pss_one (ps_ret (pe_cal c_sizes_fit hgd hr (by decide) (passE (takes_of rfl rfl rfl rfl)) (pa_cons (pv 0) pa_nil)))),
  (ss_ret (se_callD (sa_cons se_var sa_nil)))⟩
theorem cal_many_settings (T : TX K mg) : CalG P w K mg base 1 d_many_settings [("sizes" : Str)] (spP K mg M_many_settings) := by
  obtain ⟨fd, F0⟩ := T.says.def_ (d := d_many_settings) (mem_at 14 rfl)
  have F : FunD K d_many_settings.name d_many_settings.qual d_many_settings.params d_many_settings.body d_many_settings.scope [] [] (He.fAd K d_many_settings.at_) fd := F0
  have B : Binds K fd [("sizes" : Str)] [] := F.bindsN fun _ _ _ _ _ _ us hl => match us, hl with | [_], _ => rfl
  have glo : mg d_many_settings.name = some (.ref (He.fAd K d_many_settings.at_)) := T.glo "many_settings" (mem_at 14 rfl)
  refine ⟨⟨fd, F, ?_, B⟩, glo⟩
  refine fnP_ok F sc_many_settings (by decide) ?_
  intro cdv A outer s H E hgd hr
  exact ⟨_, (pss_cons (ps_set (i := 1) sc_many_settings.nd rfl (Or.inl rfl) pe_int)
  (pss_cons (ps_for (passes_of rfl) rfl (pi_seq (pv 0)) (pg_name (i := 2) sc_many_settings.nd rfl (Or.inl rfl)) (pss_one (ps_set (i := 1) sc_many_settings.nd rfl (Or.inl rfl) (pe_op op_mulX (pv 1) (pv 2)))))
  (pss_one (ps_ret (pv 1))))),
  (ss_seq (ss_asg se_int sg_name)
  (ss_seq (ss_for (si_seq se_var) sg_name (ss_asg (se_2 o_mul se_var se_var) sg_name))
  (ss_ret se_var)))⟩
theorem cal_number_fits (T : TX K mg) : CalG P w K mg base 2 d_number_fits [("thing" : Str)] (spP K mg M_number_fits) := by
  have c_integer_fits : CalG P w K mg base 1 d_integer_fits [("thing" : Str)] (spP K mg M_integer_fits) := cal_integer_fits T
  obtain ⟨fd, F0⟩ := T.says.def_ (d := d_number_fits) (mem_at 15 rfl)
  have F : FunD K d_number_fits.name d_number_fits.qual d_number_fits.params d_number_fits.body d_number_fits.scope [] [] (He.fAd K d_number_fits.at_) fd := F0
  have B : Binds K fd [("thing" : Str)] [] := F.bindsN fun _ _ _ _ _ _ us hl => match us, hl with | [_], _ => rfl
  have glo : mg d_number_fits.name = some (.ref (He.fAd K d_number_fits.at_)) := T.glo "number_fits" (mem_at 15 rfl)
  refine ⟨⟨fd, F, ?_, B⟩, glo⟩
  refine fnP_ok F sc_number_fits (by decide) ?_
  intro cdv A outer s H E hgd hr
  exact ⟨_, (pss_one (ps_ret (pe_and (pe_cal c_integer_fits hgd hr (by decide) (passE (takes_of rfl rfl rfl rfl)) (pa_cons (pv 0) pa_nil)) (pe_one (pe_cmpR (op_geG (room65 hr)) (pv 0) pe_int (nomark _)))))),
  (ss_ret (se_and (se_callD (sa_cons se_var sa_nil)) (se_2 o_ge se_var se_int)))⟩
theorem cal_is_bit (T : TX K mg) : CalG P w K mg base 3 d_is_bit [("thing" : Str)] (spP K mg M_is_bit) := by
  have c_number_fits : CalG P w K mg base 2 d_number_fits [("thing" : Str)] (spP K mg M_number_fits) := cal_number_fits T
  obtain ⟨fd, F0⟩ := T.says.def_ (d := d_is_bit) (mem_at 16 rfl)
  have F : FunD K d_is_bit.name d_is_bit.qual d_is_bit.params d_is_bit.body d_is_bit.scope [] [] (He.fAd K d_is_bit.at_) fd := F0
  have B : Binds K fd [("thing" : Str)] [] := F.bindsN fun _ _ _ _ _ _ us hl => match us, hl with | [_], _ => rfl
  have glo : mg d_is_bit.name = some (.ref (He.fAd K d_is_bit.at_)) := T.glo "is_bit" (mem_at 16 rfl)
  refine ⟨⟨fd, F, ?_, B⟩, glo⟩
  refine fnP_ok F sc_is_bit (by decide) ?_
  intro cdv A outer s H E hgd hr
  exact ⟨_, (pss_one (ps_ret (pe_and (pe_cal c_number_fits hgd hr (by decide) (passE (takes_of rfl rfl rfl rfl)) (pa_cons (pv 0) pa_nil)) (pe_one (pe_cmpR (op_leG (room65 hr)) (pv 0) pe_int (nomark _)))))),
  (ss_ret (se_and (se_callD (sa_cons se_var sa_nil)) (se_2 o_le se_var se_int)))⟩
theorem cal_is_table (T : TX K mg) : CalG P w K mg base 5 d_is_table [("sizes" : Str), ("thing" : Str)] (spP K mg M_is_table) := by
  have c_a_want : CalG P w K mg base 3 d_a_want [("good" : Str), ("word" : Str)] (spP K mg M_a_want) := cal_a_want T
  have c_is_sizes : CalG P w K mg base 4 d_is_sizes [("thing" : Str)] (spP K mg M_is_sizes) := cal_is_sizes T
  have c_many_settings : CalG P w K mg base 1 d_many_settings [("sizes" : Str)] (spP K mg M_many_settings) := cal_many_settings T
  have c_is_bit : CalG P w K mg base 3 d_is_bit [("thing" : Str)] (spP K mg M_is_bit) := cal_is_bit T
  have f_isinstance : mg "isinstance" = none := T.free "isinstance" (mem_at 56 rfl)
  have f_len : mg "len" = none := T.free "len" (mem_at 57 rfl)
  have f_tuple : mg "tuple" = none := T.free "tuple" (mem_at 65 rfl)
  obtain ⟨fd, F0⟩ := T.says.def_ (d := d_is_table) (mem_at 17 rfl)
  have F : FunD K d_is_table.name d_is_table.qual d_is_table.params d_is_table.body d_is_table.scope [] [] (He.fAd K d_is_table.at_) fd := F0
  have B : Binds K fd [("sizes" : Str), ("thing" : Str)] [] := F.bindsN fun _ _ _ _ _ _ us hl => match us, hl with | [_, _], _ => rfl
  have glo : mg d_is_table.name = some (.ref (He.fAd K d_is_table.at_)) := T.glo "is_table" (mem_at 17 rfl)
  refine ⟨⟨fd, F, ?_, B⟩, glo⟩
  refine fnP_ok F sc_is_table (by decide) ?_
  intro cdv A outer s H E hgd hr
  exact ⟨_, (pss_cons (ps_expr (pe_cal c_a_want hgd hr (by decide) (passE (takes_of rfl rfl rfl rfl)) (pa_cons (pe_cal c_is_sizes hgd hr (by decide) (passE (takes_of rfl rfl rfl rfl)) (pa_cons (pv 0) pa_nil)) (pa_cons pe_str pa_nil))))
  (pss_cons (ps_if (PW.pt (pw_or (pt_not (pt_truth (pe_callB call_isi (by rfl) (by exact f_isinstance) boot_isinstance (pa_cons (pv 1) (pa_cons (pe_bltn (v := .ty (Ty.nm .tup)) (by rfl) (by exact f_tuple) (by decide +kernel) rfl) pa_nil))) fun _ => rfl)) (pw_or1 (pt_cmpR (op_neG (room65 hr)) (pe_callB call_len_seq (by rfl) (by exact f_len) (by decide +kernel) (pa_cons (pv 1) pa_nil)) (pe_cal c_many_settings hgd hr (by decide) (passE (takes_of rfl rfl rfl rfl)) (pa_cons (pv 0) pa_nil)) (nomark _))))) (pss_one (ps_ret pe_bl)) pss_nil)
  (pss_cons (ps_for (passes_of rfl) rfl (pi_seq (pv 1)) (pg_name (i := 2) sc_is_table.nd rfl (Or.inl rfl)) (pss_one (ps_if (pt_not (pt_truth (pe_cal c_is_bit hgd hr (by decide) (passE (takes_of rfl rfl rfl rfl)) (pa_cons (pv 2) pa_nil)) fun _ => rfl)) (pss_one (ps_ret pe_bl)) pss_nil)))
  (pss_one (ps_ret pe_bl))))),
  (ss_seq (ss_drop (se_callD (sa_cons (se_callD (sa_cons se_var sa_nil)) (sa_cons se_str sa_nil))))
  (ss_seq (ss_if (st_or (st_not (st_tru (se_isi .tup se_var))) (st_test (se_2 o_ne (se_n o_len (sa_cons se_var sa_nil)) (se_callD (sa_cons se_var sa_nil))))) (ss_ret se_bl) ss_next)
  (ss_seq (ss_for (si_seq se_var) sg_name (ss_if (st_not (st_tru (se_callD (sa_cons se_var sa_nil)))) (ss_ret se_bl) ss_next))
  (ss_ret se_bl))))⟩
theorem cal_spans_of (T : TX K mg) : CalG P w K mg base 1 d_spans_of [("sizes" : Str)] (spP K mg M_spans_of) := by
  have f_len : mg "len" = none := T.free "len" (mem_at 57 rfl)
  have f_range : mg "range" = none := T.free "range" (mem_at 61 rfl)
  obtain ⟨fd, F0⟩ := T.says.def_ (d := d_spans_of) (mem_at 18 rfl)
  have F : FunD K d_spans_of.name d_spans_of.qual d_spans_of.params d_spans_of.body d_spans_of.scope [] [] (He.fAd K d_spans_of.at_) fd := F0
  have B : Binds K fd [("sizes" : Str)] [] := F.bindsN fun _ _ _ _ _ _ us hl => match us, hl with | [_], _ => rfl
  have glo : mg d_spans_of.name = some (.ref (He.fAd K d_spans_of.at_)) := T.glo "spans_of" (mem_at 18 rfl)
  refine ⟨⟨fd, F, ?_, B⟩, glo⟩
  refine fnP_ok F sc_spans_of (by decide) ?_
  intro cdv A outer s H E hgd hr
  exact ⟨_, (pss_cons (ps_setLc (i := 1) (own := [(("_" : Str), 3)]) (g := gName 3) rfl sc_spans_of.nd rfl rfl (sw_true rfl rfl rfl (by decide +kernel)) (pi_seq (pv 0)) (blkOk_by (own := [(("_" : Str), 3)]) (N := N_spans_of) (sc := d_spans_of.scope) (by decide +kernel)) (fun _ _ _ _ _ => pg_name (i := 3) sc_spans_of.nd rfl (by first | exact Or.inl rfl | exact Or.inr rfl)) (fun _ _ _ _ _ => pts_nil) (fun _ _ _ _ _ => pe_int))
  (pss_cons (ps_for (passes_of rfl) rfl (pi_range3 (by rfl) (by exact f_range) (pa_cons (pe_op op_sub (pe_callB call_len_seq (by rfl) (by exact f_len) (by decide +kernel) (pa_cons (pv 0) pa_nil)) pe_int) (pa_cons (pe_un un_neg pe_int) (pa_cons (pe_un un_neg pe_int) pa_nil)))) (pg_name (i := 2) sc_spans_of.nd rfl (Or.inl rfl)) (pss_one (ps_asg (pe_op op_mulX (pe_ix ix_seq (pv 1) (pe_op op_add3 (pv 2) pe_int) fun _ _ => rfl) (pe_ix ix_seq (pv 0) (pe_op op_add3 (pv 2) pe_int) fun _ _ => rfl)) (pg_sub (pv 1) (pv 2) set_list))))
  (pss_one (ps_ret (pv 1))))),
  (ss_seq (ss_asgO (sl_lc (si_seq se_var) (by decide) sg_name st_yes se_int))
  (ss_seq (ss_for (si_rng3 (sa_cons (se_2 o_sub (se_n o_len (sa_cons se_var sa_nil)) se_int) (sa_cons (se_1 o_neg se_int) (sa_cons (se_1 o_neg se_int) sa_nil)))) sg_name (ss_setO (se_2 o_mul (se_bIx (se_2 o_add se_var se_int)) (se_2 o_ix se_var (se_2 o_add se_var se_int))) se_var))
  (ss_ret se_var)))⟩
theorem cal_corner_places (T : TX K mg) : CalG P w K mg base 2 d_corner_places [("sizes" : Str), ("lot" : Str)] (spP K mg M_corner_places) := by
  have c_spans_of : CalG P w K mg base 1 d_spans_of [("sizes" : Str)] (spP K mg M_spans_of) := cal_spans_of T
  have f_range : mg "range" = none := T.free "range" (mem_at 61 rfl)
  obtain ⟨fd, F0⟩ := T.says.def_ (d := d_corner_places) (mem_at 19 rfl)
  have F : FunD K d_corner_places.name d_corner_places.qual d_corner_places.params d_corner_places.body d_corner_places.scope [] [] (He.fAd K d_corner_places.at_) fd := F0
  have B : Binds K fd [("sizes" : Str), ("lot" : Str)] [] := F.bindsN fun _ _ _ _ _ _ us hl => match us, hl with | [_, _], _ => rfl
  have glo : mg d_corner_places.name = some (.ref (He.fAd K d_corner_places.at_)) := T.glo "corner_places" (mem_at 19 rfl)
  refine ⟨⟨fd, F, ?_, B⟩, glo⟩
  refine fnP_ok F sc_corner_places (by decide) ?_
  intro cdv A outer s H E hgd hr
  exact ⟨_, (pss_cons (ps_set (i := 2) sc_corner_places.nd rfl (Or.inr rfl) (pe_cal c_spans_of hgd hr (by decide) (passE (takes_of rfl rfl rfl rfl)) (pa_cons (pv 0) pa_nil)))
  (pss_cons (ps_set (i := 3) sc_corner_places.nd rfl (Or.inl rfl) (pe_lst (pa_cons pe_int pa_nil)))
  (pss_cons (ps_for (passes_of rfl) rfl (pi_seq (pv 1)) (pg_name (i := 4) sc_corner_places.nd rfl (Or.inr rfl)) (pss_one (ps_setLc2 (i := 3) (own := [(("place" : Str), 5), (("choice" : Str), 6)]) (vs1 := [6]) (g := gName 5) (g1 := gName 6) rfl sc_corner_places.nd rfl rfl (sw_true rfl rfl rfl (by decide +kernel)) (pi_seq (pv 3)) (blkOk_by (own := [(("place" : Str), 5), (("choice" : Str), 6)]) (N := N_corner_places) (sc := d_corner_places.scope) (by decide +kernel)) (by decide) (fun _ _ _ _ _ => pg_name (i := 5) sc_corner_places.nd rfl (by first | exact Or.inl rfl | exact Or.inr rfl)) (fun _ _ _ _ _ => pts_nil) (fun _ _ _ _ _ => (pi_range1 (by rfl) (by exact f_range) (pa_cons (pe_ix ix_seq (pv 0) (pv 4) fun _ _ => rfl) pa_nil))) (fun _ _ _ _ _ => pg_name (i := 6) sc_corner_places.nd rfl (by first | exact Or.inl rfl | exact Or.inr rfl)) (fun _ _ _ _ _ => pts_nil) (fun _ _ _ _ _ => (pe_op op_add3 (pv 5) (pe_op op_mulX (pv 6) (pe_ix ix_seq (pv 2) (pv 4) fun _ _ => rfl)))))))
  (pss_one (ps_ret (pv 3)))))),
  (ss_seq (ss_asg (se_callD (sa_cons se_var sa_nil)) sg_name)
  (ss_seq (ss_asg (se_l (sl_lst (sa_cons se_int sa_nil))) sg_name)
  (ss_seq (ss_for (si_seq se_var) sg_name (ss_asg (se_l (sl_lc2 (si_seq se_var) (by decide) sg_name st_yes (si_rng1 (sa_cons (se_2 o_ix se_var se_var) sa_nil)) (by decide) (by decide) sg_name st_yes (se_2 o_add se_var (se_2 o_mul se_var (se_2 o_ix se_var se_var))))) sg_name))
  (ss_ret se_var))))⟩
theorem cal_odd_spot (T : TX K mg) : CalG P w K mg base 3 d_odd_spot [("sizes" : Str), ("table" : Str), ("one" : Str), ("other" : Str)] (spP K mg M_odd_spot) := by
  have c_spans_of : CalG P w K mg base 1 d_spans_of [("sizes" : Str)] (spP K mg M_spans_of) := cal_spans_of T
  have c_corner_places : CalG P w K mg base 2 d_corner_places [("sizes" : Str), ("lot" : Str)] (spP K mg M_corner_places) := cal_corner_places T
  have f_len : mg "len" = none := T.free "len" (mem_at 57 rfl)
  have f_range : mg "range" = none := T.free "range" (mem_at 61 rfl)
  obtain ⟨fd, F0⟩ := T.says.def_ (d := d_odd_spot) (mem_at 20 rfl)
  have F : FunD K d_odd_spot.name d_odd_spot.qual d_odd_spot.params d_odd_spot.body d_odd_spot.scope [] [] (He.fAd K d_odd_spot.at_) fd := F0
  have B : Binds K fd [("sizes" : Str), ("table" : Str), ("one" : Str), ("other" : Str)] [] := F.bindsN fun _ _ _ _ _ _ us hl => match us, hl with | [_, _, _, _], _ => rfl
  have glo : mg d_odd_spot.name = some (.ref (He.fAd K d_odd_spot.at_)) := T.glo "odd_spot" (mem_at 20 rfl)
  refine ⟨⟨fd, F, ?_, B⟩, glo⟩
  refine fnP_ok F sc_odd_spot (by decide) ?_
  intro cdv A outer s H E hgd hr
  exact ⟨_, (pss_cons (ps_set (i := 4) sc_odd_spot.nd rfl (Or.inl rfl) (pe_cal c_spans_of hgd hr (by decide) (passE (takes_of rfl rfl rfl rfl)) (pa_cons (pv 0) pa_nil)))
  (pss_cons (ps_setLc (i := 5) (own := [(("house" : Str), 8)]) (g := gName 8) rfl sc_odd_spot.nd rfl rfl (sw_true rfl rfl rfl (by decide +kernel)) (pi_range1 (by rfl) (by exact f_range) (pa_cons (pe_callB call_len_seq (by rfl) (by exact f_len) (by decide +kernel) (pa_cons (pv 0) pa_nil)) pa_nil)) (blkOk_by (own := [(("house" : Str), 8)]) (N := N_odd_spot) (sc := d_odd_spot.scope) (by decide +kernel)) (fun _ _ _ _ _ => pg_name (i := 8) sc_odd_spot.nd rfl (by first | exact Or.inl rfl | exact Or.inr rfl)) (fun _ _ _ _ _ => pts_one (PW.pt (pw_and (pt_cmpR (op_neG (room65 hr)) (pv 8) (pv 2) (nomark _)) (pw_and1 (pt_cmpR (op_neG (room65 hr)) (pv 8) (pv 3) (nomark _)))))) (fun _ _ _ _ _ => (pv 8)))
  (pss_cons (ps_for (passes_of rfl) rfl (pi_seq (pe_cal c_corner_places hgd hr (by decide) (passE (takes_of rfl rfl rfl rfl)) (pa_cons (pv 0) (pa_cons (pv 5) pa_nil)))) (pg_name (i := 6) sc_odd_spot.nd rfl (Or.inl rfl)) (pss_one (ps_for (passes_of rfl) rfl (pi_range2 (by rfl) (by exact f_range) (pa_cons pe_int (pa_cons (pe_ix ix_seq (pv 0) (pv 2) fun _ _ => rfl) pa_nil))) (pg_name (i := 7) sc_odd_spot.nd rfl (Or.inl rfl)) (pss_cons (ps_set (i := 9) sc_odd_spot.nd rfl (Or.inl rfl) (pe_op op_add3 (pv 6) (pe_op op_mulX (pv 7) (pe_ix ix_seq (pv 4) (pv 2) fun _ _ => rfl))))
  (pss_one (ps_for (passes_of rfl) rfl (pi_range2 (by rfl) (by exact f_range) (pa_cons pe_int (pa_cons (pe_ix ix_seq (pv 0) (pv 3) fun _ _ => rfl) pa_nil))) (pg_name (i := 10) sc_odd_spot.nd rfl (Or.inl rfl)) (pss_cons (ps_set (i := 11) sc_odd_spot.nd rfl (Or.inl rfl) (pe_op op_mulX (pv 10) (pe_ix ix_seq (pv 4) (pv 3) fun _ _ => rfl)))
  (pss_one (ps_if (pt_cmpR (op_eqG (room65 hr)) (pe_op op_xor (pe_op op_xor (pe_op op_xor (pe_ix ix_seq (pv 1) (pv 6) fun _ _ => rfl) (pe_ix ix_seq (pv 1) (pv 9) fun _ _ => rfl)) (pe_ix ix_seq (pv 1) (pe_op op_add3 (pv 6) (pv 11)) fun _ _ => rfl)) (pe_ix ix_seq (pv 1) (pe_op op_add3 (pv 9) (pv 11)) fun _ _ => rfl)) pe_int (nomark _)) (pss_one (ps_ret (pe_tup (pa_cons (pv 6) (pa_cons (pv 7) (pa_cons (pv 10) pa_nil)))))) pss_nil)))))))))
  (pss_one (ps_ret pe_non))))),
  (ss_seq (ss_asg (se_callD (sa_cons se_var sa_nil)) sg_name)
  (ss_seq (ss_asg (se_l (sl_lc (si_rng1 (sa_cons (se_n o_len (sa_cons se_var sa_nil)) sa_nil)) (by decide) sg_name (st_and (st_test (se_2 o_ne se_var se_var)) (st_test (se_2 o_ne se_var se_var))) se_var)) sg_name)
  (ss_seq (ss_for (si_seq (se_callD (sa_cons se_var (sa_cons se_var sa_nil)))) sg_name (ss_for (si_rng2 (sa_cons se_int (sa_cons (se_2 o_ix se_var se_var) sa_nil))) sg_name (ss_seq (ss_asg (se_2 o_add se_var (se_2 o_mul se_var (se_2 o_ix se_var se_var))) sg_name)
  (ss_for (si_rng2 (sa_cons se_int (sa_cons (se_2 o_ix se_var se_var) sa_nil))) sg_name (ss_seq (ss_asg (se_2 o_mul se_var (se_2 o_ix se_var se_var)) sg_name)
  (ss_if (st_test (se_2 o_eq (se_2 o_xor (se_2 o_xor (se_2 o_xor (se_2 o_ix se_var se_var) (se_2 o_ix se_var se_var)) (se_2 o_ix se_var (se_2 o_add se_var se_var))) (se_2 o_ix se_var (se_2 o_add se_var se_var))) se_int)) (ss_ret (se_tup (sa_cons se_var (sa_cons se_var (sa_cons se_var sa_nil))))) ss_next))))))
  (ss_ret se_non))))⟩
theorem cal_knit_pairs (T : TX K mg) : CalG P w K mg base 6 d_knit_pairs [("sizes" : Str), ("table" : Str)] (spP K mg M_knit_pairs) := by
  have c_a_want : CalG P w K mg base 3 d_a_want [("good" : Str), ("word" : Str)] (spP K mg M_a_want) := cal_a_want T
  have c_is_sizes : CalG P w K mg base 4 d_is_sizes [("thing" : Str)] (spP K mg M_is_sizes) := cal_is_sizes T
  have c_is_table : CalG P w K mg base 5 d_is_table [("sizes" : Str), ("thing" : Str)] (spP K mg M_is_table) := cal_is_table T
  have c_odd_spot : CalG P w K mg base 3 d_odd_spot [("sizes" : Str), ("table" : Str), ("one" : Str), ("other" : Str)] (spP K mg M_odd_spot) := cal_odd_spot T
  have f_len : mg "len" = none := T.free "len" (mem_at 57 rfl)
  have f_range : mg "range" = none := T.free "range" (mem_at 61 rfl)
  have f_tuple : mg "tuple" = none := T.free "tuple" (mem_at 65 rfl)
  obtain ⟨fd, F0⟩ := T.says.def_ (d := d_knit_pairs) (mem_at 21 rfl)
  have F : FunD K d_knit_pairs.name d_knit_pairs.qual d_knit_pairs.params d_knit_pairs.body d_knit_pairs.scope [] [] (He.fAd K d_knit_pairs.at_) fd := F0
  have B : Binds K fd [("sizes" : Str), ("table" : Str)] [] := F.bindsN fun _ _ _ _ _ _ us hl => match us, hl with | [_, _], _ => rfl
  have glo : mg d_knit_pairs.name = some (.ref (He.fAd K d_knit_pairs.at_)) := T.glo "knit_pairs" (mem_at 21 rfl)
  refine ⟨⟨fd, F, ?_, B⟩, glo⟩
  refine fnP_ok F sc_knit_pairs (by decide) ?_
  intro cdv A outer s H E hgd hr
  exact ⟨_, (pss_cons (ps_expr (pe_cal c_a_want hgd hr (by decide) (passE (takes_of rfl rfl rfl rfl)) (pa_cons (pe_cal c_is_sizes hgd hr (by decide) (passE (takes_of rfl rfl rfl rfl)) (pa_cons (pv 0) pa_nil)) (pa_cons pe_str pa_nil))))
  (pss_cons (ps_expr (pe_cal c_a_want hgd hr (by decide) (passE (takes_of rfl rfl rfl rfl)) (pa_cons (pe_cal c_is_table hgd hr (by decide) (passE (takes_of rfl rfl rfl rfl)) (pa_cons (pv 0) (pa_cons (pv 1) pa_nil))) (pa_cons pe_str pa_nil))))
  (pss_cons (ps_set (i := 2) sc_knit_pairs.nd rfl (Or.inl rfl) (pe_lst pa_nil))
  (pss_cons (ps_for (passes_of rfl) rfl (pi_range1 (by rfl) (by exact f_range) (pa_cons (pe_callB call_len_seq (by rfl) (by exact f_len) (by decide +kernel) (pa_cons (pv 0) pa_nil)) pa_nil)) (pg_name (i := 3) sc_knit_pairs.nd rfl (Or.inl rfl)) (pss_one (ps_for (passes_of rfl) rfl (pi_range2 (by rfl) (by exact f_range) (pa_cons (pe_op op_add3 (pv 3) pe_int) (pa_cons (pe_callB call_len_seq (by rfl) (by exact f_len) (by decide +kernel) (pa_cons (pv 0) pa_nil)) pa_nil))) (pg_name (i := 4) sc_knit_pairs.nd rfl (Or.inl rfl)) (pss_one (ps_if (pt_cmpR op_isNotG (pe_cal c_odd_spot hgd hr (by decide) (passE (takes_of rfl rfl rfl rfl)) (pa_cons (pv 0) (pa_cons (pv 1) (pa_cons (pv 3) (pa_cons (pv 4) pa_nil))))) pe_non (nomark _)) (pss_one (ps_expr (pe_bm PySem.F.plainAttrs_list PySem.F.slot_list_append PySem.F.type_list_append mt_append (pv 2) (pa_cons (pe_tup (pa_cons (pv 3) (pa_cons (pv 4) pa_nil))) pa_nil)))) pss_nil)))))
  (pss_one (ps_ret (pe_callTy call_tuple_of (by rfl) (by exact f_tuple) (by decide +kernel) (pa_cons (pv 2) pa_nil)))))))),
  (ss_seq (ss_drop (se_callD (sa_cons (se_callD (sa_cons se_var sa_nil)) (sa_cons se_str sa_nil))))
  (ss_seq (ss_drop (se_callD (sa_cons (se_callD (sa_cons se_var (sa_cons se_var sa_nil))) (sa_cons se_str sa_nil))))
  (ss_seq (ss_asgO (sl_lst sa_nil))
  (ss_seq (ss_for (si_rng1 (sa_cons (se_n o_len (sa_cons se_var sa_nil)) sa_nil)) sg_name (ss_for (si_rng2 (sa_cons (se_2 o_add se_var se_int) (sa_cons (se_n o_len (sa_cons se_var sa_nil)) sa_nil))) sg_name (ss_if (st_test (se_2 o_isNot (se_callD (sa_cons se_var (sa_cons se_var (sa_cons se_var (sa_cons se_var sa_nil))))) se_non)) (ss_app (se_tup (sa_cons se_var (sa_cons se_var sa_nil)))) ss_next)))
  (ss_ret (se_n o_tuple (sa_cons se_var sa_nil)))))))⟩
theorem cal_clumps_of (T : TX K mg) : CalG P w K mg base 7 d_clumps_of [("sizes" : Str), ("table" : Str)] (spP K mg M_clumps_of) := by
  have c_knit_pairs : CalG P w K mg base 6 d_knit_pairs [("sizes" : Str), ("table" : Str)] (spP K mg M_knit_pairs) := cal_knit_pairs T
  have f_len : mg "len" = none := T.free "len" (mem_at 57 rfl)
  have f_max : mg "max" = none := T.free "max" (mem_at 59 rfl)
  have f_min : mg "min" = none := T.free "min" (mem_at 60 rfl)
  have f_range : mg "range" = none := T.free "range" (mem_at 61 rfl)
  have f_tuple : mg "tuple" = none := T.free "tuple" (mem_at 65 rfl)
  obtain ⟨fd, F0⟩ := T.says.def_ (d := d_clumps_of) (mem_at 22 rfl)
  have F : FunD K d_clumps_of.name d_clumps_of.qual d_clumps_of.params d_clumps_of.body d_clumps_of.scope [] [] (He.fAd K d_clumps_of.at_) fd := F0
  have B : Binds K fd [("sizes" : Str), ("table" : Str)] [] := F.bindsN fun _ _ _ _ _ _ us hl => match us, hl with | [_, _], _ => rfl
  have glo : mg d_clumps_of.name = some (.ref (He.fAd K d_clumps_of.at_)) := T.glo "clumps_of" (mem_at 22 rfl)
  refine ⟨⟨fd, F, ?_, B⟩, glo⟩
  refine fnP_ok F sc_clumps_of (by decide) ?_
  intro cdv A outer s H E hgd hr
  exact ⟨_, (pss_cons (ps_set (i := 2) sc_clumps_of.nd rfl (Or.inr rfl) (pe_lst pa_nil))
  (pss_cons (ps_set (i := 3) sc_clumps_of.nd rfl (Or.inl rfl) (pe_cal c_knit_pairs hgd hr (by decide) (passE (takes_of rfl rfl rfl rfl)) (pa_cons (pv 0) (pa_cons (pv 1) pa_nil))))
  (pss_cons (ps_for (passes_of rfl) rfl (pi_range1 (by rfl) (by exact f_range) (pa_cons (pe_callB call_len_seq (by rfl) (by exact f_len) (by decide +kernel) (pa_cons (pv 0) pa_nil)) pa_nil)) (pg_name (i := 4) sc_clumps_of.nd rfl (Or.inl rfl)) (pss_one (ps_expr (pe_bm PySem.F.plainAttrs_list PySem.F.slot_list_append PySem.F.type_list_append mt_append (pv 2) (pa_cons (pv 4) pa_nil)))))
  (pss_cons (ps_for (passes_of rfl) rfl (pi_seq (pv 3)) (pg_tup rfl (pgs_cons (pg_name (i := 7) sc_clumps_of.nd rfl (Or.inl rfl)) (pgs_cons (pg_name (i := 8) sc_clumps_of.nd rfl (Or.inl rfl)) pgs_nil))) (pss_cons (ps_set (i := 9) sc_clumps_of.nd rfl (Or.inr rfl) (pe_callB (call_min2 (by rfl)) (by rfl) (by exact f_min) (by decide +kernel) (pa_cons (pe_ix ix_seq (pv 2) (pv 7) fun _ _ => rfl) (pa_cons (pe_ix ix_seq (pv 2) (pv 8) fun _ _ => rfl) pa_nil))))
  (pss_cons (ps_set (i := 10) sc_clumps_of.nd rfl (Or.inr rfl) (pe_callB (call_max2 (by rfl)) (by rfl) (by exact f_max) (by decide +kernel) (pa_cons (pe_ix ix_seq (pv 2) (pv 7) fun _ _ => rfl) (pa_cons (pe_ix ix_seq (pv 2) (pv 8) fun _ _ => rfl) pa_nil))))
  (pss_one (ps_set (i := 2) sc_clumps_of.nd rfl (Or.inr rfl) (pe_lc (own := [(("mark" : Str), 6)]) (g := gName 6) rfl sc_clumps_of.nd (pi_seq (pv 2)) (blkOk_by (own := [(("mark" : Str), 6)]) (N := N_clumps_of) (sc := d_clumps_of.scope) (by decide +kernel)) (fun _ _ _ _ _ => pg_name (i := 6) sc_clumps_of.nd rfl (by first | exact Or.inl rfl | exact Or.inr rfl)) (fun _ _ _ _ _ => pts_nil) (fun _ _ _ _ _ => (pe_ifExp (pt_cmpR (op_eqG (room65 hr)) (pv 6) (pv 10) (nomark _)) (pv 9) (pv 6)))))))))
  (pss_cons (ps_set (i := 5) sc_clumps_of.nd rfl (Or.inl rfl) (pe_lst pa_nil))
  (pss_cons (ps_for (passes_of rfl) rfl (pi_range1 (by rfl) (by exact f_range) (pa_cons (pe_callB call_len_seq (by rfl) (by exact f_len) (by decide +kernel) (pa_cons (pv 0) pa_nil)) pa_nil)) (pg_name (i := 6) sc_clumps_of.nd rfl (Or.inr rfl)) (pss_one (ps_if (pt_cmpR (op_inG (room65 hr)) (pv 6) (pv 2) (by with_unfolding_all rfl)) (pss_one (ps_expr (pe_bm PySem.F.plainAttrs_list PySem.F.slot_list_append PySem.F.type_list_append mt_append (pv 5) (pa_cons (pe_callTy call_tuple_of (by rfl) (by exact f_tuple) (by decide +kernel) (pa_cons (pe_lc (own := [(("house" : Str), 4)]) (g := gName 4) rfl sc_clumps_of.nd (pi_range1 (by rfl) (by exact f_range) (pa_cons (pe_callB call_len_seq (by rfl) (by exact f_len) (by decide +kernel) (pa_cons (pv 0) pa_nil)) pa_nil)) (blkOk_by (own := [(("house" : Str), 4)]) (N := N_clumps_of) (sc := d_clumps_of.scope) (by decide +kernel)) (fun _ _ _ _ _ => pg_name (i := 4) sc_clumps_of.nd rfl (by first | exact Or.inl rfl | exact Or.inr rfl)) (fun _ _ _ _ _ => pts_one (pt_cmpR (op_eqG (room65 hr)) (pe_ix ix_seq (pv 2) (pv 4) fun _ _ => rfl) (pv 6) (nomark _))) (fun _ _ _ _ _ => (pv 4))) pa_nil)) pa_nil)))) pss_nil)))
  (pss_one (ps_ret (pe_callTy call_tuple_of (by rfl) (by exact f_tuple) (by decide +kernel) (pa_cons (pv 5) pa_nil)))))))))),
  (ss_seq (ss_asgO (sl_lst sa_nil))
  (ss_seq (ss_asg (se_callD (sa_cons se_var (sa_cons se_var sa_nil))) sg_name)
  (ss_seq (ss_for (si_rng1 (sa_cons (se_n o_len (sa_cons se_var sa_nil)) sa_nil)) sg_name (ss_app se_var))
  (ss_seq (ss_for (si_seq se_var) (sg_tup rfl (sgs_cons (sgs_cons sgs_nil))) (ss_seq (ss_asg (se_n o_min2 (sa_cons (se_bIx se_var) (sa_cons (se_bIx se_var) sa_nil))) sg_name)
  (ss_seq (ss_asg (se_n o_max2 (sa_cons (se_bIx se_var) (sa_cons (se_bIx se_var) sa_nil))) sg_name)
  (ss_asgO (sl_lc (si_seq se_var) (by decide) sg_name st_yes (se_if (st_test (se_2 o_eq se_var se_var)) se_var se_var))))))
  (ss_seq (ss_asgO (sl_lst sa_nil))
  (ss_seq (ss_for (si_rng1 (sa_cons (se_n o_len (sa_cons se_var sa_nil)) sa_nil)) sg_name (ss_if (st_test (se_bIn se_var)) (ss_app (se_n o_tuple (sa_cons (se_l (sl_lc (si_rng1 (sa_cons (se_n o_len (sa_cons se_var sa_nil)) sa_nil)) (by decide) sg_name (st_test (se_2 o_eq (se_bIx se_var) se_var)) se_var)) sa_nil))) ss_next))
  (ss_ret (se_n o_tuple (sa_cons se_var sa_nil)))))))))⟩
theorem cal__law_classes (T : TX K mg) : CalG P w K mg base 1 d__law_classes [("_law_n" : Str), ("_law_pairs" : Str)] (spP K mg M__law_classes) := by
  have f_len : mg "len" = none := T.free "len" (mem_at 57 rfl)
  have f_list : mg "list" = none := T.free "list" (mem_at 58 rfl)
  have f_max : mg "max" = none := T.free "max" (mem_at 59 rfl)
  have f_min : mg "min" = none := T.free "min" (mem_at 60 rfl)
  have f_range : mg "range" = none := T.free "range" (mem_at 61 rfl)
  have f_sorted : mg "sorted" = none := T.free "sorted" (mem_at 62 rfl)
  have f_tuple : mg "tuple" = none := T.free "tuple" (mem_at 65 rfl)
  obtain ⟨fd, F0⟩ := T.says.def_ (d := d__law_classes) (mem_at 23 rfl)
  have F : FunD K d__law_classes.name d__law_classes.qual d__law_classes.params d__law_classes.body d__law_classes.scope [] [] (He.fAd K d__law_classes.at_) fd := F0
  have B : Binds K fd [("_law_n" : Str), ("_law_pairs" : Str)] [] := F.bindsN fun _ _ _ _ _ _ us hl => match us, hl with | [_, _], _ => rfl
  have glo : mg d__law_classes.name = some (.ref (He.fAd K d__law_classes.at_)) := T.glo "_law_classes" (mem_at 23 rfl)
  refine ⟨⟨fd, F, ?_, B⟩, glo⟩
  refine fnP_ok F sc__law_classes (by decide) ?_
  intro cdv A outer s H E hgd hr
  exact ⟨_, (pss_cons (ps_set (i := 2) sc__law_classes.nd rfl (Or.inr rfl) (pe_listRg (by rfl) (by rfl) (by exact f_list) (prg_1 (by rfl) (by exact f_range) (pv 0))))
  (pss_cons (ps_for (passes_of rfl) rfl (pi_seq (pv 1)) (pg_tup rfl (pgs_cons (pg_name (i := 5) sc__law_classes.nd rfl (Or.inl rfl)) (pgs_cons (pg_name (i := 6) sc__law_classes.nd rfl (Or.inl rfl)) pgs_nil))) (pss_cons (ps_set (i := 7) sc__law_classes.nd rfl (Or.inr rfl) (pe_callB (call_min2 (by rfl)) (by rfl) (by exact f_min) (by decide +kernel) (pa_cons (pe_ix ix_seq (pv 2) (pv 5) fun _ _ => rfl) (pa_cons (pe_ix ix_seq (pv 2) (pv 6) fun _ _ => rfl) pa_nil))))
  (pss_cons (ps_set (i := 8) sc__law_classes.nd rfl (Or.inr rfl) (pe_callB (call_max2 (by rfl)) (by rfl) (by exact f_max) (by decide +kernel) (pa_cons (pe_ix ix_seq (pv 2) (pv 5) fun _ _ => rfl) (pa_cons (pe_ix ix_seq (pv 2) (pv 6) fun _ _ => rfl) pa_nil))))
  (pss_one (ps_set (i := 2) sc__law_classes.nd rfl (Or.inr rfl) (pe_lc (own := [(("_law_c" : Str), 4)]) (g := gName 4) rfl sc__law_classes.nd (pi_seq (pv 2)) (blkOk_by (own := [(("_law_c" : Str), 4)]) (N := N__law_classes) (sc := d__law_classes.scope) (by decide +kernel)) (fun _ _ _ _ _ => pg_name (i := 4) sc__law_classes.nd rfl (by first | exact Or.inl rfl | exact Or.inr rfl)) (fun _ _ _ _ _ => pts_nil) (fun _ _ _ _ _ => (pe_ifExp (pt_cmpR (op_eqG (room65 hr)) (pv 4) (pv 8) (nomark _)) (pv 7) (pv 4)))))))))
  (pss_cons (ps_set (i := 3) sc__law_classes.nd rfl (Or.inl rfl) (pe_lst pa_nil))
  (pss_cons (ps_for (passes_of rfl) rfl (pi_range1 (by rfl) (by exact f_range) (pa_cons (pv 0) pa_nil)) (pg_name (i := 4) sc__law_classes.nd rfl (Or.inr rfl)) (pss_cons (ps_set (i := 9) sc__law_classes.nd rfl (Or.inl rfl) (pe_callTy call_tuple_of (by rfl) (by exact f_tuple) (by decide +kernel) (pa_cons (pe_lc (own := [(("_law_h" : Str), 10)]) (g := gName 10) rfl sc__law_classes.nd (pi_range1 (by rfl) (by exact f_range) (pa_cons (pv 0) pa_nil)) (blkOk_by (own := [(("_law_h" : Str), 10)]) (N := N__law_classes) (sc := d__law_classes.scope) (by decide +kernel)) (fun _ _ _ _ _ => pg_name (i := 10) sc__law_classes.nd rfl (by first | exact Or.inl rfl | exact Or.inr rfl)) (fun _ _ _ _ _ => pts_one (pt_cmpR (op_eqG (room65 hr)) (pe_ix ix_seq (pv 2) (pv 10) fun _ _ => rfl) (pv 4) (nomark _))) (fun _ _ _ _ _ => (pv 10))) pa_nil)))
  (pss_one (ps_if (pt_cmpR (op_gtG (room65 hr)) (pe_callB call_len_seq (by rfl) (by exact f_len) (by decide +kernel) (pa_cons (pv 9) pa_nil)) pe_int (nomark _)) (pss_one (ps_expr (pe_bm PySem.F.plainAttrs_list PySem.F.slot_list_append PySem.F.type_list_append mt_append (pv 3) (pa_cons (pv 9) pa_nil)))) pss_nil))))
  (pss_one (ps_ret (pe_callTy call_tuple_of (by rfl) (by exact f_tuple) (by decide +kernel) (pa_cons (pe_callB (call_sortD (room65 hr)) (by rfl) (by exact f_sorted) (by decide +kernel) (pa_cons (pv 3) pa_nil)) pa_nil)))))))),
  (ss_seq (ss_asg (se_l (sl_lstR1 se_var)) sg_name)
  (ss_seq (ss_for (si_seq se_var) (sg_tup rfl (sgs_cons (sgs_cons sgs_nil))) (ss_seq (ss_asg (se_n o_min2 (sa_cons (se_2 o_ix se_var se_var) (sa_cons (se_2 o_ix se_var se_var) sa_nil))) sg_name)
  (ss_seq (ss_asg (se_n o_max2 (sa_cons (se_2 o_ix se_var se_var) (sa_cons (se_2 o_ix se_var se_var) sa_nil))) sg_name)
  (ss_asg (se_l (sl_lc (si_seq se_var) (by decide) sg_name st_yes (se_if (st_test (se_2 o_eq se_var se_var)) se_var se_var))) sg_name))))
  (ss_seq (ss_asgO (sl_lst sa_nil))
  (ss_seq (ss_for (si_rng1 (sa_cons se_var sa_nil)) sg_name (ss_seq (ss_asg (se_n o_tuple (sa_cons (se_l (sl_lc (si_rng1 (sa_cons se_var sa_nil)) (by decide) sg_name (st_test (se_2 o_eq (se_2 o_ix se_var se_var) se_var)) se_var)) sa_nil)) sg_name)
  (ss_if (st_test (se_2 o_gt (se_n o_len (sa_cons se_var sa_nil)) se_int)) (ss_app se_var) ss_next)))
  (ss_ret (se_n o_tuple (sa_cons (se_l (sl_n o_sorted (sa_cons se_var sa_nil))) sa_nil)))))))⟩
theorem cal__law_lots (T : TX K mg) : CalG P w K mg base 1 d__law_lots [("_law_n" : Str)] (spP K mg M__law_lots) := by
  have f_range : mg "range" = none := T.free "range" (mem_at 61 rfl)
  obtain ⟨fd, F0⟩ := T.says.def_ (d := d__law_lots) (mem_at 24 rfl)
  have F : FunD K d__law_lots.name d__law_lots.qual d__law_lots.params d__law_lots.body d__law_lots.scope [] [] (He.fAd K d__law_lots.at_) fd := F0
  have B : Binds K fd [("_law_n" : Str)] [] := F.bindsN fun _ _ _ _ _ _ us hl => match us, hl with | [_], _ => rfl
  have glo : mg d__law_lots.name = some (.ref (He.fAd K d__law_lots.at_)) := T.glo "_law_lots" (mem_at 24 rfl)
  refine ⟨⟨fd, F, ?_, B⟩, glo⟩
  refine fnP_ok F sc__law_lots (by decide) ?_
  intro cdv A outer s H E hgd hr
  exact ⟨_, (pss_cons (ps_set (i := 1) sc__law_lots.nd rfl (Or.inl rfl) (pe_lst (pa_cons (pe_tup pa_nil) pa_nil)))
  (pss_cons (ps_for (passes_of rfl) rfl (pi_range1 (by rfl) (by exact f_range) (pa_cons (pv 0) pa_nil)) (pg_name (i := 2) sc__law_lots.nd rfl (Or.inr rfl)) (pss_one (ps_set (i := 1) sc__law_lots.nd rfl (Or.inl rfl) (pe_op op_add3 (pv 1) (pe_lc (own := [(("_law_l" : Str), 3)]) (g := gName 3) rfl sc__law_lots.nd (pi_seq (pv 1)) (blkOk_by (own := [(("_law_l" : Str), 3)]) (N := N__law_lots) (sc := d__law_lots.scope) (by decide +kernel)) (fun _ _ _ _ _ => pg_name (i := 3) sc__law_lots.nd rfl (by first | exact Or.inl rfl | exact Or.inr rfl)) (fun _ _ _ _ _ => pts_nil) (fun _ _ _ _ _ => (pe_op op_add3 (pv 3) (pe_tup (pa_cons (pv 2) pa_nil)))))))))
  (pss_one (ps_ret (pv 1))))),
  (ss_seq (ss_asg (se_l (sl_lst (sa_cons (se_tup sa_nil) sa_nil))) sg_name)
  (ss_seq (ss_for (si_rng1 (sa_cons se_var sa_nil)) sg_name (ss_asg (se_2 o_add se_var (se_l (sl_lc (si_seq se_var) (by decide) sg_name st_yes (se_2 o_add se_var (se_tup (sa_cons se_var sa_nil)))))) sg_name))
  (ss_ret se_var)))⟩
theorem cal__law_seam (T : TX K mg) : CalG P w K mg base 2 d__law_seam [("_law_s" : Str), ("_law_t" : Str), ("_law_l" : Str)] (spP K mg M__law_seam) := by
  have c__law_steps : CalG P w K mg base 1 d__law_steps [("_law_s" : Str)] (spP K mg M__law_steps) := cal__law_steps T
  have c__law_settings : CalG P w K mg base 1 d__law_settings [("_law_s" : Str)] (spP K mg M__law_settings) := cal__law_settings T
  have c__law_on : CalG P w K mg base 1 d__law_on [("_law_s" : Str), ("_law_steps_here" : Str), ("_law_l" : Str), ("_law_x" : Str)] (spP K mg M__law_on) := cal__law_on T
  have f_len : mg "len" = none := T.free "len" (mem_at 57 rfl)
  have f_range : mg "range" = none := T.free "range" (mem_at 61 rfl)
  obtain ⟨fd, F0⟩ := T.says.def_ (d := d__law_seam) (mem_at 25 rfl)
  have F : FunD K d__law_seam.name d__law_seam.qual d__law_seam.params d__law_seam.body d__law_seam.scope [] [] (He.fAd K d__law_seam.at_) fd := F0
  have B : Binds K fd [("_law_s" : Str), ("_law_t" : Str), ("_law_l" : Str)] [] := F.bindsN fun _ _ _ _ _ _ us hl => match us, hl with | [_, _, _], _ => rfl
  have glo : mg d__law_seam.name = some (.ref (He.fAd K d__law_seam.at_)) := T.glo "_law_seam" (mem_at 25 rfl)
  refine ⟨⟨fd, F, ?_, B⟩, glo⟩
  refine fnP_ok F sc__law_seam (by decide) ?_
  intro cdv A outer s H E hgd hr
  exact ⟨_, (pss_cons (ps_set (i := 3) sc__law_seam.nd rfl (Or.inl rfl) (pe_cal c__law_steps hgd hr (by decide) (passE (takes_of rfl rfl rfl rfl)) (pa_cons (pv 0) pa_nil)))
  (pss_cons (ps_set (i := 4) sc__law_seam.nd rfl (Or.inl rfl) (pe_cal c__law_settings hgd hr (by decide) (passE (takes_of rfl rfl rfl rfl)) (pa_cons (pv 0) pa_nil)))
  (pss_cons (ps_for (passes_of rfl) rfl (pi_range1 (by rfl) (by exact f_range) (pa_cons (pe_callB call_len_seq (by rfl) (by exact f_len) (by decide +kernel) (pa_cons (pv 4) pa_nil)) pa_nil)) (pg_name (i := 5) sc__law_seam.nd rfl (Or.inl rfl)) (pss_cons (ps_set (i := 6) sc__law_seam.nd rfl (Or.inl rfl) (pe_cal c__law_on hgd hr (by decide) (passE (takes_of rfl rfl rfl rfl)) (pa_cons (pv 0) (pa_cons (pv 3) (pa_cons (pv 2) (pa_cons (pe_ix ix_seq (pv 4) (pv 5) fun _ _ => rfl) pa_nil))))))
  (pss_one (ps_if (pt_cmpR (op_eqG (room65 hr)) (pe_op op_mod (pe_op op_add3 (pe_op op_add3 (pe_op op_add3 (pe_ix ix_seq (pv 1) (pv 5) fun _ _ => rfl) (pe_ix ix_seq (pv 1) (pv 6) fun _ _ => rfl)) (pe_ix ix_seq (pv 1) (pe_op op_sub (pv 5) (pv 6)) fun _ _ => rfl)) (pe_ix ix_seq (pv 1) pe_int fun _ _ => rfl)) pe_int) pe_int (nomark _)) (pss_one (ps_ret pe_bl)) pss_nil))))
  (pss_one (ps_ret pe_bl))))),
  (ss_seq (ss_asg (se_callD (sa_cons se_var sa_nil)) sg_name)
  (ss_seq (ss_asg (se_callD (sa_cons se_var sa_nil)) sg_name)
  (ss_seq (ss_for (si_rng1 (sa_cons (se_n o_len (sa_cons se_var sa_nil)) sa_nil)) sg_name (ss_seq (ss_asg (se_callD (sa_cons se_var (sa_cons se_var (sa_cons se_var (sa_cons (se_2 o_ix se_var se_var) sa_nil))))) sg_name)
  (ss_if (st_test (se_2 o_eq (se_2 o_mod (se_2 o_add (se_2 o_add (se_2 o_add (se_2 o_ix se_var se_var) (se_2 o_ix se_var se_var)) (se_2 o_ix se_var (se_2 o_sub se_var se_var))) (se_2 o_ix se_var se_int)) se_int) se_int)) (ss_ret se_bl) ss_next)))
  (ss_ret se_bl))))⟩
theorem calr__law_same (T : TX K mg) : ∀ j, CalG P w K mg base (0 + j) d__law_same [("_law_a" : Str), ("_law_b" : Str)] (spP K mg (MR__law_same j))
  | 0 => by
    obtain ⟨fd, F0⟩ := T.says.def_ (d := d__law_same) (mem_at 26 rfl)
    have F : FunD K d__law_same.name d__law_same.qual d__law_same.params d__law_same.body d__law_same.scope [] [] (He.fAd K d__law_same.at_) fd := F0
    exact ⟨⟨fd, F, fnG_never, F.bindsN fun _ _ _ _ _ _ us hl => match us, hl with | [_, _], _ => rfl⟩, T.glo "_law_same" (mem_at 26 rfl)⟩
  | j + 1 => by
    have c__law_same : CalG P w K mg base (0 + j) d__law_same [("_law_a" : Str), ("_law_b" : Str)] (spP K mg (MR__law_same j)) := calr__law_same T j
    show CalG P w K mg base (0 + j + 1) d__law_same [("_law_a" : Str), ("_law_b" : Str)] (spP K mg (fnM 3 2 (m__law_same (MR__law_same j))))
    have f_bool : mg "bool" = none := T.free "bool" (mem_at 54 rfl)
    have f_int : mg "int" = none := T.free "int" (mem_at 55 rfl)
    have f_isinstance : mg "isinstance" = none := T.free "isinstance" (mem_at 56 rfl)
    have f_len : mg "len" = none := T.free "len" (mem_at 57 rfl)
    have f_range : mg "range" = none := T.free "range" (mem_at 61 rfl)
    have f_str : mg "str" = none := T.free "str" (mem_at 63 rfl)
    have f_tuple : mg "tuple" = none := T.free "tuple" (mem_at 65 rfl)
    obtain ⟨fd, F0⟩ := T.says.def_ (d := d__law_same) (mem_at 26 rfl)
    have F : FunD K d__law_same.name d__law_same.qual d__law_same.params d__law_same.body d__law_same.scope [] [] (He.fAd K d__law_same.at_) fd := F0
    have B : Binds K fd [("_law_a" : Str), ("_law_b" : Str)] [] := F.bindsN fun _ _ _ _ _ _ us hl => match us, hl with | [_, _], _ => rfl
    have glo : mg d__law_same.name = some (.ref (He.fAd K d__law_same.at_)) := T.glo "_law_same" (mem_at 26 rfl)
    refine ⟨⟨fd, F, ?_, B⟩, glo⟩
    refine fnP_ok F sc__law_same (by decide) ?_
    intro cdv A outer s H E hgd hr
    exact ⟨_, (pss_cons (ps_if (pt_truth (pe_callB call_isi (by rfl) (by exact f_isinstance) boot_isinstance (pa_cons (pv 1) (pa_cons (pe_bltn (v := .ty (Ty.nm .tup)) (by rfl) (by exact f_tuple) (by decide +kernel) rfl) pa_nil))) fun _ => rfl) (pss_cons (ps_if (PW.pt (pw_or (pt_not (pt_truth (pe_callB call_isi (by rfl) (by exact f_isinstance) boot_isinstance (pa_cons (pv 0) (pa_cons (pe_bltn (v := .ty (Ty.nm .tup)) (by rfl) (by exact f_tuple) (by decide +kernel) rfl) pa_nil))) fun _ => rfl)) (pw_or1 (pt_cmpR (op_neG (room65 hr)) (pe_callB call_len_seq (by rfl) (by exact f_len) (by decide +kernel) (pa_cons (pv 0) pa_nil)) (pe_callB call_len_seq (by rfl) (by exact f_len) (by decide +kernel) (pa_cons (pv 1) pa_nil)) (nomark _))))) (pss_one (ps_ret pe_bl)) pss_nil)
    (pss_cons (ps_for (passes_of rfl) rfl (pi_range1 (by rfl) (by exact f_range) (pa_cons (pe_callB call_len_seq (by rfl) (by exact f_len) (by decide +kernel) (pa_cons (pv 1) pa_nil)) pa_nil)) (pg_name (i := 2) sc__law_same.nd rfl (Or.inl rfl)) (pss_one (ps_if (pt_not (pt_truth (pe_cal c__law_same hgd hr (by omega) (passE (takes_of rfl rfl rfl rfl)) (pa_cons (pe_ix ix_seq (pv 0) (pv 2) fun _ _ => rfl) (pa_cons (pe_ix ix_seq (pv 1) (pv 2) fun _ _ => rfl) pa_nil))) fun _ => rfl)) (pss_one (ps_ret pe_bl)) pss_nil)))
    (pss_one (ps_ret pe_bl)))) pss_nil)
    (pss_cons (ps_if (pt_cmpR op_isG (pv 1) pe_non (nomark _)) (pss_one (ps_ret (pe_cmpR op_isG (pv 0) pe_non (nomark _)))) pss_nil)
    (pss_cons (ps_if (pt_truth (pe_callB call_isi (by rfl) (by exact f_isinstance) boot_isinstance (pa_cons (pv 1) (pa_cons (pe_bltn (v := .ty (Ty.nm .bool)) (by rfl) (by exact f_bool) (by decide +kernel) rfl) pa_nil))) fun _ => rfl) (pss_one (ps_ret (pe_and (pe_callB call_isi (by rfl) (by exact f_isinstance) boot_isinstance (pa_cons (pv 0) (pa_cons (pe_bltn (v := .ty (Ty.nm .bool)) (by rfl) (by exact f_bool) (by decide +kernel) rfl) pa_nil))) (pe_one (pe_cmpR (op_eqG (room65 hr)) (pv 0) (pv 1) (nomark _)))))) pss_nil)
    (pss_cons (ps_if (pt_truth (pe_callB call_isi (by rfl) (by exact f_isinstance) boot_isinstance (pa_cons (pv 1) (pa_cons (pe_bltn (v := .ty (Ty.nm .int)) (by rfl) (by exact f_int) (by decide +kernel) rfl) pa_nil))) fun _ => rfl) (pss_one (ps_ret (pe_and (pe_callB call_isi (by rfl) (by exact f_isinstance) boot_isinstance (pa_cons (pv 0) (pa_cons (pe_bltn (v := .ty (Ty.nm .int)) (by rfl) (by exact f_int) (by decide +kernel) rfl) pa_nil))) (pe_and (pe_not (pe_callB call_isi (by rfl) (by exact f_isinstance) boot_isinstance (pa_cons (pv 0) (pa_cons (pe_bltn (v := .ty (Ty.nm .bool)) (by rfl) (by exact f_bool) (by decide +kernel) rfl) pa_nil)))) (pe_one (pe_cmpR (op_eqG (room65 hr)) (pv 0) (pv 1) (nomark _))))))) pss_nil)
    (pss_one (ps_ret (pe_and (pe_callB call_isi (by rfl) (by exact f_isinstance) boot_isinstance (pa_cons (pv 0) (pa_cons (pe_bltn (v := .ty (Ty.nm .str)) (by rfl) (by exact f_str) (by decide +kernel) rfl) pa_nil))) (pe_one (pe_cmpR (op_eqG (room65 hr)) (pv 0) (pv 1) (nomark _)))))))))),
    (ss_seq (ss_if (st_tru (se_isi .tup se_var)) (ss_seq (ss_if (st_or (st_not (st_tru (se_isi .tup se_var))) (st_test (se_2 o_ne (se_n o_len (sa_cons se_var sa_nil)) (se_n o_len (sa_cons se_var sa_nil))))) (ss_ret se_bl) ss_next)
    (ss_seq (ss_for (si_rng1 (sa_cons (se_n o_len (sa_cons se_var sa_nil)) sa_nil)) sg_name (ss_if (st_not (st_tru (se_callD (sa_cons (se_2 o_ix se_var se_var) (sa_cons (se_2 o_ix se_var se_var) sa_nil))))) (ss_ret se_bl) ss_next))
    (ss_ret se_bl))) ss_next)
    (ss_seq (ss_if (st_test (se_2 o_is se_var se_non)) (ss_ret (se_2 o_is se_var se_non)) ss_next)
    (ss_seq (ss_if (st_tru (se_isi .bool se_var)) (ss_ret (se_and (se_isi .bool se_var) (se_2 o_eq se_var se_var))) ss_next)
    (ss_seq (ss_if (st_tru (se_isi .int se_var)) (ss_ret (se_and (se_isi .int se_var) (se_and (se_not (se_isi .bool se_var)) (se_2 o_eq se_var se_var)))) ss_next)
    (ss_ret (se_and (se_isi .str se_var) (se_2 o_eq se_var se_var)))))))⟩
theorem cal__law_same (T : TX K mg) : CalG P w K mg base 6 d__law_same [("_law_a" : Str), ("_law_b" : Str)] (spP K mg M__law_same) := calr__law_same T 6
theorem cal__law_odd_sum (T : TX K mg) : CalG P w K mg base 1 d__law_odd_sum [("_law_t" : Str), ("_law_p" : Str), ("_law_up" : Str), ("_law_across" : Str)] (spP K mg M__law_odd_sum) := by
  obtain ⟨fd, F0⟩ := T.says.def_ (d := d__law_odd_sum) (mem_at 27 rfl)
  have F : FunD K d__law_odd_sum.name d__law_odd_sum.qual d__law_odd_sum.params d__law_odd_sum.body d__law_odd_sum.scope [] [] (He.fAd K d__law_odd_sum.at_) fd := F0
  have B : Binds K fd [("_law_t" : Str), ("_law_p" : Str), ("_law_up" : Str), ("_law_across" : Str)] [] := F.bindsN fun _ _ _ _ _ _ us hl => match us, hl with | [_, _, _, _], _ => rfl
  have glo : mg d__law_odd_sum.name = some (.ref (He.fAd K d__law_odd_sum.at_)) := T.glo "_law_odd_sum" (mem_at 27 rfl)
  refine ⟨⟨fd, F, ?_, B⟩, glo⟩
  refine fnP_ok F sc__law_odd_sum (by decide) ?_
  intro cdv A outer s H E hgd hr
  exact ⟨_, (pss_one (ps_ret (pe_cmpR (op_eqG (room65 hr)) (pe_op op_mod (pe_op op_add3 (pe_op op_add3 (pe_op op_add3 (pe_ix ix_seq (pv 0) (pv 1) fun _ _ => rfl) (pe_ix ix_seq (pv 0) (pe_op op_add3 (pv 1) (pv 2)) fun _ _ => rfl)) (pe_ix ix_seq (pv 0) (pe_op op_add3 (pv 1) (pv 3)) fun _ _ => rfl)) (pe_ix ix_seq (pv 0) (pe_op op_add3 (pe_op op_add3 (pv 1) (pv 2)) (pv 3)) fun _ _ => rfl)) pe_int) pe_int (nomark _)))),
  (ss_ret (se_2 o_eq (se_2 o_mod (se_2 o_add (se_2 o_add (se_2 o_add (se_2 o_ix se_var se_var) (se_2 o_ix se_var (se_2 o_add se_var se_var))) (se_2 o_ix se_var (se_2 o_add se_var se_var))) (se_2 o_ix se_var (se_2 o_add (se_2 o_add se_var se_var) se_var))) se_int) se_int))⟩
theorem cal__law_knit (T : TX K mg) : CalG P w K mg base 2 d__law_knit [("_law_s" : Str), ("_law_t" : Str), ("_law_i" : Str), ("_law_j" : Str)] (spP K mg M__law_knit) := by
  have c__law_steps : CalG P w K mg base 1 d__law_steps [("_law_s" : Str)] (spP K mg M__law_steps) := cal__law_steps T
  have c__law_settings : CalG P w K mg base 1 d__law_settings [("_law_s" : Str)] (spP K mg M__law_settings) := cal__law_settings T
  have c__law_odd_sum : CalG P w K mg base 1 d__law_odd_sum [("_law_t" : Str), ("_law_p" : Str), ("_law_up" : Str), ("_law_across" : Str)] (spP K mg M__law_odd_sum) := cal__law_odd_sum T
  have f_len : mg "len" = none := T.free "len" (mem_at 57 rfl)
  have f_range : mg "range" = none := T.free "range" (mem_at 61 rfl)
  obtain ⟨fd, F0⟩ := T.says.def_ (d := d__law_knit) (mem_at 28 rfl)
  have F : FunD K d__law_knit.name d__law_knit.qual d__law_knit.params d__law_knit.body d__law_knit.scope [] [] (He.fAd K d__law_knit.at_) fd := F0
  have B : Binds K fd [("_law_s" : Str), ("_law_t" : Str), ("_law_i" : Str), ("_law_j" : Str)] [] := F.bindsN fun _ _ _ _ _ _ us hl => match us, hl with | [_, _, _, _], _ => rfl
  have glo : mg d__law_knit.name = some (.ref (He.fAd K d__law_knit.at_)) := T.glo "_law_knit" (mem_at 28 rfl)
  refine ⟨⟨fd, F, ?_, B⟩, glo⟩
  refine fnP_ok F sc__law_knit (by decide) ?_
  intro cdv A outer s H E hgd hr
  exact ⟨_, (pss_cons (ps_set (i := 4) sc__law_knit.nd rfl (Or.inl rfl) (pe_cal c__law_steps hgd hr (by decide) (passE (takes_of rfl rfl rfl rfl)) (pa_cons (pv 0) pa_nil)))
  (pss_cons (ps_set (i := 5) sc__law_knit.nd rfl (Or.inl rfl) (pe_cal c__law_settings hgd hr (by decide) (passE (takes_of rfl rfl rfl rfl)) (pa_cons (pv 0) pa_nil)))
  (pss_cons (ps_for (passes_of rfl) rfl (pi_range1 (by rfl) (by exact f_range) (pa_cons (pe_callB call_len_seq (by rfl) (by exact f_len) (by decide +kernel) (pa_cons (pv 5) pa_nil)) pa_nil)) (pg_name (i := 6) sc__law_knit.nd rfl (Or.inl rfl)) (pss_cons (ps_set (i := 7) sc__law_knit.nd rfl (Or.inl rfl) (pe_ix ix_seq (pv 5) (pv 6) fun _ _ => rfl))
  (pss_one (ps_for (passes_of rfl) rfl (pi_range2 (by rfl) (by exact f_range) (pa_cons (pe_op op_add3 (pe_ix ix_seq (pv 7) (pv 2) fun _ _ => rfl) pe_int) (pa_cons (pe_ix ix_seq (pv 0) (pv 2) fun _ _ => rfl) pa_nil))) (pg_name (i := 8) sc__law_knit.nd rfl (Or.inl rfl)) (pss_one (ps_for (passes_of rfl) rfl (pi_range2 (by rfl) (by exact f_range) (pa_cons (pe_op op_add3 (pe_ix ix_seq (pv 7) (pv 3) fun _ _ => rfl) pe_int) (pa_cons (pe_ix ix_seq (pv 0) (pv 3) fun _ _ => rfl) pa_nil))) (pg_name (i := 9) sc__law_knit.nd rfl (Or.inl rfl)) (pss_one (ps_if (pt_truth (pe_cal c__law_odd_sum hgd hr (by decide) (passE (takes_of rfl rfl rfl rfl)) (pa_cons (pv 1) (pa_cons (pv 6) (pa_cons (pe_op op_mulX (pe_op op_sub (pv 8) (pe_ix ix_seq (pv 7) (pv 2) fun _ _ => rfl)) (pe_ix ix_seq (pv 4) (pv 2) fun _ _ => rfl)) (pa_cons (pe_op op_mulX (pe_op op_sub (pv 9) (pe_ix ix_seq (pv 7) (pv 3) fun _ _ => rfl)) (pe_ix ix_seq (pv 4) (pv 3) fun _ _ => rfl)) pa_nil))))) fun _ => rfl) (pss_one (ps_ret pe_bl)) pss_nil))))))))
  (pss_one (ps_ret pe_bl))))),
  (ss_seq (ss_asg (se_callD (sa_cons se_var sa_nil)) sg_name)
  (ss_seq (ss_asg (se_callD (sa_cons se_var sa_nil)) sg_name)
  (ss_seq (ss_for (si_rng1 (sa_cons (se_n o_len (sa_cons se_var sa_nil)) sa_nil)) sg_name (ss_seq (ss_asg (se_2 o_ix se_var se_var) sg_name)
  (ss_for (si_rng2 (sa_cons (se_2 o_add (se_2 o_ix se_var se_var) se_int) (sa_cons (se_2 o_ix se_var se_var) sa_nil))) sg_name (ss_for (si_rng2 (sa_cons (se_2 o_add (se_2 o_ix se_var se_var) se_int) (sa_cons (se_2 o_ix se_var se_var) sa_nil))) sg_name (ss_if (st_tru (se_callD (sa_cons se_var (sa_cons se_var (sa_cons (se_2 o_mul (se_2 o_sub se_var (se_2 o_ix se_var se_var)) (se_2 o_ix se_var se_var)) (sa_cons (se_2 o_mul (se_2 o_sub se_var (se_2 o_ix se_var se_var)) (se_2 o_ix se_var se_var)) sa_nil)))))) (ss_ret se_bl) ss_next)))))
  (ss_ret se_bl))))⟩
theorem cal_is_number (T : TX K mg) : CalG P w K mg base 3 d_is_number [("thing" : Str)] (spP K mg M_is_number) := by
  have c_number_fits : CalG P w K mg base 2 d_number_fits [("thing" : Str)] (spP K mg M_number_fits) := cal_number_fits T
  obtain ⟨fd, F0⟩ := T.says.def_ (d := d_is_number) (mem_at 29 rfl)
  have F : FunD K d_is_number.name d_is_number.qual d_is_number.params d_is_number.body d_is_number.scope [] [] (He.fAd K d_is_number.at_) fd := F0
  have B : Binds K fd [("thing" : Str)] [] := F.bindsN fun _ _ _ _ _ _ us hl => match us, hl with | [_], _ => rfl
  have glo : mg d_is_number.name = some (.ref (He.fAd K d_is_number.at_)) := T.glo "is_number" (mem_at 29 rfl)
  refine ⟨⟨fd, F, ?_, B⟩, glo⟩
  refine fnP_ok F sc_is_number (by decide) ?_
  intro cdv A outer s H E hgd hr
  exact ⟨_, (pss_one (ps_ret (pe_cal c_number_fits hgd hr (by decide) (passE (takes_of rfl rfl rfl rfl)) (pa_cons (pv 0) pa_nil)))),
  (ss_ret (se_callD (sa_cons se_var sa_nil)))⟩
theorem cal__want_houses (T : TX K mg) : CalG P w K mg base 6 d__want_houses [("sizes" : Str), ("table" : Str), ("one" : Str), ("other" : Str)] (spP K mg M__want_houses) := by
  have c_a_want : CalG P w K mg base 3 d_a_want [("good" : Str), ("word" : Str)] (spP K mg M_a_want) := cal_a_want T
  have c_is_sizes : CalG P w K mg base 4 d_is_sizes [("thing" : Str)] (spP K mg M_is_sizes) := cal_is_sizes T
  have c_is_table : CalG P w K mg base 5 d_is_table [("sizes" : Str), ("thing" : Str)] (spP K mg M_is_table) := cal_is_table T
  have c_is_number : CalG P w K mg base 3 d_is_number [("thing" : Str)] (spP K mg M_is_number) := cal_is_number T
  have f_len : mg "len" = none := T.free "len" (mem_at 57 rfl)
  obtain ⟨fd, F0⟩ := T.says.def_ (d := d__want_houses) (mem_at 30 rfl)
  have F : FunD K d__want_houses.name d__want_houses.qual d__want_houses.params d__want_houses.body d__want_houses.scope [] [] (He.fAd K d__want_houses.at_) fd := F0
  have B : Binds K fd [("sizes" : Str), ("table" : Str), ("one" : Str), ("other" : Str)] [] := F.bindsN fun _ _ _ _ _ _ us hl => match us, hl with | [_, _, _, _], _ => rfl
  have glo : mg d__want_houses.name = some (.ref (He.fAd K d__want_houses.at_)) := T.glo "_want_houses" (mem_at 30 rfl)
  refine ⟨⟨fd, F, ?_, B⟩, glo⟩
  refine fnP_ok F sc__want_houses (by decide) ?_
  intro cdv A outer s H E hgd hr
  exact ⟨_, (pss_cons (ps_expr (pe_cal c_a_want hgd hr (by decide) (passE (takes_of rfl rfl rfl rfl)) (pa_cons (pe_cal c_is_sizes hgd hr (by decide) (passE (takes_of rfl rfl rfl rfl)) (pa_cons (pv 0) pa_nil)) (pa_cons pe_str pa_nil))))
  (pss_cons (ps_expr (pe_cal c_a_want hgd hr (by decide) (passE (takes_of rfl rfl rfl rfl)) (pa_cons (pe_cal c_is_table hgd hr (by decide) (passE (takes_of rfl rfl rfl rfl)) (pa_cons (pv 0) (pa_cons (pv 1) pa_nil))) (pa_cons pe_str pa_nil))))
  (pss_cons (ps_expr (pe_cal c_a_want hgd hr (by decide) (passE (takes_of rfl rfl rfl rfl)) (pa_cons (pe_and (pe_cal c_is_number hgd hr (by decide) (passE (takes_of rfl rfl rfl rfl)) (pa_cons (pv 2) pa_nil)) (pe_one (pe_cmpR (op_ltG (room65 hr)) (pv 2) (pe_callB call_len_seq (by rfl) (by exact f_len) (by decide +kernel) (pa_cons (pv 0) pa_nil)) (nomark _)))) (pa_cons pe_str pa_nil))))
  (pss_one (ps_expr (pe_cal c_a_want hgd hr (by decide) (passE (takes_of rfl rfl rfl rfl)) (pa_cons (pe_and (pe_cal c_is_number hgd hr (by decide) (passE (takes_of rfl rfl rfl rfl)) (pa_cons (pv 3) pa_nil)) (pe_and (pe_cmpR (op_ltG (room65 hr)) (pv 3) (pe_callB call_len_seq (by rfl) (by exact f_len) (by decide +kernel) (pa_cons (pv 0) pa_nil)) (nomark _)) (pe_one (pe_cmpR (op_neG (room65 hr)) (pv 3) (pv 2) (nomark _))))) (pa_cons pe_str pa_nil)))))))),
  (ss_seq (ss_drop (se_callD (sa_cons (se_callD (sa_cons se_var sa_nil)) (sa_cons se_str sa_nil))))
  (ss_seq (ss_drop (se_callD (sa_cons (se_callD (sa_cons se_var (sa_cons se_var sa_nil))) (sa_cons se_str sa_nil))))
  (ss_seq (ss_drop (se_callD (sa_cons (se_and (se_callD (sa_cons se_var sa_nil)) (se_2 o_lt se_var (se_n o_len (sa_cons se_var sa_nil)))) (sa_cons se_str sa_nil))))
  (ss_drop (se_callD (sa_cons (se_and (se_callD (sa_cons se_var sa_nil)) (se_and (se_2 o_lt se_var (se_n o_len (sa_cons se_var sa_nil))) (se_2 o_ne se_var se_var))) (sa_cons se_str sa_nil)))))))⟩
theorem cal_setting_by (T : TX K mg) : CalG P w K mg base 2 d_setting_by [("sizes" : Str), ("place" : Str)] (spP K mg M_setting_by) := by
  have c_spans_of : CalG P w K mg base 1 d_spans_of [("sizes" : Str)] (spP K mg M_spans_of) := cal_spans_of T
  have f_len : mg "len" = none := T.free "len" (mem_at 57 rfl)
  have f_range : mg "range" = none := T.free "range" (mem_at 61 rfl)
  have f_tuple : mg "tuple" = none := T.free "tuple" (mem_at 65 rfl)
  obtain ⟨fd, F0⟩ := T.says.def_ (d := d_setting_by) (mem_at 31 rfl)
  have F : FunD K d_setting_by.name d_setting_by.qual d_setting_by.params d_setting_by.body d_setting_by.scope [] [] (He.fAd K d_setting_by.at_) fd := F0
  have B : Binds K fd [("sizes" : Str), ("place" : Str)] [] := F.bindsN fun _ _ _ _ _ _ us hl => match us, hl with | [_, _], _ => rfl
  have glo : mg d_setting_by.name = some (.ref (He.fAd K d_setting_by.at_)) := T.glo "setting_by" (mem_at 31 rfl)
  refine ⟨⟨fd, F, ?_, B⟩, glo⟩
  refine fnP_ok F sc_setting_by (by decide) ?_
  intro cdv A outer s H E hgd hr
  exact ⟨_, (pss_cons (ps_set (i := 2) sc_setting_by.nd rfl (Or.inr rfl) (pe_cal c_spans_of hgd hr (by decide) (passE (takes_of rfl rfl rfl rfl)) (pa_cons (pv 0) pa_nil)))
  (pss_one (ps_ret (pe_callTy call_tuple_of (by rfl) (by exact f_tuple) (by decide +kernel) (pa_cons (pe_lc (own := [(("house" : Str), 3)]) (g := gName 3) rfl sc_setting_by.nd (pi_range1 (by rfl) (by exact f_range) (pa_cons (pe_callB call_len_seq (by rfl) (by exact f_len) (by decide +kernel) (pa_cons (pv 0) pa_nil)) pa_nil)) (blkOk_by (own := [(("house" : Str), 3)]) (N := N_setting_by) (sc := d_setting_by.scope) (by decide +kernel)) (fun _ _ _ _ _ => pg_name (i := 3) sc_setting_by.nd rfl (by first | exact Or.inl rfl | exact Or.inr rfl)) (fun _ _ _ _ _ => pts_nil) (fun _ _ _ _ _ => (pe_op op_mod (pe_op op_fdivW (pv 1) (pe_ix ix_seq (pv 2) (pv 3) fun _ _ => rfl)) (pe_ix ix_seq (pv 0) (pv 3) fun _ _ => rfl)))) pa_nil))))),
  (ss_seq (ss_asg (se_callD (sa_cons se_var sa_nil)) sg_name)
  (ss_ret (se_n o_tuple (sa_cons (se_l (sl_lc (si_rng1 (sa_cons (se_n o_len (sa_cons se_var sa_nil)) sa_nil)) (by decide) sg_name st_yes (se_2 o_mod (se_2 o_div se_var (se_2 o_ix se_var se_var)) (se_2 o_ix se_var se_var)))) sa_nil))))⟩
theorem cal_odd_four (T : TX K mg) : CalG P w K mg base 7 d_odd_four [("sizes" : Str), ("table" : Str), ("one" : Str), ("other" : Str)] (spP K mg M_odd_four) := by
  have c__want_houses : CalG P w K mg base 6 d__want_houses [("sizes" : Str), ("table" : Str), ("one" : Str), ("other" : Str)] (spP K mg M__want_houses) := cal__want_houses T
  have c_odd_spot : CalG P w K mg base 3 d_odd_spot [("sizes" : Str), ("table" : Str), ("one" : Str), ("other" : Str)] (spP K mg M_odd_spot) := cal_odd_spot T
  have c_setting_by : CalG P w K mg base 2 d_setting_by [("sizes" : Str), ("place" : Str)] (spP K mg M_setting_by) := cal_setting_by T
  obtain ⟨fd, F0⟩ := T.says.def_ (d := d_odd_four) (mem_at 32 rfl)
  have F : FunD K d_odd_four.name d_odd_four.qual d_odd_four.params d_odd_four.body d_odd_four.scope [] [] (He.fAd K d_odd_four.at_) fd := F0
  have B : Binds K fd [("sizes" : Str), ("table" : Str), ("one" : Str), ("other" : Str)] [] := F.bindsN fun _ _ _ _ _ _ us hl => match us, hl with | [_, _, _, _], _ => rfl
  have glo : mg d_odd_four.name = some (.ref (He.fAd K d_odd_four.at_)) := T.glo "odd_four" (mem_at 32 rfl)
  refine ⟨⟨fd, F, ?_, B⟩, glo⟩
  refine fnP_ok F sc_odd_four (by decide) ?_
  intro cdv A outer s H E hgd hr
  exact ⟨_, (pss_cons (ps_expr (pe_cal c__want_houses hgd hr (by decide) (passE (takes_of rfl rfl rfl rfl)) (pa_cons (pv 0) (pa_cons (pv 1) (pa_cons (pv 2) (pa_cons (pv 3) pa_nil))))))
  (pss_cons (ps_set (i := 4) sc_odd_four.nd rfl (Or.inl rfl) (pe_cal c_odd_spot hgd hr (by decide) (passE (takes_of rfl rfl rfl rfl)) (pa_cons (pv 0) (pa_cons (pv 1) (pa_cons (pv 2) (pa_cons (pv 3) pa_nil))))))
  (pss_cons (ps_if (pt_cmpR op_isG (pv 4) pe_non (nomark _)) (pss_one (ps_ret pe_non)) pss_nil)
  (pss_cons (ps_asg (pv 4) (pg_tup rfl (pgs_cons (pg_name (i := 5) sc_odd_four.nd rfl (Or.inl rfl)) (pgs_cons (pg_name (i := 6) sc_odd_four.nd rfl (Or.inl rfl)) (pgs_cons (pg_name (i := 7) sc_odd_four.nd rfl (Or.inl rfl)) pgs_nil)))))
  (pss_one (ps_ret (pe_tup (pa_cons (pe_cal c_setting_by hgd hr (by decide) (passE (takes_of rfl rfl rfl rfl)) (pa_cons (pv 0) (pa_cons (pv 5) pa_nil))) (pa_cons (pv 2) (pa_cons (pv 6) (pa_cons (pv 3) (pa_cons (pv 7) pa_nil)))))))))))),
  (ss_seq (ss_drop (se_callD (sa_cons se_var (sa_cons se_var (sa_cons se_var (sa_cons se_var sa_nil))))))
  (ss_seq (ss_asg (se_callD (sa_cons se_var (sa_cons se_var (sa_cons se_var (sa_cons se_var sa_nil))))) sg_name)
  (ss_seq (ss_if (st_test (se_2 o_is se_var se_non)) (ss_ret se_non) ss_next)
  (ss_seq (ss_asg se_var (sg_tup rfl (sgs_cons (sgs_cons (sgs_cons sgs_nil)))))
  (ss_ret (se_tup (sa_cons (se_callD (sa_cons se_var (sa_cons se_var sa_nil))) (sa_cons se_var (sa_cons se_var (sa_cons se_var (sa_cons se_var sa_nil)))))))))))⟩
theorem cal_house_fits (T : TX K mg) : CalG P w K mg base 3 d_house_fits [("many" : Str), ("thing" : Str)] (spP K mg M_house_fits) := by
  have c_number_fits : CalG P w K mg base 2 d_number_fits [("thing" : Str)] (spP K mg M_number_fits) := cal_number_fits T
  obtain ⟨fd, F0⟩ := T.says.def_ (d := d_house_fits) (mem_at 33 rfl)
  have F : FunD K d_house_fits.name d_house_fits.qual d_house_fits.params d_house_fits.body d_house_fits.scope [] [] (He.fAd K d_house_fits.at_) fd := F0
  have B : Binds K fd [("many" : Str), ("thing" : Str)] [] := F.bindsN fun _ _ _ _ _ _ us hl => match us, hl with | [_, _], _ => rfl
  have glo : mg d_house_fits.name = some (.ref (He.fAd K d_house_fits.at_)) := T.glo "house_fits" (mem_at 33 rfl)
  refine ⟨⟨fd, F, ?_, B⟩, glo⟩
  refine fnP_ok F sc_house_fits (by decide) ?_
  intro cdv A outer s H E hgd hr
  exact ⟨_, (pss_one (ps_ret (pe_and (pe_cal c_number_fits hgd hr (by decide) (passE (takes_of rfl rfl rfl rfl)) (pa_cons (pv 1) pa_nil)) (pe_one (pe_cmpR (op_ltG (room65 hr)) (pv 1) (pv 0) (nomark _)))))),
  (ss_ret (se_and (se_callD (sa_cons se_var sa_nil)) (se_2 o_lt se_var se_var)))⟩
theorem cal_lot_fits (T : TX K mg) : CalG P w K mg base 4 d_lot_fits [("many" : Str), ("thing" : Str)] (spP K mg M_lot_fits) := by
  have c_house_fits : CalG P w K mg base 3 d_house_fits [("many" : Str), ("thing" : Str)] (spP K mg M_house_fits) := cal_house_fits T
  have f_isinstance : mg "isinstance" = none := T.free "isinstance" (mem_at 56 rfl)
  have f_tuple : mg "tuple" = none := T.free "tuple" (mem_at 65 rfl)
  obtain ⟨fd, F0⟩ := T.says.def_ (d := d_lot_fits) (mem_at 34 rfl)
  have F : FunD K d_lot_fits.name d_lot_fits.qual d_lot_fits.params d_lot_fits.body d_lot_fits.scope [] [] (He.fAd K d_lot_fits.at_) fd := F0
  have B : Binds K fd [("many" : Str), ("thing" : Str)] [] := F.bindsN fun _ _ _ _ _ _ us hl => match us, hl with | [_, _], _ => rfl
  have glo : mg d_lot_fits.name = some (.ref (He.fAd K d_lot_fits.at_)) := T.glo "lot_fits" (mem_at 34 rfl)
  refine ⟨⟨fd, F, ?_, B⟩, glo⟩
  refine fnP_ok F sc_lot_fits (by decide) ?_
  intro cdv A outer s H E hgd hr
  exact ⟨_, (pss_cons (ps_if (pt_not (pt_truth (pe_callB call_isi (by rfl) (by exact f_isinstance) boot_isinstance (pa_cons (pv 1) (pa_cons (pe_bltn (v := .ty (Ty.nm .tup)) (by rfl) (by exact f_tuple) (by decide +kernel) rfl) pa_nil))) fun _ => rfl)) (pss_one (ps_ret pe_bl)) pss_nil)
  (pss_cons (ps_set (i := 2) sc_lot_fits.nd rfl (Or.inl rfl) (pe_un un_neg pe_int))
  (pss_cons (ps_for (passes_of rfl) rfl (pi_seq (pv 1)) (pg_name (i := 3) sc_lot_fits.nd rfl (Or.inl rfl)) (pss_cons (ps_if (PW.pt (pw_or (pt_not (pt_truth (pe_cal c_house_fits hgd hr (by decide) (passE (takes_of rfl rfl rfl rfl)) (pa_cons (pv 0) (pa_cons (pv 3) pa_nil))) fun _ => rfl)) (pw_or1 (pt_cmpR (op_leG (room65 hr)) (pv 3) (pv 2) (nomark _))))) (pss_one (ps_ret pe_bl)) pss_nil)
  (pss_one (ps_set (i := 2) sc_lot_fits.nd rfl (Or.inl rfl) (pv 3)))))
  (pss_one (ps_ret pe_bl))))),
  (ss_seq (ss_if (st_not (st_tru (se_isi .tup se_var))) (ss_ret se_bl) ss_next)
  (ss_seq (ss_asg (se_1 o_neg se_int) sg_name)
  (ss_seq (ss_for (si_seq se_var) sg_name (ss_seq (ss_if (st_or (st_not (st_tru (se_callD (sa_cons se_var (sa_cons se_var sa_nil))))) (st_test (se_2 o_le se_var se_var))) (ss_ret se_bl) ss_next)
  (ss_asg se_var sg_name)))
  (ss_ret se_bl))))⟩
theorem cal_is_lot (T : TX K mg) : CalG P w K mg base 5 d_is_lot [("many" : Str), ("thing" : Str)] (spP K mg M_is_lot) := by
  have c_a_want : CalG P w K mg base 3 d_a_want [("good" : Str), ("word" : Str)] (spP K mg M_a_want) := cal_a_want T
  have c_lot_fits : CalG P w K mg base 4 d_lot_fits [("many" : Str), ("thing" : Str)] (spP K mg M_lot_fits) := cal_lot_fits T
  have c_many_fits : CalG P w K mg base 2 d_many_fits [("thing" : Str)] (spP K mg M_many_fits) := cal_many_fits T
  obtain ⟨fd, F0⟩ := T.says.def_ (d := d_is_lot) (mem_at 35 rfl)
  have F : FunD K d_is_lot.name d_is_lot.qual d_is_lot.params d_is_lot.body d_is_lot.scope [] [] (He.fAd K d_is_lot.at_) fd := F0
  have B : Binds K fd [("many" : Str), ("thing" : Str)] [] := F.bindsN fun _ _ _ _ _ _ us hl => match us, hl with | [_, _], _ => rfl
  have glo : mg d_is_lot.name = some (.ref (He.fAd K d_is_lot.at_)) := T.glo "is_lot" (mem_at 35 rfl)
  refine ⟨⟨fd, F, ?_, B⟩, glo⟩
  refine fnP_ok F sc_is_lot (by decide) ?_
  intro cdv A outer s H E hgd hr
  exact ⟨_, (pss_cons (ps_expr (pe_cal c_a_want hgd hr (by decide) (passE (takes_of rfl rfl rfl rfl)) (pa_cons (pe_cal c_many_fits hgd hr (by decide) (passE (takes_of rfl rfl rfl rfl)) (pa_cons (pv 0) pa_nil)) (pa_cons pe_str pa_nil))))
  (pss_one (ps_ret (pe_cal c_lot_fits hgd hr (by decide) (passE (takes_of rfl rfl rfl rfl)) (pa_cons (pv 0) (pa_cons (pv 1) pa_nil)))))),
  (ss_seq (ss_drop (se_callD (sa_cons (se_callD (sa_cons se_var sa_nil)) (sa_cons se_str sa_nil))))
  (ss_ret (se_callD (sa_cons se_var (sa_cons se_var sa_nil)))))⟩
theorem cal_is_seam (T : TX K mg) : CalG P w K mg base 7 d_is_seam [("sizes" : Str), ("table" : Str), ("lot" : Str)] (spP K mg M_is_seam) := by
  have c_a_want : CalG P w K mg base 3 d_a_want [("good" : Str), ("word" : Str)] (spP K mg M_a_want) := cal_a_want T
  have c_knit_pairs : CalG P w K mg base 6 d_knit_pairs [("sizes" : Str), ("table" : Str)] (spP K mg M_knit_pairs) := cal_knit_pairs T
  have c_is_sizes : CalG P w K mg base 4 d_is_sizes [("thing" : Str)] (spP K mg M_is_sizes) := cal_is_sizes T
  have c_is_table : CalG P w K mg base 5 d_is_table [("sizes" : Str), ("thing" : Str)] (spP K mg M_is_table) := cal_is_table T
  have c_is_lot : CalG P w K mg base 5 d_is_lot [("many" : Str), ("thing" : Str)] (spP K mg M_is_lot) := cal_is_lot T
  have f_len : mg "len" = none := T.free "len" (mem_at 57 rfl)
  obtain ⟨fd, F0⟩ := T.says.def_ (d := d_is_seam) (mem_at 36 rfl)
  have F : FunD K d_is_seam.name d_is_seam.qual d_is_seam.params d_is_seam.body d_is_seam.scope [] [] (He.fAd K d_is_seam.at_) fd := F0
  have B : Binds K fd [("sizes" : Str), ("table" : Str), ("lot" : Str)] [] := F.bindsN fun _ _ _ _ _ _ us hl => match us, hl with | [_, _, _], _ => rfl
  have glo : mg d_is_seam.name = some (.ref (He.fAd K d_is_seam.at_)) := T.glo "is_seam" (mem_at 36 rfl)
  refine ⟨⟨fd, F, ?_, B⟩, glo⟩
  refine fnP_ok F sc_is_seam (by decide) ?_
  intro cdv A outer s H E hgd hr
  exact ⟨_, (pss_cons (ps_expr (pe_cal c_a_want hgd hr (by decide) (passE (takes_of rfl rfl rfl rfl)) (pa_cons (pe_cal c_is_sizes hgd hr (by decide) (passE (takes_of rfl rfl rfl rfl)) (pa_cons (pv 0) pa_nil)) (pa_cons pe_str pa_nil))))
  (pss_cons (ps_expr (pe_cal c_a_want hgd hr (by decide) (passE (takes_of rfl rfl rfl rfl)) (pa_cons (pe_cal c_is_table hgd hr (by decide) (passE (takes_of rfl rfl rfl rfl)) (pa_cons (pv 0) (pa_cons (pv 1) pa_nil))) (pa_cons pe_str pa_nil))))
  (pss_cons (ps_expr (pe_cal c_a_want hgd hr (by decide) (passE (takes_of rfl rfl rfl rfl)) (pa_cons (pe_cal c_is_lot hgd hr (by decide) (passE (takes_of rfl rfl rfl rfl)) (pa_cons (pe_callB call_len_seq (by rfl) (by exact f_len) (by decide +kernel) (pa_cons (pv 0) pa_nil)) (pa_cons (pv 2) pa_nil))) (pa_cons pe_str pa_nil))))
  (pss_cons (ps_for (passes_of rfl) rfl (pi_seq (pe_cal c_knit_pairs hgd hr (by decide) (passE (takes_of rfl rfl rfl rfl)) (pa_cons (pv 0) (pa_cons (pv 1) pa_nil)))) (pg_tup rfl (pgs_cons (pg_name (i := 3) sc_is_seam.nd rfl (Or.inl rfl)) (pgs_cons (pg_name (i := 4) sc_is_seam.nd rfl (Or.inl rfl)) pgs_nil))) (pss_one (ps_if (pt_cmpR (op_neG (room65 hr)) (pe_cmpR (op_inG (room65 hr)) (pv 3) (pv 2) (by with_unfolding_all rfl)) (pe_cmpR (op_inG (room65 hr)) (pv 4) (pv 2) (by with_unfolding_all rfl)) (nomark _)) (pss_one (ps_ret pe_bl)) pss_nil)))
  (pss_one (ps_ret pe_bl)))))),
  (ss_seq (ss_drop (se_callD (sa_cons (se_callD (sa_cons se_var sa_nil)) (sa_cons se_str sa_nil))))
  (ss_seq (ss_drop (se_callD (sa_cons (se_callD (sa_cons se_var (sa_cons se_var sa_nil))) (sa_cons se_str sa_nil))))
  (ss_seq (ss_drop (se_callD (sa_cons (se_callD (sa_cons (se_n o_len (sa_cons se_var sa_nil)) (sa_cons se_var sa_nil))) (sa_cons se_str sa_nil))))
  (ss_seq (ss_for (si_seq (se_callD (sa_cons se_var (sa_cons se_var sa_nil)))) (sg_tup rfl (sgs_cons (sgs_cons sgs_nil))) (ss_if (st_test (se_2 o_ne (se_2 o_in se_var se_var) (se_2 o_in se_var se_var))) (ss_ret se_bl) ss_next))
  (ss_ret se_bl)))))⟩
theorem cal_are_knit (T : TX K mg) : CalG P w K mg base 7 d_are_knit [("sizes" : Str), ("table" : Str), ("one" : Str), ("other" : Str)] (spP K mg M_are_knit) := by
  have c__want_houses : CalG P w K mg base 6 d__want_houses [("sizes" : Str), ("table" : Str), ("one" : Str), ("other" : Str)] (spP K mg M__want_houses) := cal__want_houses T
  have c_odd_spot : CalG P w K mg base 3 d_odd_spot [("sizes" : Str), ("table" : Str), ("one" : Str), ("other" : Str)] (spP K mg M_odd_spot) := cal_odd_spot T
  obtain ⟨fd, F0⟩ := T.says.def_ (d := d_are_knit) (mem_at 37 rfl)
  have F : FunD K d_are_knit.name d_are_knit.qual d_are_knit.params d_are_knit.body d_are_knit.scope [] [] (He.fAd K d_are_knit.at_) fd := F0
  have B : Binds K fd [("sizes" : Str), ("table" : Str), ("one" : Str), ("other" : Str)] [] := F.bindsN fun _ _ _ _ _ _ us hl => match us, hl with | [_, _, _, _], _ => rfl
  have glo : mg d_are_knit.name = some (.ref (He.fAd K d_are_knit.at_)) := T.glo "are_knit" (mem_at 37 rfl)
  refine ⟨⟨fd, F, ?_, B⟩, glo⟩
  refine fnP_ok F sc_are_knit (by decide) ?_
  intro cdv A outer s H E hgd hr
  exact ⟨_, (pss_cons (ps_expr (pe_cal c__want_houses hgd hr (by decide) (passE (takes_of rfl rfl rfl rfl)) (pa_cons (pv 0) (pa_cons (pv 1) (pa_cons (pv 2) (pa_cons (pv 3) pa_nil))))))
  (pss_one (ps_ret (pe_cmpR op_isNotG (pe_cal c_odd_spot hgd hr (by decide) (passE (takes_of rfl rfl rfl rfl)) (pa_cons (pv 0) (pa_cons (pv 1) (pa_cons (pv 2) (pa_cons (pv 3) pa_nil))))) pe_non (nomark _))))),
  (ss_seq (ss_drop (se_callD (sa_cons se_var (sa_cons se_var (sa_cons se_var (sa_cons se_var sa_nil))))))
  (ss_ret (se_2 o_isNot (se_callD (sa_cons se_var (sa_cons se_var (sa_cons se_var (sa_cons se_var sa_nil))))) se_non)))⟩
theorem cal__changed (T : TX K mg) : CalG P w K mg base 1 d__changed [("setting" : Str), ("house" : Str), ("choice" : Str)] (spP K mg M__changed) := by
  obtain ⟨fd, F0⟩ := T.says.def_ (d := d__changed) (mem_at 38 rfl)
  have F : FunD K d__changed.name d__changed.qual d__changed.params d__changed.body d__changed.scope [] [] (He.fAd K d__changed.at_) fd := F0
  have B : Binds K fd [("setting" : Str), ("house" : Str), ("choice" : Str)] [] := F.bindsN fun _ _ _ _ _ _ us hl => match us, hl with | [_, _, _], _ => rfl
  have glo : mg d__changed.name = some (.ref (He.fAd K d__changed.at_)) := T.glo "_changed" (mem_at 38 rfl)
  refine ⟨⟨fd, F, ?_, B⟩, glo⟩
  refine fnP_ok F sc__changed (by decide) ?_
  intro cdv A outer s H E hgd hr
  exact ⟨_, (pss_one (ps_ret (pe_op op_add3 (pe_op op_add3 (pe_slice slr_2 (pv 0) po_none (po_some (pv 1))) (pe_tup (pa_cons (pv 2) pa_nil))) (pe_slice slr_2 (pv 0) (po_some (pe_op op_add3 (pv 1) pe_int)) po_none)))),
  (ss_ret (se_2 o_add (se_2 o_add (se_sl se_var so_none (so_some se_var)) (se_tup (sa_cons se_var sa_nil))) (se_sl se_var (so_some (se_2 o_add se_var se_int)) so_none)))⟩
theorem cal__is_change (T : TX K mg) : CalG P w K mg base 4 d__is_change [("sizes" : Str), ("setting" : Str), ("house" : Str), ("choice" : Str)] (spP K mg M__is_change) := by
  have c_is_number : CalG P w K mg base 3 d_is_number [("thing" : Str)] (spP K mg M_is_number) := cal_is_number T
  have f_len : mg "len" = none := T.free "len" (mem_at 57 rfl)
  obtain ⟨fd, F0⟩ := T.says.def_ (d := d__is_change) (mem_at 39 rfl)
  have F : FunD K d__is_change.name d__is_change.qual d__is_change.params d__is_change.body d__is_change.scope [] [] (He.fAd K d__is_change.at_) fd := F0
  have B : Binds K fd [("sizes" : Str), ("setting" : Str), ("house" : Str), ("choice" : Str)] [] := F.bindsN fun _ _ _ _ _ _ us hl => match us, hl with | [_, _, _, _], _ => rfl
  have glo : mg d__is_change.name = some (.ref (He.fAd K d__is_change.at_)) := T.glo "_is_change" (mem_at 39 rfl)
  refine ⟨⟨fd, F, ?_, B⟩, glo⟩
  refine fnP_ok F sc__is_change (by decide) ?_
  intro cdv A outer s H E hgd hr
  exact ⟨_, (pss_cons (ps_if (PW.pt (pw_or (pt_not (pt_truth (pe_cal c_is_number hgd hr (by decide) (passE (takes_of rfl rfl rfl rfl)) (pa_cons (pv 2) pa_nil)) fun _ => rfl)) (pw_or (pt_cmpR (op_geG (room65 hr)) (pv 2) (pe_callB call_len_seq (by rfl) (by exact f_len) (by decide +kernel) (pa_cons (pv 0) pa_nil)) (nomark _)) (pw_or1 (pt_not (pt_truth (pe_cal c_is_number hgd hr (by decide) (passE (takes_of rfl rfl rfl rfl)) (pa_cons (pv 3) pa_nil)) fun _ => rfl)))))) (pss_one (ps_ret pe_bl)) pss_nil)
  (pss_one (ps_ret (pe_and (pe_cmpR (op_ltG (room65 hr)) (pv 3) (pe_ix ix_seq (pv 0) (pv 2) fun _ _ => rfl) (nomark _)) (pe_one (pe_cmpR (op_neG (room65 hr)) (pv 3) (pe_ix ix_seq (pv 1) (pv 2) fun _ _ => rfl) (nomark _))))))),
  (ss_seq (ss_if (st_or (st_not (st_tru (se_callD (sa_cons se_var sa_nil)))) (st_or (st_test (se_2 o_ge se_var (se_n o_len (sa_cons se_var sa_nil)))) (st_not (st_tru (se_callD (sa_cons se_var sa_nil)))))) (ss_ret se_bl) ss_next)
  (ss_ret (se_and (se_2 o_lt se_var (se_2 o_ix se_var se_var)) (se_2 o_ne se_var (se_2 o_ix se_var se_var)))))⟩
theorem cal_setting_fits (T : TX K mg) : CalG P w K mg base 3 d_setting_fits [("sizes" : Str), ("thing" : Str)] (spP K mg M_setting_fits) := by
  have c_number_fits : CalG P w K mg base 2 d_number_fits [("thing" : Str)] (spP K mg M_number_fits) := cal_number_fits T
  have f_all : mg "all" = none := T.free "all" (mem_at 53 rfl)
  have f_isinstance : mg "isinstance" = none := T.free "isinstance" (mem_at 56 rfl)
  have f_len : mg "len" = none := T.free "len" (mem_at 57 rfl)
  have f_tuple : mg "tuple" = none := T.free "tuple" (mem_at 65 rfl)
  have f_zip : mg "zip" = none := T.free "zip" (mem_at 66 rfl)
  obtain ⟨fd, F0⟩ := T.says.def_ (d := d_setting_fits) (mem_at 40 rfl)
  have F : FunD K d_setting_fits.name d_setting_fits.qual d_setting_fits.params d_setting_fits.body d_setting_fits.scope [] [] (He.fAd K d_setting_fits.at_) fd := F0
  have B : Binds K fd [("sizes" : Str), ("thing" : Str)] [] := F.bindsN fun _ _ _ _ _ _ us hl => match us, hl with | [_, _], _ => rfl
  have glo : mg d_setting_fits.name = some (.ref (He.fAd K d_setting_fits.at_)) := T.glo "setting_fits" (mem_at 40 rfl)
  refine ⟨⟨fd, F, ?_, B⟩, glo⟩
  refine fnP_ok F sc_setting_fits (by decide) ?_
  intro cdv A outer s H E hgd hr
  exact ⟨_, (pss_cons (ps_if (PW.pt (pw_or (pt_not (pt_truth (pe_callB call_isi (by rfl) (by exact f_isinstance) boot_isinstance (pa_cons (pv 1) (pa_cons (pe_bltn (v := .ty (Ty.nm .tup)) (by rfl) (by exact f_tuple) (by decide +kernel) rfl) pa_nil))) fun _ => rfl)) (pw_or1 (pt_cmpR (op_neG (room65 hr)) (pe_callB call_len_seq (by rfl) (by exact f_len) (by decide +kernel) (pa_cons (pv 1) pa_nil)) (pe_callB call_len_seq (by rfl) (by exact f_len) (by decide +kernel) (pa_cons (pv 0) pa_nil)) (nomark _))))) (pss_one (ps_ret pe_bl)) pss_nil)
  (pss_one (ps_ret (pe_callB (cr_all (by rfl)) (by rfl) (by exact f_all) (by decide +kernel) (pa_cons (pe_lc (own := [(("choice" : Str), 2), (("size" : Str), 3)]) (g := gTup K 2 (gCons (gName 2) (gCons (gName 3) gNil))) rfl sc_setting_fits.nd (RZ.pi_zipA (by rfl) (by exact f_zip) (pa_cons (pv 1) (pa_cons (pv 0) pa_nil))) (blkOk_by (own := [(("choice" : Str), 2), (("size" : Str), 3)]) (N := N_setting_fits) (sc := d_setting_fits.scope) (by decide +kernel)) (fun _ _ _ _ _ => pg_tup rfl (pgs_cons (pg_name (i := 2) sc_setting_fits.nd rfl (by first | exact Or.inl rfl | exact Or.inr rfl)) (pgs_cons (pg_name (i := 3) sc_setting_fits.nd rfl (by first | exact Or.inl rfl | exact Or.inr rfl)) pgs_nil))) (fun _ _ _ _ _ => pts_nil) (fun _ _ _ _ _ => (pe_and (pe_cal c_number_fits hgd hr (by decide) passF (pa_cons (pv 2) pa_nil)) (pe_one (pe_cmpR (op_ltG (room65 hr)) (pv 2) (pv 3) (nomark _)))))) pa_nil))))),
  (ss_seq (ss_if (st_or (st_not (st_tru (se_isi .tup se_var))) (st_test (se_2 o_ne (se_n o_len (sa_cons se_var sa_nil)) (se_n o_len (sa_cons se_var sa_nil))))) (ss_ret se_bl) ss_next)
  (ss_ret (se_n o_all (sa_cons (se_l (sl_lc (si_zip (sa_cons se_var (sa_cons se_var sa_nil))) (by decide) (sg_tup rfl (sgs_cons (sgs_cons sgs_nil))) st_yes (se_and (se_callD (sa_cons se_var sa_nil)) (se_2 o_lt se_var se_var)))) sa_nil))))⟩
theorem cal_is_setting (T : TX K mg) : CalG P w K mg base 4 d_is_setting [("sizes" : Str), ("thing" : Str)] (spP K mg M_is_setting) := by
  have c_a_want : CalG P w K mg base 3 d_a_want [("good" : Str), ("word" : Str)] (spP K mg M_a_want) := cal_a_want T
  have c_setting_fits : CalG P w K mg base 3 d_setting_fits [("sizes" : Str), ("thing" : Str)] (spP K mg M_setting_fits) := cal_setting_fits T
  have c_sizes_fit : CalG P w K mg base 3 d_sizes_fit [("thing" : Str)] (spP K mg M_sizes_fit) := cal_sizes_fit T
  obtain ⟨fd, F0⟩ := T.says.def_ (d := d_is_setting) (mem_at 41 rfl)
  have F : FunD K d_is_setting.name d_is_setting.qual d_is_setting.params d_is_setting.body d_is_setting.scope [] [] (He.fAd K d_is_setting.at_) fd := F0
  have B : Binds K fd [("sizes" : Str), ("thing" : Str)] [] := F.bindsN fun _ _ _ _ _ _ us hl => match us, hl with | [_, _], _ => rfl
  have glo : mg d_is_setting.name = some (.ref (He.fAd K d_is_setting.at_)) := T.glo "is_setting" (mem_at 41 rfl)
  refine ⟨⟨fd, F, ?_, B⟩, glo⟩
  refine fnP_ok F sc_is_setting (by decide) ?_
  intro cdv A outer s H E hgd hr
  exact ⟨_, (pss_cons (ps_expr (pe_cal c_a_want hgd hr (by decide) (passE (takes_of rfl rfl rfl rfl)) (pa_cons (pe_cal c_sizes_fit hgd hr (by decide) (passE (takes_of rfl rfl rfl rfl)) (pa_cons (pv 0) pa_nil)) (pa_cons pe_str pa_nil))))
  (pss_one (ps_ret (pe_cal c_setting_fits hgd hr (by decide) (passE (takes_of rfl rfl rfl rfl)) (pa_cons (pv 0) (pa_cons (pv 1) pa_nil)))))),
  (ss_seq (ss_drop (se_callD (sa_cons (se_callD (sa_cons se_var sa_nil)) (sa_cons se_str sa_nil))))
  (ss_ret (se_callD (sa_cons se_var (sa_cons se_var sa_nil)))))⟩
theorem cal_is_four (T : TX K mg) : CalG P w K mg base 5 d_is_four [("sizes" : Str), ("thing" : Str)] (spP K mg M_is_four) := by
  have c_a_want : CalG P w K mg base 3 d_a_want [("good" : Str), ("word" : Str)] (spP K mg M_a_want) := cal_a_want T
  have c_is_sizes : CalG P w K mg base 4 d_is_sizes [("thing" : Str)] (spP K mg M_is_sizes) := cal_is_sizes T
  have c__is_change : CalG P w K mg base 4 d__is_change [("sizes" : Str), ("setting" : Str), ("house" : Str), ("choice" : Str)] (spP K mg M__is_change) := cal__is_change T
  have c_is_setting : CalG P w K mg base 4 d_is_setting [("sizes" : Str), ("thing" : Str)] (spP K mg M_is_setting) := cal_is_setting T
  have f_isinstance : mg "isinstance" = none := T.free "isinstance" (mem_at 56 rfl)
  have f_len : mg "len" = none := T.free "len" (mem_at 57 rfl)
  have f_tuple : mg "tuple" = none := T.free "tuple" (mem_at 65 rfl)
  obtain ⟨fd, F0⟩ := T.says.def_ (d := d_is_four) (mem_at 42 rfl)
  have F : FunD K d_is_four.name d_is_four.qual d_is_four.params d_is_four.body d_is_four.scope [] [] (He.fAd K d_is_four.at_) fd := F0
  have B : Binds K fd [("sizes" : Str), ("thing" : Str)] [] := F.bindsN fun _ _ _ _ _ _ us hl => match us, hl with | [_, _], _ => rfl
  have glo : mg d_is_four.name = some (.ref (He.fAd K d_is_four.at_)) := T.glo "is_four" (mem_at 42 rfl)
  refine ⟨⟨fd, F, ?_, B⟩, glo⟩
  refine fnP_ok F sc_is_four (by decide) ?_
  intro cdv A outer s H E hgd hr
  exact ⟨_, (pss_cons (ps_expr (pe_cal c_a_want hgd hr (by decide) (passE (takes_of rfl rfl rfl rfl)) (pa_cons (pe_cal c_is_sizes hgd hr (by decide) (passE (takes_of rfl rfl rfl rfl)) (pa_cons (pv 0) pa_nil)) (pa_cons pe_str pa_nil))))
  (pss_cons (ps_if (PW.pt (pw_or (pt_not (pt_truth (pe_callB call_isi (by rfl) (by exact f_isinstance) boot_isinstance (pa_cons (pv 1) (pa_cons (pe_bltn (v := .ty (Ty.nm .tup)) (by rfl) (by exact f_tuple) (by decide +kernel) rfl) pa_nil))) fun _ => rfl)) (pw_or (pt_cmpR (op_neG (room65 hr)) (pe_callB call_len_seq (by rfl) (by exact f_len) (by decide +kernel) (pa_cons (pv 1) pa_nil)) pe_int (nomark _)) (pw_or1 (pt_not (pt_truth (pe_cal c_is_setting hgd hr (by decide) (passE (takes_of rfl rfl rfl rfl)) (pa_cons (pv 0) (pa_cons (pe_ix ix_seq (pv 1) pe_int fun _ _ => rfl) pa_nil))) fun _ => rfl)))))) (pss_one (ps_ret pe_bl)) pss_nil)
  (pss_cons (ps_asg (pv 1) (pg_tup rfl (pgs_cons (pg_name (i := 2) sc_is_four.nd rfl (Or.inl rfl)) (pgs_cons (pg_name (i := 3) sc_is_four.nd rfl (Or.inl rfl)) (pgs_cons (pg_name (i := 4) sc_is_four.nd rfl (Or.inl rfl)) (pgs_cons (pg_name (i := 5) sc_is_four.nd rfl (Or.inl rfl)) (pgs_cons (pg_name (i := 6) sc_is_four.nd rfl (Or.inl rfl)) pgs_nil)))))))
  (pss_one (ps_ret (pe_and (pe_cal c__is_change hgd hr (by decide) (passE (takes_of rfl rfl rfl rfl)) (pa_cons (pv 0) (pa_cons (pv 2) (pa_cons (pv 3) (pa_cons (pv 4) pa_nil))))) (pe_and (pe_cal c__is_change hgd hr (by decide) (passE (takes_of rfl rfl rfl rfl)) (pa_cons (pv 0) (pa_cons (pv 2) (pa_cons (pv 5) (pa_cons (pv 6) pa_nil))))) (pe_one (pe_cmpR (op_neG (room65 hr)) (pv 3) (pv 5) (nomark _)))))))))),
  (ss_seq (ss_drop (se_callD (sa_cons (se_callD (sa_cons se_var sa_nil)) (sa_cons se_str sa_nil))))
  (ss_seq (ss_if (st_or (st_not (st_tru (se_isi .tup se_var))) (st_or (st_test (se_2 o_ne (se_n o_len (sa_cons se_var sa_nil)) se_int)) (st_not (st_tru (se_callD (sa_cons se_var (sa_cons (se_2 o_ix se_var se_int) sa_nil))))))) (ss_ret se_bl) ss_next)
  (ss_seq (ss_asg se_var (sg_tup rfl (sgs_cons (sgs_cons (sgs_cons (sgs_cons (sgs_cons sgs_nil)))))))
  (ss_ret (se_and (se_callD (sa_cons se_var (sa_cons se_var (sa_cons se_var (sa_cons se_var sa_nil))))) (se_and (se_callD (sa_cons se_var (sa_cons se_var (sa_cons se_var (sa_cons se_var sa_nil))))) (se_2 o_ne se_var se_var)))))))⟩
theorem cal_four_settings (T : TX K mg) : CalG P w K mg base 6 d_four_settings [("sizes" : Str), ("four" : Str)] (spP K mg M_four_settings) := by
  have c_a_want : CalG P w K mg base 3 d_a_want [("good" : Str), ("word" : Str)] (spP K mg M_a_want) := cal_a_want T
  have c__changed : CalG P w K mg base 1 d__changed [("setting" : Str), ("house" : Str), ("choice" : Str)] (spP K mg M__changed) := cal__changed T
  have c_is_sizes : CalG P w K mg base 4 d_is_sizes [("thing" : Str)] (spP K mg M_is_sizes) := cal_is_sizes T
  have c_is_four : CalG P w K mg base 5 d_is_four [("sizes" : Str), ("thing" : Str)] (spP K mg M_is_four) := cal_is_four T
  obtain ⟨fd, F0⟩ := T.says.def_ (d := d_four_settings) (mem_at 43 rfl)
  have F : FunD K d_four_settings.name d_four_settings.qual d_four_settings.params d_four_settings.body d_four_settings.scope [] [] (He.fAd K d_four_settings.at_) fd := F0
  have B : Binds K fd [("sizes" : Str), ("four" : Str)] [] := F.bindsN fun _ _ _ _ _ _ us hl => match us, hl with | [_, _], _ => rfl
  have glo : mg d_four_settings.name = some (.ref (He.fAd K d_four_settings.at_)) := T.glo "four_settings" (mem_at 43 rfl)
  refine ⟨⟨fd, F, ?_, B⟩, glo⟩
  refine fnP_ok F sc_four_settings (by decide) ?_
  intro cdv A outer s H E hgd hr
  exact ⟨_, (pss_cons (ps_expr (pe_cal c_a_want hgd hr (by decide) (passE (takes_of rfl rfl rfl rfl)) (pa_cons (pe_cal c_is_sizes hgd hr (by decide) (passE (takes_of rfl rfl rfl rfl)) (pa_cons (pv 0) pa_nil)) (pa_cons pe_str pa_nil))))
  (pss_cons (ps_expr (pe_cal c_a_want hgd hr (by decide) (passE (takes_of rfl rfl rfl rfl)) (pa_cons (pe_cal c_is_four hgd hr (by decide) (passE (takes_of rfl rfl rfl rfl)) (pa_cons (pv 0) (pa_cons (pv 1) pa_nil))) (pa_cons pe_str pa_nil))))
  (pss_cons (ps_asg (pv 1) (pg_tup rfl (pgs_cons (pg_name (i := 3) sc_four_settings.nd rfl (Or.inl rfl)) (pgs_cons (pg_name (i := 4) sc_four_settings.nd rfl (Or.inl rfl)) (pgs_cons (pg_name (i := 5) sc_four_settings.nd rfl (Or.inl rfl)) (pgs_cons (pg_name (i := 6) sc_four_settings.nd rfl (Or.inl rfl)) (pgs_cons (pg_name (i := 7) sc_four_settings.nd rfl (Or.inl rfl)) pgs_nil)))))))
  (pss_cons (ps_set (i := 2) sc_four_settings.nd rfl (Or.inl rfl) (pe_cal c__changed hgd hr (by decide) (passE (takes_of rfl rfl rfl rfl)) (pa_cons (pv 3) (pa_cons (pv 4) (pa_cons (pv 5) pa_nil)))))
  (pss_one (ps_ret (pe_tup (pa_cons (pv 3) (pa_cons (pv 2) (pa_cons (pe_cal c__changed hgd hr (by decide) (passE (takes_of rfl rfl rfl rfl)) (pa_cons (pv 3) (pa_cons (pv 6) (pa_cons (pv 7) pa_nil)))) (pa_cons (pe_cal c__changed hgd hr (by decide) (passE (takes_of rfl rfl rfl rfl)) (pa_cons (pv 2) (pa_cons (pv 6) (pa_cons (pv 7) pa_nil)))) pa_nil))))))))))),
  (ss_seq (ss_drop (se_callD (sa_cons (se_callD (sa_cons se_var sa_nil)) (sa_cons se_str sa_nil))))
  (ss_seq (ss_drop (se_callD (sa_cons (se_callD (sa_cons se_var (sa_cons se_var sa_nil))) (sa_cons se_str sa_nil))))
  (ss_seq (ss_asg se_var (sg_tup rfl (sgs_cons (sgs_cons (sgs_cons (sgs_cons (sgs_cons sgs_nil)))))))
  (ss_seq (ss_asg (se_callD (sa_cons se_var (sa_cons se_var (sa_cons se_var sa_nil)))) sg_name)
  (ss_ret (se_tup (sa_cons se_var (sa_cons se_var (sa_cons (se_callD (sa_cons se_var (sa_cons se_var (sa_cons se_var sa_nil)))) (sa_cons (se_callD (sa_cons se_var (sa_cons se_var (sa_cons se_var sa_nil)))) sa_nil))))))))))⟩
theorem cal_place_by (T : TX K mg) : CalG P w K mg base 1 d_place_by [("sizes" : Str), ("setting" : Str)] (spP K mg M_place_by) := by
  have f_len : mg "len" = none := T.free "len" (mem_at 57 rfl)
  have f_range : mg "range" = none := T.free "range" (mem_at 61 rfl)
  obtain ⟨fd, F0⟩ := T.says.def_ (d := d_place_by) (mem_at 44 rfl)
  have F : FunD K d_place_by.name d_place_by.qual d_place_by.params d_place_by.body d_place_by.scope [] [] (He.fAd K d_place_by.at_) fd := F0
  have B : Binds K fd [("sizes" : Str), ("setting" : Str)] [] := F.bindsN fun _ _ _ _ _ _ us hl => match us, hl with | [_, _], _ => rfl
  have glo : mg d_place_by.name = some (.ref (He.fAd K d_place_by.at_)) := T.glo "place_by" (mem_at 44 rfl)
  refine ⟨⟨fd, F, ?_, B⟩, glo⟩
  refine fnP_ok F sc_place_by (by decide) ?_
  intro cdv A outer s H E hgd hr
  exact ⟨_, (pss_cons (ps_set (i := 2) sc_place_by.nd rfl (Or.inl rfl) pe_int)
  (pss_cons (ps_for (passes_of rfl) rfl (pi_range1 (by rfl) (by exact f_range) (pa_cons (pe_callB call_len_seq (by rfl) (by exact f_len) (by decide +kernel) (pa_cons (pv 0) pa_nil)) pa_nil)) (pg_name (i := 3) sc_place_by.nd rfl (Or.inl rfl)) (pss_one (ps_set (i := 2) sc_place_by.nd rfl (Or.inl rfl) (pe_op op_add3 (pe_op op_mulX (pv 2) (pe_ix ix_seq (pv 0) (pv 3) fun _ _ => rfl)) (pe_ix ix_seq (pv 1) (pv 3) fun _ _ => rfl)))))
  (pss_one (ps_ret (pv 2))))),
  (ss_seq (ss_asg se_int sg_name)
  (ss_seq (ss_for (si_rng1 (sa_cons (se_n o_len (sa_cons se_var sa_nil)) sa_nil)) sg_name (ss_asg (se_2 o_add (se_2 o_mul se_var (se_2 o_ix se_var se_var)) (se_2 o_ix se_var se_var)) sg_name))
  (ss_ret se_var)))⟩
theorem cal_is_odd (T : TX K mg) : CalG P w K mg base 7 d_is_odd [("sizes" : Str), ("table" : Str), ("four" : Str)] (spP K mg M_is_odd) := by
  have c_a_want : CalG P w K mg base 3 d_a_want [("good" : Str), ("word" : Str)] (spP K mg M_a_want) := cal_a_want T
  have c_four_settings : CalG P w K mg base 6 d_four_settings [("sizes" : Str), ("four" : Str)] (spP K mg M_four_settings) := cal_four_settings T
  have c_is_sizes : CalG P w K mg base 4 d_is_sizes [("thing" : Str)] (spP K mg M_is_sizes) := cal_is_sizes T
  have c_is_table : CalG P w K mg base 5 d_is_table [("sizes" : Str), ("thing" : Str)] (spP K mg M_is_table) := cal_is_table T
  have c_is_four : CalG P w K mg base 5 d_is_four [("sizes" : Str), ("thing" : Str)] (spP K mg M_is_four) := cal_is_four T
  have c_place_by : CalG P w K mg base 1 d_place_by [("sizes" : Str), ("setting" : Str)] (spP K mg M_place_by) := cal_place_by T
  obtain ⟨fd, F0⟩ := T.says.def_ (d := d_is_odd) (mem_at 45 rfl)
  have F : FunD K d_is_odd.name d_is_odd.qual d_is_odd.params d_is_odd.body d_is_odd.scope [] [] (He.fAd K d_is_odd.at_) fd := F0
  have B : Binds K fd [("sizes" : Str), ("table" : Str), ("four" : Str)] [] := F.bindsN fun _ _ _ _ _ _ us hl => match us, hl with | [_, _, _], _ => rfl
  have glo : mg d_is_odd.name = some (.ref (He.fAd K d_is_odd.at_)) := T.glo "is_odd" (mem_at 45 rfl)
  refine ⟨⟨fd, F, ?_, B⟩, glo⟩
  refine fnP_ok F sc_is_odd (by decide) ?_
  intro cdv A outer s H E hgd hr
  exact ⟨_, (pss_cons (ps_expr (pe_cal c_a_want hgd hr (by decide) (passE (takes_of rfl rfl rfl rfl)) (pa_cons (pe_cal c_is_sizes hgd hr (by decide) (passE (takes_of rfl rfl rfl rfl)) (pa_cons (pv 0) pa_nil)) (pa_cons pe_str pa_nil))))
  (pss_cons (ps_expr (pe_cal c_a_want hgd hr (by decide) (passE (takes_of rfl rfl rfl rfl)) (pa_cons (pe_cal c_is_table hgd hr (by decide) (passE (takes_of rfl rfl rfl rfl)) (pa_cons (pv 0) (pa_cons (pv 1) pa_nil))) (pa_cons pe_str pa_nil))))
  (pss_cons (ps_expr (pe_cal c_a_want hgd hr (by decide) (passE (takes_of rfl rfl rfl rfl)) (pa_cons (pe_cal c_is_four hgd hr (by decide) (passE (takes_of rfl rfl rfl rfl)) (pa_cons (pv 0) (pa_cons (pv 2) pa_nil))) (pa_cons pe_str pa_nil))))
  (pss_cons (ps_set (i := 3) sc_is_odd.nd rfl (Or.inl rfl) pe_int)
  (pss_cons (ps_for (passes_of rfl) rfl (pi_seq (pe_cal c_four_settings hgd hr (by decide) (passE (takes_of rfl rfl rfl rfl)) (pa_cons (pv 0) (pa_cons (pv 2) pa_nil)))) (pg_name (i := 4) sc_is_odd.nd rfl (Or.inl rfl)) (pss_one (ps_set (i := 3) sc_is_odd.nd rfl (Or.inl rfl) (pe_op op_xor (pv 3) (pe_ix ix_seq (pv 1) (pe_cal c_place_by hgd hr (by decide) (passE (takes_of rfl rfl rfl rfl)) (pa_cons (pv 0) (pa_cons (pv 4) pa_nil))) fun _ _ => rfl)))))
  (pss_one (ps_ret (pe_cmpR (op_eqG (room65 hr)) (pv 3) pe_int (nomark _))))))))),
  (ss_seq (ss_drop (se_callD (sa_cons (se_callD (sa_cons se_var sa_nil)) (sa_cons se_str sa_nil))))
  (ss_seq (ss_drop (se_callD (sa_cons (se_callD (sa_cons se_var (sa_cons se_var sa_nil))) (sa_cons se_str sa_nil))))
  (ss_seq (ss_drop (se_callD (sa_cons (se_callD (sa_cons se_var (sa_cons se_var sa_nil))) (sa_cons se_str sa_nil))))
  (ss_seq (ss_asg se_int sg_name)
  (ss_seq (ss_for (si_seq (se_callD (sa_cons se_var (sa_cons se_var sa_nil)))) sg_name (ss_asg (se_2 o_xor se_var (se_2 o_ix se_var (se_callD (sa_cons se_var (sa_cons se_var sa_nil))))) sg_name))
  (ss_ret (se_2 o_eq se_var se_int)))))))⟩
theorem cal__law_four_right (T : TX K mg) : CalG P w K mg base 8 d__law_four_right [("_law_s" : Str), ("_law_t" : Str), ("_law_i" : Str), ("_law_j" : Str), ("_law_told" : Str)] (spP K mg M__law_four_right) := by
  have c__law_steps : CalG P w K mg base 1 d__law_steps [("_law_s" : Str)] (spP K mg M__law_steps) := cal__law_steps T
  have c__law_on : CalG P w K mg base 1 d__law_on [("_law_s" : Str), ("_law_steps_here" : Str), ("_law_l" : Str), ("_law_x" : Str)] (spP K mg M__law_on) := cal__law_on T
  have c__law_odd_sum : CalG P w K mg base 1 d__law_odd_sum [("_law_t" : Str), ("_law_p" : Str), ("_law_up" : Str), ("_law_across" : Str)] (spP K mg M__law_odd_sum) := cal__law_odd_sum T
  have c__law_same : CalG P w K mg base 6 d__law_same [("_law_a" : Str), ("_law_b" : Str)] (spP K mg M__law_same) := cal__law_same T
  have c_is_odd : CalG P w K mg base 7 d_is_odd [("sizes" : Str), ("table" : Str), ("four" : Str)] (spP K mg M_is_odd) := cal_is_odd T
  have f_bool : mg "bool" = none := T.free "bool" (mem_at 54 rfl)
  have f_int : mg "int" = none := T.free "int" (mem_at 55 rfl)
  have f_isinstance : mg "isinstance" = none := T.free "isinstance" (mem_at 56 rfl)
  have f_len : mg "len" = none := T.free "len" (mem_at 57 rfl)
  have f_list : mg "list" = none := T.free "list" (mem_at 58 rfl)
  have f_range : mg "range" = none := T.free "range" (mem_at 61 rfl)
  have f_tuple : mg "tuple" = none := T.free "tuple" (mem_at 65 rfl)
  obtain ⟨fd, F0⟩ := T.says.def_ (d := d__law_four_right) (mem_at 46 rfl)
  have F : FunD K d__law_four_right.name d__law_four_right.qual d__law_four_right.params d__law_four_right.body d__law_four_right.scope [] [] (He.fAd K d__law_four_right.at_) fd := F0
  have B : Binds K fd [("_law_s" : Str), ("_law_t" : Str), ("_law_i" : Str), ("_law_j" : Str), ("_law_told" : Str)] [] := F.bindsN fun _ _ _ _ _ _ us hl => match us, hl with | [_, _, _, _, _], _ => rfl
  have glo : mg d__law_four_right.name = some (.ref (He.fAd K d__law_four_right.at_)) := T.glo "_law_four_right" (mem_at 46 rfl)
  refine ⟨⟨fd, F, ?_, B⟩, glo⟩
  refine fnP_ok F sc__law_four_right (by decide) ?_
  intro cdv A outer s H E hgd hr
  exact ⟨_, (pss_cons (ps_if (PW.pt (pw_or (pt_not (pt_truth (pe_callB call_isi (by rfl) (by exact f_isinstance) boot_isinstance (pa_cons (pv 4) (pa_cons (pe_bltn (v := .ty (Ty.nm .tup)) (by rfl) (by exact f_tuple) (by decide +kernel) rfl) pa_nil))) fun _ => rfl)) (pw_or (pt_cmpR (op_neG (room65 hr)) (pe_callB call_len_seq (by rfl) (by exact f_len) (by decide +kernel) (pa_cons (pv 4) pa_nil)) pe_int (nomark _)) (pw_or (pt_not (pt_truth (pe_callB call_isi (by rfl) (by exact f_isinstance) boot_isinstance (pa_cons (pe_ix ix_seq (pv 4) pe_int fun _ _ => rfl) (pa_cons (pe_bltn (v := .ty (Ty.nm .tup)) (by rfl) (by exact f_tuple) (by decide +kernel) rfl) pa_nil))) fun _ => rfl)) (pw_or1 (pt_cmpR (op_neG (room65 hr)) (pe_callB call_len_seq (by rfl) (by exact f_len) (by decide +kernel) (pa_cons (pe_ix ix_seq (pv 4) pe_int fun _ _ => rfl) pa_nil)) (pe_callB call_len_seq (by rfl) (by exact f_len) (by decide +kernel) (pa_cons (pv 0) pa_nil)) (nomark _))))))) (pss_one (ps_ret pe_bl)) pss_nil)
  (pss_cons (ps_if (PW.pt (pw_or (pt_not (pt_truth (pe_cal c__law_same hgd hr (by decide) (passE (takes_of rfl rfl rfl rfl)) (pa_cons (pe_ix ix_seq (pv 4) pe_int fun _ _ => rfl) (pa_cons (pv 2) pa_nil))) fun _ => rfl)) (pw_or1 (pt_not (pt_truth (pe_cal c__law_same hgd hr (by decide) (passE (takes_of rfl rfl rfl rfl)) (pa_cons (pe_ix ix_seq (pv 4) pe_int fun _ _ => rfl) (pa_cons (pv 3) pa_nil))) fun _ => rfl))))) (pss_one (ps_ret pe_bl)) pss_nil)
  (pss_cons (ps_for (passes_of rfl) rfl (pi_range1 (by rfl) (by exact f_range) (pa_cons (pe_callB call_len_seq (by rfl) (by exact f_len) (by decide +kernel) (pa_cons (pv 0) pa_nil)) pa_nil)) (pg_name (i := 5) sc__law_four_right.nd rfl (Or.inl rfl)) (pss_cons (ps_set (i := 10) sc__law_four_right.nd rfl (Or.inl rfl) (pe_ix ix_seq (pe_ix ix_seq (pv 4) pe_int fun _ _ => rfl) (pv 5) fun _ _ => rfl))
  (pss_one (ps_if (PW.pt (pw_or (pt_not (pt_truth (pe_callB call_isi (by rfl) (by exact f_isinstance) boot_isinstance (pa_cons (pv 10) (pa_cons (pe_bltn (v := .ty (Ty.nm .int)) (by rfl) (by exact f_int) (by decide +kernel) rfl) pa_nil))) fun _ => rfl)) (pw_or (pt_truth (pe_callB call_isi (by rfl) (by exact f_isinstance) boot_isinstance (pa_cons (pv 10) (pa_cons (pe_bltn (v := .ty (Ty.nm .bool)) (by rfl) (by exact f_bool) (by decide +kernel) rfl) pa_nil))) fun _ => rfl) (pw_or (pt_cmpR (op_ltG (room65 hr)) (pv 10) pe_int (nomark _)) (pw_or1 (pt_cmpR (op_geG (room65 hr)) (pv 10) (pe_ix ix_seq (pv 0) (pv 5) fun _ _ => rfl) (nomark _))))))) (pss_one (ps_ret pe_bl)) pss_nil))))
  (pss_cons (ps_for (passes_of rfl) rfl (pi_seq (pe_tup (pa_cons (pe_tup (pa_cons (pv 2) (pa_cons (pe_ix ix_seq (pv 4) pe_int fun _ _ => rfl) pa_nil))) (pa_cons (pe_tup (pa_cons (pv 3) (pa_cons (pe_ix ix_seq (pv 4) pe_int fun _ _ => rfl) pa_nil))) pa_nil)))) (pg_tup rfl (pgs_cons (pg_name (i := 11) sc__law_four_right.nd rfl (Or.inl rfl)) (pgs_cons (pg_name (i := 10) sc__law_four_right.nd rfl (Or.inl rfl)) pgs_nil))) (pss_one (ps_if (PW.pt (pw_or (pt_not (pt_truth (pe_callB call_isi (by rfl) (by exact f_isinstance) boot_isinstance (pa_cons (pv 10) (pa_cons (pe_bltn (v := .ty (Ty.nm .int)) (by rfl) (by exact f_int) (by decide +kernel) rfl) pa_nil))) fun _ => rfl)) (pw_or (pt_truth (pe_callB call_isi (by rfl) (by exact f_isinstance) boot_isinstance (pa_cons (pv 10) (pa_cons (pe_bltn (v := .ty (Ty.nm .bool)) (by rfl) (by exact f_bool) (by decide +kernel) rfl) pa_nil))) fun _ => rfl) (pw_or (pt_cmpR (op_ltG (room65 hr)) (pv 10) pe_int (nomark _)) (pw_or (pt_cmpR (op_geG (room65 hr)) (pv 10) (pe_ix ix_seq (pv 0) (pv 11) fun _ _ => rfl) (nomark _)) (pw_or1 (pt_cmpR (op_eqG (room65 hr)) (pv 10) (pe_ix ix_seq (pe_ix ix_seq (pv 4) pe_int fun _ _ => rfl) (pv 11) fun _ _ => rfl) (nomark _)))))))) (pss_one (ps_ret pe_bl)) pss_nil)))
  (pss_cons (ps_set (i := 6) sc__law_four_right.nd rfl (Or.inl rfl) (pe_cal c__law_steps hgd hr (by decide) (passE (takes_of rfl rfl rfl rfl)) (pa_cons (pv 0) pa_nil)))
  (pss_cons (ps_set (i := 7) sc__law_four_right.nd rfl (Or.inl rfl) (pe_cal c__law_on hgd hr (by decide) (passE (takes_of rfl rfl rfl rfl)) (pa_cons (pv 0) (pa_cons (pv 6) (pa_cons (pe_listRg (by rfl) (by rfl) (by exact f_list) (prg_1 (by rfl) (by exact f_range) (pe_callB call_len_seq (by rfl) (by exact f_len) (by decide +kernel) (pa_cons (pv 0) pa_nil)))) (pa_cons (pe_ix ix_seq (pv 4) pe_int fun _ _ => rfl) pa_nil))))))
  (pss_cons (ps_set (i := 8) sc__law_four_right.nd rfl (Or.inl rfl) (pe_op op_mulX (pe_op op_sub (pe_ix ix_seq (pv 4) pe_int fun _ _ => rfl) (pe_ix ix_seq (pe_ix ix_seq (pv 4) pe_int fun _ _ => rfl) (pv 2) fun _ _ => rfl)) (pe_ix ix_seq (pv 6) (pv 2) fun _ _ => rfl)))
  (pss_cons (ps_set (i := 9) sc__law_four_right.nd rfl (Or.inl rfl) (pe_op op_mulX (pe_op op_sub (pe_ix ix_seq (pv 4) pe_int fun _ _ => rfl) (pe_ix ix_seq (pe_ix ix_seq (pv 4) pe_int fun _ _ => rfl) (pv 3) fun _ _ => rfl)) (pe_ix ix_seq (pv 6) (pv 3) fun _ _ => rfl)))
  (pss_one (ps_ret (pe_and (pe_cal c__law_odd_sum hgd hr (by decide) (passE (takes_of rfl rfl rfl rfl)) (pa_cons (pv 1) (pa_cons (pv 7) (pa_cons (pv 8) (pa_cons (pv 9) pa_nil))))) (pe_one (pe_cal c__law_same hgd hr (by decide) (passE (takes_of rfl rfl rfl rfl)) (pa_cons (pe_cal c_is_odd hgd hr (by decide) (passE (takes_of rfl rfl rfl rfl)) (pa_cons (pv 0) (pa_cons (pv 1) (pa_cons (pv 4) pa_nil)))) (pa_cons pe_bl pa_nil))))))))))))))),
  (ss_seq (ss_if (st_or (st_not (st_tru (se_isi .tup se_var))) (st_or (st_test (se_2 o_ne (se_n o_len (sa_cons se_var sa_nil)) se_int)) (st_or (st_not (st_tru (se_isi .tup (se_2 o_ix se_var se_int)))) (st_test (se_2 o_ne (se_n o_len (sa_cons (se_2 o_ix se_var se_int) sa_nil)) (se_n o_len (sa_cons se_var sa_nil))))))) (ss_ret se_bl) ss_next)
  (ss_seq (ss_if (st_or (st_not (st_tru (se_callD (sa_cons (se_2 o_ix se_var se_int) (sa_cons se_var sa_nil))))) (st_not (st_tru (se_callD (sa_cons (se_2 o_ix se_var se_int) (sa_cons se_var sa_nil)))))) (ss_ret se_bl) ss_next)
  (ss_seq (ss_for (si_rng1 (sa_cons (se_n o_len (sa_cons se_var sa_nil)) sa_nil)) sg_name (ss_seq (ss_asg (se_2 o_ix (se_2 o_ix se_var se_int) se_var) sg_name)
  (ss_if (st_or (st_not (st_tru (se_isi .int se_var))) (st_or (st_tru (se_isi .bool se_var)) (st_or (st_test (se_2 o_lt se_var se_int)) (st_test (se_2 o_ge se_var (se_2 o_ix se_var se_var)))))) (ss_ret se_bl) ss_next)))
  (ss_seq (ss_for (si_seq (se_tup (sa_cons (se_tup (sa_cons se_var (sa_cons (se_2 o_ix se_var se_int) sa_nil))) (sa_cons (se_tup (sa_cons se_var (sa_cons (se_2 o_ix se_var se_int) sa_nil))) sa_nil)))) (sg_tup rfl (sgs_cons (sgs_cons sgs_nil))) (ss_if (st_or (st_not (st_tru (se_isi .int se_var))) (st_or (st_tru (se_isi .bool se_var)) (st_or (st_test (se_2 o_lt se_var se_int)) (st_or (st_test (se_2 o_ge se_var (se_2 o_ix se_var se_var))) (st_test (se_2 o_eq se_var (se_2 o_ix (se_2 o_ix se_var se_int) se_var))))))) (ss_ret se_bl) ss_next))
  (ss_seq (ss_asg (se_callD (sa_cons se_var sa_nil)) sg_name)
  (ss_seq (ss_asg (se_callD (sa_cons se_var (sa_cons se_var (sa_cons (se_l (sl_lstR1 (se_n o_len (sa_cons se_var sa_nil)))) (sa_cons (se_2 o_ix se_var se_int) sa_nil))))) sg_name)
  (ss_seq (ss_asg (se_2 o_mul (se_2 o_sub (se_2 o_ix se_var se_int) (se_2 o_ix (se_2 o_ix se_var se_int) se_var)) (se_2 o_ix se_var se_var)) sg_name)
  (ss_seq (ss_asg (se_2 o_mul (se_2 o_sub (se_2 o_ix se_var se_int) (se_2 o_ix (se_2 o_ix se_var se_int) se_var)) (se_2 o_ix se_var se_var)) sg_name)
  (ss_ret (se_and (se_callD (sa_cons se_var (sa_cons se_var (sa_cons se_var (sa_cons se_var sa_nil))))) (se_callD (sa_cons (se_callD (sa_cons se_var (sa_cons se_var (sa_cons se_var sa_nil)))) (sa_cons se_bl sa_nil)))))))))))))⟩
theorem cal__law_pairs_right (T : TX K mg) : CalG P w K mg base 9 d__law_pairs_right [("_law_s" : Str), ("_law_t" : Str)] (spP K mg M__law_pairs_right) := by
  have c__law_classes : CalG P w K mg base 1 d__law_classes [("_law_n" : Str), ("_law_pairs" : Str)] (spP K mg M__law_classes) := cal__law_classes T
  have c__law_lots : CalG P w K mg base 1 d__law_lots [("_law_n" : Str)] (spP K mg M__law_lots) := cal__law_lots T
  have c__law_seam : CalG P w K mg base 2 d__law_seam [("_law_s" : Str), ("_law_t" : Str), ("_law_l" : Str)] (spP K mg M__law_seam) := cal__law_seam T
  have c__law_same : CalG P w K mg base 6 d__law_same [("_law_a" : Str), ("_law_b" : Str)] (spP K mg M__law_same) := cal__law_same T
  have c__law_knit : CalG P w K mg base 2 d__law_knit [("_law_s" : Str), ("_law_t" : Str), ("_law_i" : Str), ("_law_j" : Str)] (spP K mg M__law_knit) := cal__law_knit T
  have c_knit_pairs : CalG P w K mg base 6 d_knit_pairs [("sizes" : Str), ("table" : Str)] (spP K mg M_knit_pairs) := cal_knit_pairs T
  have c_clumps_of : CalG P w K mg base 7 d_clumps_of [("sizes" : Str), ("table" : Str)] (spP K mg M_clumps_of) := cal_clumps_of T
  have c_odd_four : CalG P w K mg base 7 d_odd_four [("sizes" : Str), ("table" : Str), ("one" : Str), ("other" : Str)] (spP K mg M_odd_four) := cal_odd_four T
  have c_is_seam : CalG P w K mg base 7 d_is_seam [("sizes" : Str), ("table" : Str), ("lot" : Str)] (spP K mg M_is_seam) := cal_is_seam T
  have c_are_knit : CalG P w K mg base 7 d_are_knit [("sizes" : Str), ("table" : Str), ("one" : Str), ("other" : Str)] (spP K mg M_are_knit) := cal_are_knit T
  have c__law_four_right : CalG P w K mg base 8 d__law_four_right [("_law_s" : Str), ("_law_t" : Str), ("_law_i" : Str), ("_law_j" : Str), ("_law_told" : Str)] (spP K mg M__law_four_right) := cal__law_four_right T
  have f_len : mg "len" = none := T.free "len" (mem_at 57 rfl)
  have f_range : mg "range" = none := T.free "range" (mem_at 61 rfl)
  have f_tuple : mg "tuple" = none := T.free "tuple" (mem_at 65 rfl)
  obtain ⟨fd, F0⟩ := T.says.def_ (d := d__law_pairs_right) (mem_at 47 rfl)
  have F : FunD K d__law_pairs_right.name d__law_pairs_right.qual d__law_pairs_right.params d__law_pairs_right.body d__law_pairs_right.scope [] [] (He.fAd K d__law_pairs_right.at_) fd := F0
  have B : Binds K fd [("_law_s" : Str), ("_law_t" : Str)] [] := F.bindsN fun _ _ _ _ _ _ us hl => match us, hl with | [_, _], _ => rfl
  have glo : mg d__law_pairs_right.name = some (.ref (He.fAd K d__law_pairs_right.at_)) := T.glo "_law_pairs_right" (mem_at 47 rfl)
  refine ⟨⟨fd, F, ?_, B⟩, glo⟩
  refine fnP_ok F sc__law_pairs_right (by decide) ?_
  intro cdv A outer s H E hgd hr
  exact ⟨_, (pss_cons (ps_set (i := 2) sc__law_pairs_right.nd rfl (Or.inl rfl) (pe_callB call_len_seq (by rfl) (by exact f_len) (by decide +kernel) (pa_cons (pv 0) pa_nil)))
  (pss_cons (ps_set (i := 3) sc__law_pairs_right.nd rfl (Or.inl rfl) (pe_lst pa_nil))
  (pss_cons (ps_for (passes_of rfl) rfl (pi_range1 (by rfl) (by exact f_range) (pa_cons (pv 2) pa_nil)) (pg_name (i := 4) sc__law_pairs_right.nd rfl (Or.inl rfl)) (pss_one (ps_for (passes_of rfl) rfl (pi_range1 (by rfl) (by exact f_range) (pa_cons (pv 2) pa_nil)) (pg_name (i := 7) sc__law_pairs_right.nd rfl (Or.inl rfl)) (pss_one (ps_if (pt_cmpR (op_ltG (room65 hr)) (pv 4) (pv 7) (nomark _)) (pss_cons (ps_set (i := 12) sc__law_pairs_right.nd rfl (Or.inl rfl) (pe_cal c__law_knit hgd hr (by decide) (passE (takes_of rfl rfl rfl rfl)) (pa_cons (pv 0) (pa_cons (pv 1) (pa_cons (pv 4) (pa_cons (pv 7) pa_nil))))))
  (pss_cons (ps_if (pt_truth (pv 12) fun _ => rfl) (pss_one (ps_expr (pe_bm PySem.F.plainAttrs_list PySem.F.slot_list_append PySem.F.type_list_append mt_append (pv 3) (pa_cons (pe_tup (pa_cons (pv 4) (pa_cons (pv 7) pa_nil))) pa_nil)))) pss_nil)
  (pss_one (ps_for (passes_of rfl) rfl (pi_seq (pe_tup (pa_cons (pe_tup (pa_cons (pv 4) (pa_cons (pv 7) pa_nil))) (pa_cons (pe_tup (pa_cons (pv 7) (pa_cons (pv 4) pa_nil))) pa_nil)))) (pg_tup rfl (pgs_cons (pg_name (i := 13) sc__law_pairs_right.nd rfl (Or.inl rfl)) (pgs_cons (pg_name (i := 14) sc__law_pairs_right.nd rfl (Or.inl rfl)) pgs_nil))) (pss_cons (ps_if (pt_not (pt_truth (pe_cal c__law_same hgd hr (by decide) (passE (takes_of rfl rfl rfl rfl)) (pa_cons (pe_cal c_are_knit hgd hr (by decide) (passE (takes_of rfl rfl rfl rfl)) (pa_cons (pv 0) (pa_cons (pv 1) (pa_cons (pv 13) (pa_cons (pv 14) pa_nil))))) (pa_cons (pv 12) pa_nil))) fun _ => rfl)) (pss_one (ps_ret pe_bl)) pss_nil)
  (pss_cons (ps_set (i := 15) sc__law_pairs_right.nd rfl (Or.inl rfl) (pe_cal c_odd_four hgd hr (by decide) (passE (takes_of rfl rfl rfl rfl)) (pa_cons (pv 0) (pa_cons (pv 1) (pa_cons (pv 13) (pa_cons (pv 14) pa_nil))))))
  (pss_cons (ps_if (PW.pt (pw_and (pt_not (pt_truth (pv 12) fun _ => rfl)) (pw_and1 (pt_cmpR op_isNotG (pv 15) pe_non (nomark _))))) (pss_one (ps_ret pe_bl)) pss_nil)
  (pss_one (ps_if (PW.pt (pw_and (pt_truth (pv 12) fun _ => rfl) (pw_and1 (pt_not (pt_truth (pe_cal c__law_four_right hgd hr (by decide) (passE (takes_of rfl rfl rfl rfl)) (pa_cons (pv 0) (pa_cons (pv 1) (pa_cons (pv 13) (pa_cons (pv 14) (pa_cons (pv 15) pa_nil)))))) fun _ => rfl))))) (pss_one (ps_ret pe_bl)) pss_nil))))))))) pss_nil)))))
  (pss_cons (ps_set (i := 5) sc__law_pairs_right.nd rfl (Or.inl rfl) (pe_cal c__law_classes hgd hr (by decide) (passE (takes_of rfl rfl rfl rfl)) (pa_cons (pv 2) (pa_cons (pv 3) pa_nil))))
  (pss_cons (ps_if (PW.pt (pw_or (pt_not (pt_truth (pe_cal c__law_same hgd hr (by decide) (passE (takes_of rfl rfl rfl rfl)) (pa_cons (pe_cal c_knit_pairs hgd hr (by decide) (passE (takes_of rfl rfl rfl rfl)) (pa_cons (pv 0) (pa_cons (pv 1) pa_nil))) (pa_cons (pe_callTy call_tuple_of (by rfl) (by exact f_tuple) (by decide +kernel) (pa_cons (pv 3) pa_nil)) pa_nil))) fun _ => rfl)) (pw_or1 (pt_not (pt_truth (pe_cal c__law_same hgd hr (by decide) (passE (takes_of rfl rfl rfl rfl)) (pa_cons (pe_cal c_clumps_of hgd hr (by decide) (passE (takes_of rfl rfl rfl rfl)) (pa_cons (pv 0) (pa_cons (pv 1) pa_nil))) (pa_cons (pv 5) pa_nil))) fun _ => rfl))))) (pss_one (ps_ret pe_bl)) pss_nil)
  (pss_cons (ps_for (passes_of rfl) rfl (pi_seq (pe_cal c__law_lots hgd hr (by decide) (passE (takes_of rfl rfl rfl rfl)) (pa_cons (pv 2) pa_nil))) (pg_name (i := 6) sc__law_pairs_right.nd rfl (Or.inr rfl)) (pss_cons (ps_set (i := 8) sc__law_pairs_right.nd rfl (Or.inl rfl) pe_int)
  (pss_cons (ps_for (passes_of rfl) rfl (pi_seq (pv 5)) (pg_name (i := 9) sc__law_pairs_right.nd rfl (Or.inl rfl)) (pss_cons (ps_set (i := 11) sc__law_pairs_right.nd rfl (Or.inl rfl) (pe_callB call_len_seq (by rfl) (by exact f_len) (by decide +kernel) (pa_cons (pe_lc (own := [(("_law_h" : Str), 16)]) (g := gName 16) rfl sc__law_pairs_right.nd (pi_seq (pv 9)) (blkOk_by (own := [(("_law_h" : Str), 16)]) (N := N__law_pairs_right) (sc := d__law_pairs_right.scope) (by decide +kernel)) (fun _ _ _ _ _ => pg_name (i := 16) sc__law_pairs_right.nd rfl (by first | exact Or.inl rfl | exact Or.inr rfl)) (fun _ _ _ _ _ => pts_one (pt_cmpR (op_inG (room65 hr)) (pv 16) (pv 6) (by with_unfolding_all rfl))) (fun _ _ _ _ _ => (pv 16))) pa_nil)))
  (pss_one (ps_if (pt_chain (op_ltG (room65 hr)) (op_ltG (room65 hr)) pe_int (pv 11) (pe_callB call_len_seq (by rfl) (by exact f_len) (by decide +kernel) (pa_cons (pv 9) pa_nil))) (pss_one (ps_set (i := 8) sc__law_pairs_right.nd rfl (Or.inl rfl) (pe_op op_add3 (pv 8) pe_int))) pss_nil))))
  (pss_cons (ps_set (i := 10) sc__law_pairs_right.nd rfl (Or.inl rfl) (pe_cal c__law_seam hgd hr (by decide) (passE (takes_of rfl rfl rfl rfl)) (pa_cons (pv 0) (pa_cons (pv 1) (pa_cons (pv 6) pa_nil)))))
  (pss_one (ps_if (PW.pt (pw_or (pt_cmpR (op_neG (room65 hr)) (pv 10) (pe_cmpR (op_eqG (room65 hr)) (pv 8) pe_int (nomark _)) (nomark _)) (pw_or1 (pt_not (pt_truth (pe_cal c__law_same hgd hr (by decide) (passE (takes_of rfl rfl rfl rfl)) (pa_cons (pe_cal c_is_seam hgd hr (by decide) (passE (takes_of rfl rfl rfl rfl)) (pa_cons (pv 0) (pa_cons (pv 1) (pa_cons (pv 6) pa_nil)))) (pa_cons (pv 10) pa_nil))) fun _ => rfl))))) (pss_one (ps_ret pe_bl)) pss_nil))))))
  (pss_one (ps_ret pe_bl)))))))),
  (ss_seq (ss_asg (se_n o_len (sa_cons se_var sa_nil)) sg_name)
  (ss_seq (ss_asgO (sl_lst sa_nil))
  (ss_seq (ss_for (si_rng1 (sa_cons se_var sa_nil)) sg_name (ss_for (si_rng1 (sa_cons se_var sa_nil)) sg_name (ss_if (st_test (se_2 o_lt se_var se_var)) (ss_seq (ss_asg (se_callD (sa_cons se_var (sa_cons se_var (sa_cons se_var (sa_cons se_var sa_nil))))) sg_name)
  (ss_seq (ss_if (st_tru se_var) (ss_app (se_tup (sa_cons se_var (sa_cons se_var sa_nil)))) ss_next)
  (ss_for (si_seq (se_tup (sa_cons (se_tup (sa_cons se_var (sa_cons se_var sa_nil))) (sa_cons (se_tup (sa_cons se_var (sa_cons se_var sa_nil))) sa_nil)))) (sg_tup rfl (sgs_cons (sgs_cons sgs_nil))) (ss_seq (ss_if (st_not (st_tru (se_callD (sa_cons (se_callD (sa_cons se_var (sa_cons se_var (sa_cons se_var (sa_cons se_var sa_nil))))) (sa_cons se_var sa_nil))))) (ss_ret se_bl) ss_next)
  (ss_seq (ss_asg (se_callD (sa_cons se_var (sa_cons se_var (sa_cons se_var (sa_cons se_var sa_nil))))) sg_name)
  (ss_seq (ss_if (st_and (st_not (st_tru se_var)) (st_test (se_2 o_isNot se_var se_non))) (ss_ret se_bl) ss_next)
  (ss_if (st_and (st_tru se_var) (st_not (st_tru (se_callD (sa_cons se_var (sa_cons se_var (sa_cons se_var (sa_cons se_var (sa_cons se_var sa_nil))))))))) (ss_ret se_bl) ss_next))))))) ss_next)))
  (ss_seq (ss_asg (se_callD (sa_cons se_var (sa_cons se_var sa_nil))) sg_name)
  (ss_seq (ss_if (st_or (st_not (st_tru (se_callD (sa_cons (se_callD (sa_cons se_var (sa_cons se_var sa_nil))) (sa_cons (se_n o_tuple (sa_cons se_var sa_nil)) sa_nil))))) (st_not (st_tru (se_callD (sa_cons (se_callD (sa_cons se_var (sa_cons se_var sa_nil))) (sa_cons se_var sa_nil)))))) (ss_ret se_bl) ss_next)
  (ss_seq (ss_for (si_seq (se_callD (sa_cons se_var sa_nil))) sg_name (ss_seq (ss_asg se_int sg_name)
  (ss_seq (ss_for (si_seq se_var) sg_name (ss_seq (ss_asg (se_n o_len (sa_cons (se_l (sl_lc (si_seq se_var) (by decide) sg_name (st_test (se_2 o_in se_var se_var)) se_var)) sa_nil)) sg_name)
  (ss_if (st_test (se_chain o_lt o_lt se_int se_var (se_n o_len (sa_cons se_var sa_nil)))) (ss_asg (se_2 o_add se_var se_int) sg_name) ss_next)))
  (ss_seq (ss_asg (se_callD (sa_cons se_var (sa_cons se_var (sa_cons se_var sa_nil)))) sg_name)
  (ss_if (st_or (st_test (se_2 o_ne se_var (se_2 o_eq se_var se_int))) (st_not (st_tru (se_callD (sa_cons (se_callD (sa_cons se_var (sa_cons se_var (sa_cons se_var sa_nil)))) (sa_cons se_var sa_nil)))))) (ss_ret se_bl) ss_next)))))
  (ss_ret se_bl)))))))⟩
theorem cal__is_idle (T : TX K mg) : CalG P w K mg base 3 d__is_idle [("sizes" : Str), ("table" : Str), ("house" : Str)] (spP K mg M__is_idle) := by
  have c_corner_places : CalG P w K mg base 2 d_corner_places [("sizes" : Str), ("lot" : Str)] (spP K mg M_corner_places) := cal_corner_places T
  have c_spans_of : CalG P w K mg base 1 d_spans_of [("sizes" : Str)] (spP K mg M_spans_of) := cal_spans_of T
  have f_len : mg "len" = none := T.free "len" (mem_at 57 rfl)
  have f_range : mg "range" = none := T.free "range" (mem_at 61 rfl)
  obtain ⟨fd, F0⟩ := T.says.def_ (d := d__is_idle) (mem_at 48 rfl)
  have F : FunD K d__is_idle.name d__is_idle.qual d__is_idle.params d__is_idle.body d__is_idle.scope [] [] (He.fAd K d__is_idle.at_) fd := F0
  have B : Binds K fd [("sizes" : Str), ("table" : Str), ("house" : Str)] [] := F.bindsN fun _ _ _ _ _ _ us hl => match us, hl with | [_, _, _], _ => rfl
  have glo : mg d__is_idle.name = some (.ref (He.fAd K d__is_idle.at_)) := T.glo "_is_idle" (mem_at 48 rfl)
  refine ⟨⟨fd, F, ?_, B⟩, glo⟩
  refine fnP_ok F sc__is_idle (by decide) ?_
  intro cdv A outer s H E hgd hr
  exact ⟨_, (pss_cons (ps_set (i := 3) sc__is_idle.nd rfl (Or.inl rfl) (pe_ix ix_seq (pe_cal c_spans_of hgd hr (by decide) (passE (takes_of rfl rfl rfl rfl)) (pa_cons (pv 0) pa_nil)) (pv 2) fun _ _ => rfl))
  (pss_cons (ps_for (passes_of rfl) rfl (pi_seq (pe_cal c_corner_places hgd hr (by decide) (passE (takes_of rfl rfl rfl rfl)) (pa_cons (pv 0) (pa_cons (pe_lc (own := [(("near" : Str), 6)]) (g := gName 6) rfl sc__is_idle.nd (pi_range1 (by rfl) (by exact f_range) (pa_cons (pe_callB call_len_seq (by rfl) (by exact f_len) (by decide +kernel) (pa_cons (pv 0) pa_nil)) pa_nil)) (blkOk_by (own := [(("near" : Str), 6)]) (N := N__is_idle) (sc := d__is_idle.scope) (by decide +kernel)) (fun _ _ _ _ _ => pg_name (i := 6) sc__is_idle.nd rfl (by first | exact Or.inl rfl | exact Or.inr rfl)) (fun _ _ _ _ _ => pts_one (pt_cmpR (op_neG (room65 hr)) (pv 6) (pv 2) (nomark _))) (fun _ _ _ _ _ => (pv 6))) pa_nil)))) (pg_name (i := 4) sc__is_idle.nd rfl (Or.inl rfl)) (pss_one (ps_for (passes_of rfl) rfl (pi_range2 (by rfl) (by exact f_range) (pa_cons pe_int (pa_cons (pe_ix ix_seq (pv 0) (pv 2) fun _ _ => rfl) pa_nil))) (pg_name (i := 5) sc__is_idle.nd rfl (Or.inl rfl)) (pss_one (ps_if (pt_cmpR (op_neG (room65 hr)) (pe_ix ix_seq (pv 1) (pe_op op_add3 (pv 4) (pe_op op_mulX (pv 5) (pv 3))) fun _ _ => rfl) (pe_ix ix_seq (pv 1) (pv 4) fun _ _ => rfl) (nomark _)) (pss_one (ps_ret pe_bl)) pss_nil)))))
  (pss_one (ps_ret pe_bl)))),
  (ss_seq (ss_asg (se_2 o_ix (se_callD (sa_cons se_var sa_nil)) se_var) sg_name)
  (ss_seq (ss_for (si_seq (se_callD (sa_cons se_var (sa_cons (se_l (sl_lc (si_rng1 (sa_cons (se_n o_len (sa_cons se_var sa_nil)) sa_nil)) (by decide) sg_name (st_test (se_2 o_ne se_var se_var)) se_var)) sa_nil)))) sg_name (ss_for (si_rng2 (sa_cons se_int (sa_cons (se_2 o_ix se_var se_var) sa_nil))) sg_name (ss_if (st_test (se_2 o_ne (se_2 o_ix se_var (se_2 o_add se_var (se_2 o_mul se_var se_var))) (se_2 o_ix se_var se_var))) (ss_ret se_bl) ss_next)))
  (ss_ret se_bl)))⟩
theorem cal_idle_houses (T : TX K mg) : CalG P w K mg base 6 d_idle_houses [("sizes" : Str), ("table" : Str)] (spP K mg M_idle_houses) := by
  have c_a_want : CalG P w K mg base 3 d_a_want [("good" : Str), ("word" : Str)] (spP K mg M_a_want) := cal_a_want T
  have c_is_sizes : CalG P w K mg base 4 d_is_sizes [("thing" : Str)] (spP K mg M_is_sizes) := cal_is_sizes T
  have c_is_table : CalG P w K mg base 5 d_is_table [("sizes" : Str), ("thing" : Str)] (spP K mg M_is_table) := cal_is_table T
  have c__is_idle : CalG P w K mg base 3 d__is_idle [("sizes" : Str), ("table" : Str), ("house" : Str)] (spP K mg M__is_idle) := cal__is_idle T
  have f_len : mg "len" = none := T.free "len" (mem_at 57 rfl)
  have f_range : mg "range" = none := T.free "range" (mem_at 61 rfl)
  have f_tuple : mg "tuple" = none := T.free "tuple" (mem_at 65 rfl)
  obtain ⟨fd, F0⟩ := T.says.def_ (d := d_idle_houses) (mem_at 49 rfl)
  have F : FunD K d_idle_houses.name d_idle_houses.qual d_idle_houses.params d_idle_houses.body d_idle_houses.scope [] [] (He.fAd K d_idle_houses.at_) fd := F0
  have B : Binds K fd [("sizes" : Str), ("table" : Str)] [] := F.bindsN fun _ _ _ _ _ _ us hl => match us, hl with | [_, _], _ => rfl
  have glo : mg d_idle_houses.name = some (.ref (He.fAd K d_idle_houses.at_)) := T.glo "idle_houses" (mem_at 49 rfl)
  refine ⟨⟨fd, F, ?_, B⟩, glo⟩
  refine fnP_ok F sc_idle_houses (by decide) ?_
  intro cdv A outer s H E hgd hr
  exact ⟨_, (pss_cons (ps_expr (pe_cal c_a_want hgd hr (by decide) (passE (takes_of rfl rfl rfl rfl)) (pa_cons (pe_cal c_is_sizes hgd hr (by decide) (passE (takes_of rfl rfl rfl rfl)) (pa_cons (pv 0) pa_nil)) (pa_cons pe_str pa_nil))))
  (pss_cons (ps_expr (pe_cal c_a_want hgd hr (by decide) (passE (takes_of rfl rfl rfl rfl)) (pa_cons (pe_cal c_is_table hgd hr (by decide) (passE (takes_of rfl rfl rfl rfl)) (pa_cons (pv 0) (pa_cons (pv 1) pa_nil))) (pa_cons pe_str pa_nil))))
  (pss_one (ps_ret (pe_callTy call_tuple_of (by rfl) (by exact f_tuple) (by decide +kernel) (pa_cons (pe_lc (own := [(("house" : Str), 2)]) (g := gName 2) rfl sc_idle_houses.nd (pi_range1 (by rfl) (by exact f_range) (pa_cons (pe_callB call_len_seq (by rfl) (by exact f_len) (by decide +kernel) (pa_cons (pv 0) pa_nil)) pa_nil)) (blkOk_by (own := [(("house" : Str), 2)]) (N := N_idle_houses) (sc := d_idle_houses.scope) (by decide +kernel)) (fun _ _ _ _ _ => pg_name (i := 2) sc_idle_houses.nd rfl (by first | exact Or.inl rfl | exact Or.inr rfl)) (fun _ _ _ _ _ => pts_one (pt_truth (pe_cal c__is_idle hgd hr (by decide) passF (pa_cons (pv 0) (pa_cons (pv 1) (pa_cons (pv 2) pa_nil)))) fun _ => rfl)) (fun _ _ _ _ _ => (pv 2))) pa_nil)))))),
  (ss_seq (ss_drop (se_callD (sa_cons (se_callD (sa_cons se_var sa_nil)) (sa_cons se_str sa_nil))))
  (ss_seq (ss_drop (se_callD (sa_cons (se_callD (sa_cons se_var (sa_cons se_var sa_nil))) (sa_cons se_str sa_nil))))
  (ss_ret (se_n o_tuple (sa_cons (se_l (sl_lc (si_rng1 (sa_cons (se_n o_len (sa_cons se_var sa_nil)) sa_nil)) (by decide) sg_name (st_tru (se_callD (sa_cons se_var (sa_cons se_var (sa_cons se_var sa_nil))))) se_var)) sa_nil)))))⟩
theorem cal_law (T : TX K mg) : CalG P w K mg base 10 d_law [("_law_script" : Str)] (spP K mg M_law) := by
  have c__law_row : CalG P w K mg base 1 d__law_row [("_law_script" : Str), ("_law_many" : Str)] (spP K mg M__law_row) := cal__law_row T
  have c__law_sizes : CalG P w K mg base 1 d__law_sizes [("_law_row_here" : Str)] (spP K mg M__law_sizes) := cal__law_sizes T
  have c__law_table : CalG P w K mg base 3 d__law_table [("_law_row_here" : Str), ("_law_s" : Str), ("_law_start" : Str)] (spP K mg M__law_table) := cal__law_table T
  have c__law_idle : CalG P w K mg base 2 d__law_idle [("_law_s" : Str), ("_law_t" : Str)] (spP K mg M__law_idle) := cal__law_idle T
  have c_clumps_of : CalG P w K mg base 7 d_clumps_of [("sizes" : Str), ("table" : Str)] (spP K mg M_clumps_of) := cal_clumps_of T
  have c__law_pairs_right : CalG P w K mg base 9 d__law_pairs_right [("_law_s" : Str), ("_law_t" : Str)] (spP K mg M__law_pairs_right) := cal__law_pairs_right T
  have c__law_same : CalG P w K mg base 6 d__law_same [("_law_a" : Str), ("_law_b" : Str)] (spP K mg M__law_same) := cal__law_same T
  have c_idle_houses : CalG P w K mg base 6 d_idle_houses [("sizes" : Str), ("table" : Str)] (spP K mg M_idle_houses) := cal_idle_houses T
  have c__law_knit : CalG P w K mg base 2 d__law_knit [("_law_s" : Str), ("_law_t" : Str), ("_law_i" : Str), ("_law_j" : Str)] (spP K mg M__law_knit) := cal__law_knit T
  have c__law_classes : CalG P w K mg base 1 d__law_classes [("_law_n" : Str), ("_law_pairs" : Str)] (spP K mg M__law_classes) := cal__law_classes T
  have c_knit_pairs : CalG P w K mg base 6 d_knit_pairs [("sizes" : Str), ("table" : Str)] (spP K mg M_knit_pairs) := cal_knit_pairs T
  have f_len : mg "len" = none := T.free "len" (mem_at 57 rfl)
  have f_range : mg "range" = none := T.free "range" (mem_at 61 rfl)
  have f_tuple : mg "tuple" = none := T.free "tuple" (mem_at 65 rfl)
  obtain ⟨fd, F0⟩ := T.says.def_ (d := d_law) (mem_at 50 rfl)
  have F : FunD K d_law.name d_law.qual d_law.params d_law.body d_law.scope [] [] (He.fAd K d_law.at_) fd := F0
  have B : Binds K fd [("_law_script" : Str)] [] := F.bindsN fun _ _ _ _ _ _ us hl => match us, hl with | [_], _ => rfl
  have glo : mg d_law.name = some (.ref (He.fAd K d_law.at_)) := T.glo "law" (mem_at 50 rfl)
  refine ⟨⟨fd, F, ?_, B⟩, glo⟩
  refine fnP_ok F sc_law (by decide) ?_
  intro cdv A outer s H E hgd hr
  exact ⟨_, (pss_cons (ps_set (i := 1) sc_law.nd rfl (Or.inl rfl) (pe_cal c__law_row hgd hr (by decide) (passE (takes_of rfl rfl rfl rfl)) (pa_cons (pv 0) (pa_cons pe_int pa_nil))))
  (pss_cons (ps_set (i := 2) sc_law.nd rfl (Or.inl rfl) (pe_cal c__law_sizes hgd hr (by decide) (passE (takes_of rfl rfl rfl rfl)) (pa_cons (pv 1) pa_nil)))
  (pss_cons (ps_set (i := 3) sc_law.nd rfl (Or.inl rfl) (pe_cal c__law_table hgd hr (by decide) (passE (takes_of rfl rfl rfl rfl)) (pa_cons (pv 1) (pa_cons (pv 2) (pa_cons pe_int pa_nil)))))
  (pss_cons (ps_if (pt_not (pt_truth (pe_cal c__law_pairs_right hgd hr (by decide) (passE (takes_of rfl rfl rfl rfl)) (pa_cons (pv 2) (pa_cons (pv 3) pa_nil))) fun _ => rfl)) (pss_one (ps_ret pe_bl)) pss_nil)
  (pss_cons (ps_set (i := 4) sc_law.nd rfl (Or.inl rfl) (pe_cal c__law_idle hgd hr (by decide) (passE (takes_of rfl rfl rfl rfl)) (pa_cons (pv 2) (pa_cons (pv 3) pa_nil))))
  (pss_cons (ps_if (pt_not (pt_truth (pe_cal c__law_same hgd hr (by decide) (passE (takes_of rfl rfl rfl rfl)) (pa_cons (pe_cal c_idle_houses hgd hr (by decide) (passE (takes_of rfl rfl rfl rfl)) (pa_cons (pv 2) (pa_cons (pv 3) pa_nil))) (pa_cons (pv 4) pa_nil))) fun _ => rfl)) (pss_one (ps_ret pe_bl)) pss_nil)
  (pss_cons (ps_set (i := 5) sc_law.nd rfl (Or.inl rfl) (pe_cal c_clumps_of hgd hr (by decide) (passE (takes_of rfl rfl rfl rfl)) (pa_cons (pv 2) (pa_cons (pv 3) pa_nil))))
  (pss_cons (ps_set (i := 6) sc_law.nd rfl (Or.inl rfl) (pe_cal c__law_table hgd hr (by decide) (passE (takes_of rfl rfl rfl rfl)) (pa_cons (pv 1) (pa_cons (pv 2) (pa_cons pe_int pa_nil)))))
  (pss_cons (ps_if (pt_not (pt_truth (pe_cal c__law_same hgd hr (by decide) (passE (takes_of rfl rfl rfl rfl)) (pa_cons (pe_cal c_idle_houses hgd hr (by decide) (passE (takes_of rfl rfl rfl rfl)) (pa_cons (pv 2) (pa_cons (pv 6) pa_nil))) (pa_cons (pe_cal c__law_idle hgd hr (by decide) (passE (takes_of rfl rfl rfl rfl)) (pa_cons (pv 2) (pa_cons (pv 6) pa_nil))) pa_nil))) fun _ => rfl)) (pss_one (ps_ret pe_bl)) pss_nil)
  (pss_cons (ps_set (i := 7) sc_law.nd rfl (Or.inl rfl) (pe_lst pa_nil))
  (pss_cons (ps_for (passes_of rfl) rfl (pi_range1 (by rfl) (by exact f_range) (pa_cons (pe_callB call_len_seq (by rfl) (by exact f_len) (by decide +kernel) (pa_cons (pv 2) pa_nil)) pa_nil)) (pg_name (i := 8) sc_law.nd rfl (Or.inl rfl)) (pss_one (ps_for (passes_of rfl) rfl (pi_range2 (by rfl) (by exact f_range) (pa_cons (pe_op op_add3 (pv 8) pe_int) (pa_cons (pe_callB call_len_seq (by rfl) (by exact f_len) (by decide +kernel) (pa_cons (pv 2) pa_nil)) pa_nil))) (pg_name (i := 9) sc_law.nd rfl (Or.inl rfl)) (pss_one (ps_if (pt_truth (pe_cal c__law_knit hgd hr (by decide) (passE (takes_of rfl rfl rfl rfl)) (pa_cons (pv 2) (pa_cons (pv 6) (pa_cons (pv 8) (pa_cons (pv 9) pa_nil))))) fun _ => rfl) (pss_one (ps_expr (pe_bm PySem.F.plainAttrs_list PySem.F.slot_list_append PySem.F.type_list_append mt_append (pv 7) (pa_cons (pe_tup (pa_cons (pv 8) (pa_cons (pv 9) pa_nil))) pa_nil)))) pss_nil)))))
  (pss_cons (ps_if (PW.pt (pw_or (pt_not (pt_truth (pe_cal c__law_same hgd hr (by decide) (passE (takes_of rfl rfl rfl rfl)) (pa_cons (pe_cal c_clumps_of hgd hr (by decide) (passE (takes_of rfl rfl rfl rfl)) (pa_cons (pv 2) (pa_cons (pv 6) pa_nil))) (pa_cons (pe_cal c__law_classes hgd hr (by decide) (passE (takes_of rfl rfl rfl rfl)) (pa_cons (pe_callB call_len_seq (by rfl) (by exact f_len) (by decide +kernel) (pa_cons (pv 2) pa_nil)) (pa_cons (pv 7) pa_nil))) pa_nil))) fun _ => rfl)) (pw_or1 (pt_not (pt_truth (pe_cal c__law_same hgd hr (by decide) (passE (takes_of rfl rfl rfl rfl)) (pa_cons (pe_cal c_knit_pairs hgd hr (by decide) (passE (takes_of rfl rfl rfl rfl)) (pa_cons (pv 2) (pa_cons (pv 6) pa_nil))) (pa_cons (pe_callTy call_tuple_of (by rfl) (by exact f_tuple) (by decide +kernel) (pa_cons (pv 7) pa_nil)) pa_nil))) fun _ => rfl))))) (pss_one (ps_ret pe_bl)) pss_nil)
  (pss_one (ps_ret (pe_and (pe_cal c__law_same hgd hr (by decide) (passE (takes_of rfl rfl rfl rfl)) (pa_cons (pe_cal c_clumps_of hgd hr (by decide) (passE (takes_of rfl rfl rfl rfl)) (pa_cons (pv 2) (pa_cons (pv 3) pa_nil))) (pa_cons (pv 5) pa_nil))) (pe_one (pe_cal c__law_same hgd hr (by decide) (passE (takes_of rfl rfl rfl rfl)) (pa_cons (pe_cal c_idle_houses hgd hr (by decide) (passE (takes_of rfl rfl rfl rfl)) (pa_cons (pv 2) (pa_cons (pv 3) pa_nil))) (pa_cons (pv 4) pa_nil))))))))))))))))))),
  (ss_seq (ss_asg (se_callD (sa_cons se_var (sa_cons se_int sa_nil))) sg_name)
  (ss_seq (ss_asg (se_callD (sa_cons se_var sa_nil)) sg_name)
  (ss_seq (ss_asg (se_callD (sa_cons se_var (sa_cons se_var (sa_cons se_int sa_nil)))) sg_name)
  (ss_seq (ss_if (st_not (st_tru (se_callD (sa_cons se_var (sa_cons se_var sa_nil))))) (ss_ret se_bl) ss_next)
  (ss_seq (ss_asg (se_callD (sa_cons se_var (sa_cons se_var sa_nil))) sg_name)
  (ss_seq (ss_if (st_not (st_tru (se_callD (sa_cons (se_callD (sa_cons se_var (sa_cons se_var sa_nil))) (sa_cons se_var sa_nil))))) (ss_ret se_bl) ss_next)
  (ss_seq (ss_asg (se_callD (sa_cons se_var (sa_cons se_var sa_nil))) sg_name)
  (ss_seq (ss_asg (se_callD (sa_cons se_var (sa_cons se_var (sa_cons se_int sa_nil)))) sg_name)
  (ss_seq (ss_if (st_not (st_tru (se_callD (sa_cons (se_callD (sa_cons se_var (sa_cons se_var sa_nil))) (sa_cons (se_callD (sa_cons se_var (sa_cons se_var sa_nil))) sa_nil))))) (ss_ret se_bl) ss_next)
  (ss_seq (ss_asgO (sl_lst sa_nil))
  (ss_seq (ss_for (si_rng1 (sa_cons (se_n o_len (sa_cons se_var sa_nil)) sa_nil)) sg_name (ss_for (si_rng2 (sa_cons (se_2 o_add se_var se_int) (sa_cons (se_n o_len (sa_cons se_var sa_nil)) sa_nil))) sg_name (ss_if (st_tru (se_callD (sa_cons se_var (sa_cons se_var (sa_cons se_var (sa_cons se_var sa_nil)))))) (ss_app (se_tup (sa_cons se_var (sa_cons se_var sa_nil)))) ss_next)))
  (ss_seq (ss_if (st_or (st_not (st_tru (se_callD (sa_cons (se_callD (sa_cons se_var (sa_cons se_var sa_nil))) (sa_cons (se_callD (sa_cons (se_n o_len (sa_cons se_var sa_nil)) (sa_cons se_var sa_nil))) sa_nil))))) (st_not (st_tru (se_callD (sa_cons (se_callD (sa_cons se_var (sa_cons se_var sa_nil))) (sa_cons (se_n o_tuple (sa_cons se_var sa_nil)) sa_nil)))))) (ss_ret se_bl) ss_next)
  (ss_ret (se_and (se_callD (sa_cons (se_callD (sa_cons se_var (sa_cons se_var sa_nil))) (sa_cons se_var sa_nil))) (se_callD (sa_cons (se_callD (sa_cons se_var (sa_cons se_var sa_nil))) (sa_cons se_var sa_nil)))))))))))))))))⟩
end
end K07
end

section
set_option Elab.async false
set_option linter.all false
set_option maxRecDepth 100000
set_option maxHeartbeats 0
/-! K07P: the head and the end. -/
namespace K07
open PySem PySem.Spec PyProof.Rows L2 Mir
abbrev R : PySem.W.OpenRow := PySem.W.OpenLaw.row PySem.Challenge.rw_closereckoned_k07_whole_seams_and_clumps
abbrev lawAt : Nat := 62
abbrev hk : PySem.W.Hook := hookM 4 faL fnL ysL
def ob (s : PySem.W.SharedT) : AlM := obsMG 4 faL fnL ysL (HandSHeadRun.getT s)
theorem ob_eq (s : PySem.W.SharedT) : ob s = hk.obs s.abs := obsMG_eq (HandSHeadRun.getT_eq s)
def namesA : List PySem.Str := ["ReckonError", "GroundError", "NotUsable", "a_want", "integer_fits", "number_fits", "many_fits", "sizes_fit", "setting_fits", "house_fits", "lot_fits", "spans_of", "many_settings", "place_by", "setting_by", "corner_places", "odd_spot", "is_number", "is_bit", "is_sizes", "is_setting", "is_lot", "is_table", "_want_houses", "odd_four", "are_knit", "knit_pairs", "clumps_of", "idle_houses", "_is_idle"]
def namesB : List PySem.Str := ["is_four", "_is_change", "_changed", "four_settings", "is_odd", "is_seam", "_law_row", "_law_same", "_law_settings", "_law_steps", "_law_sizes", "_law_on", "_law_summed", "_law_by_terms", "_law_table", "_law_odd_sum", "_law_knit", "_law_classes", "_law_lots", "_law_seam", "_law_four_right", "_law_idle", "_law_pairs_right"]
def names1 : List PySem.Str := namesA ++ namesB
theorem run (w : World) : HandSHeadRun.RunEq R (PySem.W.view R.prog [lawAt]) hk ob 4000 names1 w := by
  intro os
  kernel_rfl
theorem facts {P : Program} {w : World} {K : PySem.W.Frag} {h : Heap} {mg : Str → Option Value} {f : Addr} (X : K.In h) (G : h.Ns mainGlobals mg) (hfa : mg ("law" : Str) = some (.ref f)) (c : SaysM faL fnL ysL K) :
    ∃ fd : FuncData, (∀ (s : Shared) (u : Value), BindsTo s fd ⟨[u], []⟩ [(("_law_script" : Str), u)]) ∧ ∀ base : Heap, K.In base → base.Ns mainGlobals mg → FnG P w K mg base (L2.CX P w) 10 f fd [("_law_script" : Str)] (spP K mg M_law) := by
  have T : TX K mg := tx_of X G c
  obtain ⟨⟨fd, F, _, _⟩, glo⟩ := cal_law (P := P) (w := w) (base := h) T
  have e := hfa.symm.trans glo
  injection e with e
  injection e with e
  subst e
  have b := FunD.bindsA (ps := [("_law_script" : Str)]) F fun _ _ _ _ _ _ us hl => match us, hl with | [_], _ => rfl
  refine ⟨fd, fun s u => b s [u] rfl, fun base _ _ => ?_⟩
  obtain ⟨⟨fd2, F2, Fn, _⟩, _⟩ := cal_law (P := P) (w := w) (base := base) T
  have e2 : fd2 = fd := by
    obtain ⟨_, _, _, _, _, _, _, _, _, _, _, l1, _⟩ := F.ex
    obtain ⟨_, _, _, _, _, _, _, _, _, _, _, l2, _⟩ := F2.ex
    rw [l1] at l2
    cases l2
    rfl
  rw [← e2]
  exact Fn
end K07
open PySem PySem.W PySem.Calls PyProof.Rows
theorem PySem.Challenge.cw_closereckoned_k07_whole_seams_and_clumps_holds : PySem.Challenge.rw_closereckoned_k07_whole_seams_and_clumps.Holds := by
  w_on; o_law
  refine HandSHeadRun.head_any (r := OpenLaw.row PySem.Challenge.rw_closereckoned_k07_whole_seams_and_clumps) (q := view (OpenLaw.row PySem.Challenge.rw_closereckoned_k07_whole_seams_and_clumps).prog [K07.lawAt]) (H := K07.hk) (ob := K07.ob) (M := 4000) (loose := K07.names1) (d := HandSHeadRun.topDef (OpenLaw.row PySem.Challenge.rw_closereckoned_k07_whole_seams_and_clumps).prog K07.lawAt) (kwd := []) K07.ob_eq
    (by kernel_rfl) (fun s => by kernel_rfl) K07.run (by kernel_rfl) (by kernel_rfl) (by kernel_rfl) (by rfl) (by first | assumption | decide +kernel) (by decide +kernel) ⟨rfl, rfl, rfl, rfl, rfl, by decide +kernel⟩ ?hw ?hc
  case hw => w_witness2
  case hc =>
    refine Mir.walk_ofG (l := PySem.Challenge.rw_closereckoned_k07_whole_seams_and_clumps) (n := 63) (k := 10) (x := "_law_script") rfl (by decide) (by kernel_rfl) ⟨rfl, by decide, by decide⟩ ?F
    intro w mg fa h Y G hmg0
    obtain ⟨K, KX, c⟩ := Y
    have hmg : mg ("law" : PySem.Str) = some (.ref fa) := by
      have e : (HandSHeadRun.topDef (OpenLaw.row PySem.Challenge.rw_closereckoned_k07_whole_seams_and_clumps).prog K07.lawAt).name = ("law" : PySem.Str) := by kernel_rfl
      rw [← e]
      exact hmg0
    obtain ⟨fd, hb, hF⟩ := K07.facts (P := (PySem.Challenge.rw_closereckoned_k07_whole_seams_and_clumps).prog) (w := w) KX G hmg c
    refine ⟨K, fd, Mir.spP K mg K07.M_law, KX, hb, fun H a ns hl hbits hS => ⟨H, [.list (ns.map PyData.int)], L2.Same.refl _, .cons (.lst hS (Mir.dpa_of_ints ns)) .nil, ?_⟩, hF⟩
    rw [K07.law_true ns hl]
    intro v G' H' f hd
    cases hd
    rfl
end
